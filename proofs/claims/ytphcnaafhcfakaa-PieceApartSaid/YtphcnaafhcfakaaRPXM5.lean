/-
  Parts of one sender make no difference to another one. Conditions: none.
-/
import Derived.Test.YtphcnaafhcfakaaRPXM4

namespace Go.Proofs.Ytphcnaafhcfakaa
open Go.Hb
attribute [local irreducible] LR CW At Ev thn blk finK noG again CallsTo DW QL dnext TW DP
set_option linter.unusedSimpArgs false
set_option linter.unusedVariables false
set_option maxRecDepth 100000

theorem lookJ_mem {A : Jn} (h : (A.map Prod.fst).Nodup) {k : Int × Int} {l : List Msg} : lookJ A k = some l ↔ (k, l) ∈ A := by
  constructor
  · intro hl
    unfold lookJ at hl
    cases hf : A.find? (fun p => decide (p.1 = k)) with
    | none => rw [hf] at hl; cases hl
    | some p =>
      rw [hf] at hl
      simp only [Option.map_some, Option.some.injEq] at hl
      have hk : p.1 = k := by simpa using List.find?_some hf
      have := List.mem_of_find?_eq_some hf
      rw [← hk, ← hl]
      exact this
  · intro hm
    obtain ⟨P, Q, rfl⟩ := List.append_of_mem hm
    exact (lookK h).1
theorem lookJ_perm {A K : Jn} (hp : A.Perm K) (h : (A.map Prod.fst).Nodup) (k : Int × Int) : lookJ A k = lookJ K k := by
  have h2 : (K.map Prod.fst).Nodup := (hp.map _).nodup_iff.1 h
  apply Option.ext
  intro l
  rw [lookJ_mem h, lookJ_mem h2]
  exact hp.mem_iff
theorem OkJ.perm {A K : Jn} (hp : A.Perm K) (h : OkJ A) : OkJ K := ⟨(hp.map _).nodup_iff.1 h.nd, fun p hm => h.ok p (hp.mem_iff.2 hm)⟩
theorem putJ_perm {A K : Jn} (hp : A.Perm K) (h : OkJ A) (m : Msg) : (putJ A m).A.Perm (putJ K m).A ∧ (putJ A m).out = (putJ K m).out ∧ (putJ A m).is = (putJ K m).is ∧ (putJ A m).e = (putJ K m).e := by
  have hr : (restJ A (kOf m)).Perm (restJ K (kOf m)) := hp.filter _
  have hc : contJ A m = contJ K m := by unfold contJ; rw [lookJ_perm hp h.nd]
  by_cases hg : check m = 0 ∧ m.kind = 1
  · cases hk : contJ K m with
    | none => rw [putJ_none hg (hc.trans hk), putJ_none hg hk]; exact ⟨hr, rfl, rfl, rfl⟩
    | some l =>
      by_cases hq : (l.length : Int) + 1 < m.parts
      · rw [putJ_more hg (hc.trans hk) hq, putJ_more hg hk hq]; exact ⟨hr.append_right _, rfl, rfl, rfl⟩
      · rw [putJ_whole hg (hc.trans hk) hq, putJ_whole hg hk hq]; exact ⟨hr, rfl, rfl, rfl⟩
  · rw [putJ_bad hg, putJ_bad hg]; exact ⟨hp, rfl, rfl, rfl⟩
theorem putJ_len {A : Jn} (h : OkJ A) (m : Msg) : (putJ A m).out.length ≤ 240 := by
  by_cases hg : check m = 0 ∧ m.kind = 1
  · cases hk : contJ A m with
    | none => rw [putJ_none hg hk]; simp
    | some l =>
      by_cases hq : (l.length : Int) + 1 < m.parts
      · rw [putJ_more hg hk hq]; simp
      · rw [putJ_whole hg hk hq]; exact (OkL.len (cont_len h hg hk).2).2
  · rw [putJ_bad hg]; simp
theorem rO_rd {b : Nat} {A : Option Addr} {C : Nat} {rs : List RW} {n : Nat} {w : World} (h : (rO b A C rs).holds w) (hn : rs.length = n) : Rd w (some ⟨b, 0, none⟩) [.slice A n C] := by
  have := (rQ_rd h.1).1
  rwa [hn] at this
set_option maxHeartbeats 8000000 in
theorem g4 (al : Option Addr) (cl : Nat) (l : List MsgA) (w : World) (hr : Rd w al (l.flatMap MsgA.row)) (hR : ∀ x ∈ l, MR w x) (hm : l.length * 120 ≤ 140737488351232) :
    CallsTo Try.prog 4 [.slice al l.length cl] w fun v w' => v = .bool true ∧ Grew w w' := by
  refine go_in (n := 114) (St.rd1 hr) Try.func4 rfl rfl ?_
  repeat'(first|(apply kp;iterate 2 exact rfl)|apply jJ|(apply jE;exact rfl)|(apply jp;exact rfl)|(apply jc;kernel_rfl)|((first|apply kf|apply kn|apply ke|apply kx|apply kc|apply kb);iterate 2 exact rfl)|((first|apply kz|apply ky);(·exact rfl);(·repeat(first|exact iO|exact iR rfl|apply iT));iterate 2 exact rfl)|(apply kg;iterate 2 exact rfl)|(apply kG;iterate 3 exact rfl)|(apply kB;(iterate 2 exact rfl);intro _)|(apply kA;exact rfl;intro _)|(apply kK;(iterate 4 exact rfl);intro _)|(apply kU;(iterate 2 exact rfl);(·repeat(first|exact sH _ _ _|apply sT));(first|exact nfL_eq rfl|exact rfl);exact rfl)|((first|apply kh|apply kl);(iterate 2 exact rfl);(first|decide|omega);exact rfl)|((first|(apply kR;iterate 2 exact rfl)|(apply kQ;exact rfl));all_goals(intro hc;try simp only[hcs]at hc;try(exfalso;first|contradiction|omega))))
  apply LR.call
  · exact rfl
  intro w1 h1
  refine (g20 w1).mono ?_
  rintro v w2 ⟨ba, ra, rfl, st⟩
  refine LR.back (h1.pushL st (fun x hx => by simp at hx; subst hx; rfl)) ?_
  clear h1 st
  repeat'(first|(apply kp;iterate 2 exact rfl)|apply jJ|(apply jE;exact rfl)|(apply jp;exact rfl)|(apply jc;kernel_rfl)|((first|apply kf|apply kn|apply ke|apply kx|apply kc|apply kb);iterate 2 exact rfl)|((first|apply kz|apply ky);(·exact rfl);(·repeat(first|exact iO|exact iR rfl|apply iT));iterate 2 exact rfl)|(apply kg;iterate 2 exact rfl)|(apply kG;iterate 3 exact rfl)|(apply kB;(iterate 2 exact rfl);intro _)|(apply kA;exact rfl;intro _)|(apply kK;(iterate 4 exact rfl);intro _)|(apply kU;(iterate 2 exact rfl);(·repeat(first|exact sH _ _ _|apply sT));(first|exact nfL_eq rfl|exact rfl);exact rfl)|((first|apply kh|apply kl);(iterate 2 exact rfl);(first|decide|omega);exact rfl)|((first|(apply kR;iterate 2 exact rfl)|(apply kQ;exact rfl));all_goals(intro hc;try simp only[hcs]at hc;try(exfalso;first|contradiction|omega))))
  apply LR.call
  · exact rfl
  intro w1 h1
  refine (g21 w1).mono ?_
  rintro v w2 ⟨bb, rfl, st⟩
  refine LR.back (h1.pushL st (fun x hx => by simp at hx; subst hx; rfl)) ?_
  clear h1 st
  repeat'(first|(apply kp;iterate 2 exact rfl)|apply jJ|(apply jE;exact rfl)|(apply jp;exact rfl)|(apply jc;kernel_rfl)|((first|apply kf|apply kn|apply ke|apply kx|apply kc|apply kb);iterate 2 exact rfl)|((first|apply kz|apply ky);(·exact rfl);(·repeat(first|exact iO|exact iR rfl|apply iT));iterate 2 exact rfl)|(apply kg;iterate 2 exact rfl)|(apply kG;iterate 3 exact rfl)|(apply kB;(iterate 2 exact rfl);intro _)|(apply kA;exact rfl;intro _)|(apply kK;(iterate 4 exact rfl);intro _)|(apply kU;(iterate 2 exact rfl);(·repeat(first|exact sH _ _ _|apply sT));(first|exact nfL_eq rfl|exact rfl);exact rfl)|((first|apply kh|apply kl);(iterate 2 exact rfl);(first|decide|omega);exact rfl)|((first|(apply kR;iterate 2 exact rfl)|(apply kQ;exact rfl));all_goals(intro hc;try simp only[hcs]at hc;try(exfalso;first|contradiction|omega))))
  apply LR.call
  · exact rfl
  intro w1 h1
  refine (g20 w1).mono ?_
  rintro v w2 ⟨bo, ro, rfl, st⟩
  refine LR.back (h1.pushL st (fun x hx => by simp at hx; subst hx; rfl)) ?_
  clear h1 st
  repeat'(first|(apply kp;iterate 2 exact rfl)|apply jJ|(apply jE;exact rfl)|(apply jp;exact rfl)|(apply jc;kernel_rfl)|((first|apply kf|apply kn|apply ke|apply kx|apply kc|apply kb);iterate 2 exact rfl)|((first|apply kz|apply ky);(·exact rfl);(·repeat(first|exact iO|exact iR rfl|apply iT));iterate 2 exact rfl)|(apply kg;iterate 2 exact rfl)|(apply kG;iterate 3 exact rfl)|(apply kB;(iterate 2 exact rfl);intro _)|(apply kA;exact rfl;intro _)|(apply kK;(iterate 4 exact rfl);intro _)|(apply kU;(iterate 2 exact rfl);(·repeat(first|exact sH _ _ _|apply sT));(first|exact nfL_eq rfl|exact rfl);exact rfl)|((first|apply kh|apply kl);(iterate 2 exact rfl);(first|decide|omega);exact rfl)|((first|(apply kR;iterate 2 exact rfl)|(apply kQ;exact rfl));all_goals(intro hc;try simp only[hcs]at hc;try(exfalso;first|contradiction|omega))))
  apply CW.loop [2, 6, 7, 8, 9, 10, 11, 12, 13, 14, 15, 19, 20, 21, 22, 23, 24, 25, 26, 27, 28, 29, 30, 31, 32, 33, 34, 35, 36, 37, 38, 39, 40, 41, 42, 43, 44, 45, 46, 47, 48, 49, 50, 51, 52, 53, 54, 55, 56, 57, 58, 59, 60, 61, 62, 63, 64, 65, 66, 67, 68, 69, 70, 71, 72, 73, 74, 75, 76, 77, 78, 79, 80, 81, 82, 83, 84, 85, 86, 87, 88, 89, 90, 91, 92, 93, 94, 95, 96, 97, 98, 99, 100, 101, 102, 103, 104, 105, 106, 107, 108, 109, 110, 111, 112] (fun s : Nat × List WayA × Option Addr × Nat × List RW × List WayA => s.1 ≤ l.length ∧ WsOk s.2.1 ∧ (s.2.1.map WayA.kl).Perm (s.2.2.2.2.1.map RW.kl) ∧ s.2.2.2.2.1.length ≤ s.1 ∧ WsOk s.2.2.2.2.2) (fun s => [(6, Value.int .i64 (s.1 : Int))])
    (fun s => St w NoF [jO bo ro s.2.2.2.2.2, rO bb s.2.2.1 s.2.2.2.1 s.2.2.2.2.1, jO ba ra s.2.1, rdA al (l.flatMap MsgA.row)]) (fun s => l.length - s.1)
  · exact fun w' hw' => ⟨(0, [], none, 0, [], []), ⟨by simp, WsOk.nil, List.Perm.refl _, by simp, WsOk.nil⟩, ⟨rfl, trivial⟩, hw'⟩
  rintro ⟨i, wa, Ab, Cb, rs, wo⟩ g ⟨hi, hwa, hpm, hrl, hwo⟩
  simp only at hi hwa hpm hrl hwo ⊢
  by_cases hlt : i < l.length
  · obtain ⟨bl, ol, rfl⟩ := hr.form (rows_ne MsgA.row_len (by omega) hlt)
    have hx := hR _ (List.getElem_mem hlt)
    have hxm := hx.hm
    have hlt2 : l.length - 1 - i < l.length := by omega
    have hy := hR _ (List.getElem_mem hlt2)
    repeat'(first|(apply kp;iterate 2 exact rfl)|apply jJ|(apply jE;exact rfl)|(apply jp;exact rfl)|(apply jc;kernel_rfl)|((first|apply kf|apply kn|apply ke|apply kx|apply kc|apply kb);iterate 2 exact rfl)|((first|apply kz|apply ky);(·exact rfl);(·repeat(first|exact iO|exact iR rfl|apply iT));iterate 2 exact rfl)|(apply kg;iterate 2 exact rfl)|(apply kG;iterate 3 exact rfl)|(apply kB;(iterate 2 exact rfl);intro _)|(apply kA;exact rfl;intro _)|(apply kK;(iterate 4 exact rfl);intro _)|(apply kU;(iterate 2 exact rfl);(·repeat(first|exact sH _ _ _|apply sT));(first|exact nfL_eq rfl|exact rfl);exact rfl)|((first|apply kh|apply kl);(iterate 2 exact rfl);(first|decide|omega);exact rfl)|(apply idxX;(iterate 2 exact rfl);(iterate 2(first|omega|(dsimp only;omega)));exact rfl)|(apply LR.ev; (· apply Ev.load_agg_at (cs := l[i].row); (· exact rfl); (· exact rfl); (· intro w' hw'; refine rd_row (l := l) (i := i) MsgA.row_len (hw'.rd_of (by (repeat (first | exact mH _ _ | apply mT)))) hlt ?_; (· simp; done))); (· exact rfl))|((first|(apply kR;iterate 2 exact rfl)|(apply kQ;exact rfl));all_goals(intro hc;try simp only[hcs]at hc;try(exfalso;first|contradiction|omega))))
    apply LR.call
    · exact rfl
    intro w1 h1
    refine CallsTo.mono (show CallsTo Try.prog 12 _ w1 _ from c14 l[i].m l[i].a l[i].c w1 (h1.oldRd hx.hr) hx.hz hx.hm) ?_
    rintro v w2 ⟨ai, ci, rfl, hn1⟩
    refine LR.back (h1.newSl hn1) ?_
    clear hn1 h1
    repeat'(first|(apply kA; (· exact rfl); intro b7)|(apply kp;iterate 2 exact rfl)|apply jJ|(apply jE;exact rfl)|(apply jp;exact rfl)|(apply jc;kernel_rfl)|((first|apply kf|apply kn|apply ke|apply kx|apply kc|apply kb);iterate 2 exact rfl)|((first|apply kz|apply ky);(·exact rfl);(·repeat(first|exact iO|exact iR rfl|apply iT));iterate 2 exact rfl)|(apply kg;iterate 2 exact rfl)|(apply kG;iterate 3 exact rfl)|(apply kB;(iterate 2 exact rfl);intro _)|(apply kA;exact rfl;intro _)|(apply kK;(iterate 4 exact rfl);intro _)|(apply kU;(iterate 2 exact rfl);(·repeat(first|exact sH _ _ _|apply sT));(first|exact nfL_eq rfl|exact rfl);exact rfl)|((first|apply kh|apply kl);(iterate 2 exact rfl);(first|decide|omega);exact rfl)|((first|(apply kR;iterate 2 exact rfl)|(apply kQ;exact rfl));all_goals(intro hc;try simp only[hcs]at hc;try(exfalso;first|contradiction|omega))))
    apply LR.call
    · exact rfl
    intro w1 h1
    have h1' := front h1 1 rfl rfl
    have hin := h1'.g0
    have hj := h1'.holds (jO ba ra wa) (by (repeat (first | exact mH _ _ | apply mT)))
    refine CallsTo.mono (show CallsTo Try.prog 22 _ w1 _ from g22 ba ra wa l[i].m ai ci w1 hj hwa (ownsRow_rd hin) (fun e => (ownsRow_some hin e).2) hx.hm hx.hb (fun k hk => h1'.apart (y := jO ba ra wa) (by (repeat (first | exact mH _ _ | apply mT))) rfl k (St.osl_foot hk))) ?_
    rintro v w2 ⟨px, pcx, wa1, rfl, hA1, hwa1, st⟩
    have h2 := h1.two st rfl rfl rfl (by (repeat (first | exact sH _ _ _ | apply sT)))
    refine LR.back h2 ?_
    clear h2 h1 h1' hin hj st
    have hpp := putJ_perm hpm hwa.ok l[i].m
    have hol := putJ_len hwa.ok l[i].m
    generalize hPa : putJ (wa.map WayA.kl) l[i].m = P at *
    repeat'(first|(apply kp;iterate 2 exact rfl)|apply jJ|(apply jE;exact rfl)|(apply jp;exact rfl)|(apply jc;kernel_rfl)|((first|apply kf|apply kn|apply ke|apply kx|apply kc|apply kb);iterate 2 exact rfl)|((first|apply kz|apply ky);(·exact rfl);(·repeat(first|exact iO|exact iR rfl|apply iT));iterate 2 exact rfl)|(apply kg;iterate 2 exact rfl)|(apply kG;iterate 3 exact rfl)|(apply kB;(iterate 2 exact rfl);intro _)|(apply kA;exact rfl;intro _)|(apply kK;(iterate 4 exact rfl);intro _)|(apply kU;(iterate 2 exact rfl);(·repeat(first|exact sH _ _ _|apply sT));(first|exact nfL_eq rfl|exact rfl);exact rfl)|((first|apply kh|apply kl);(iterate 2 exact rfl);(first|decide|omega);exact rfl)|(apply idxX;(iterate 2 exact rfl);(iterate 2(first|omega|(dsimp only;omega)));exact rfl)|(apply LR.ev; (· apply Ev.load_agg_at (cs := l[i].row); (· exact rfl); (· exact rfl); (· intro w' hw'; refine rd_row (l := l) (i := i) MsgA.row_len (hw'.rd_of (by (repeat (first | exact mH _ _ | apply mT)))) hlt ?_; (· simp; done))); (· exact rfl))|((first|(apply kR;iterate 2 exact rfl)|(apply kQ;exact rfl));all_goals(intro hc;try simp only[hcs]at hc;try(exfalso;first|contradiction|omega))))
    apply LR.call
    · exact rfl
    intro w1 h1
    have hh := g23 bb Ab Cb rs l[i].m l[i].a l[i].c w1 (h1.holds (rO bb Ab Cb rs) (by (repeat (first | exact mH _ _ | apply mT)))) (OkJ.perm hpm hwa.ok) (by omega) (h1.oldRd hx.hr) hx.hz hx.hm hx.hb (h1.oldApart (x := rO bb Ab Cb rs) (by (repeat (first | exact mH _ _ | apply mT))) rfl hx.hr)
    rw [← hpp.2.1, ← hpp.2.2.1, ← hpp.2.2.2] at hh
    refine CallsTo.mono (show CallsTo Try.prog 23 _ w1 _ from hh) ?_
    rintro v w2 ⟨py, pcy, Ab1, Cb1, rs1, rfl, hK1, hr1, st⟩
    have h2 := h1.two st rfl rfl rfl (by (repeat (first | exact sH _ _ _ | apply sT)))
    refine LR.back h2 ?_
    clear h2 h1 hh st
    have hpm1 : (wa1.map WayA.kl).Perm (rs1.map RW.kl) := by rw [hA1]; exact hpp.1.trans hK1.symm
    have hlen1 : rs1.length = wa1.length := by have := hpm1.length_eq; simpa using this.symm
    repeat'(first|(apply kp;iterate 2 exact rfl)|apply jJ|(apply jE;exact rfl)|(apply jp;exact rfl)|(apply jc;kernel_rfl)|((first|apply kf|apply kn|apply ke|apply kx|apply kc|apply kb);iterate 2 exact rfl)|((first|apply kz|apply ky);(·exact rfl);(·repeat(first|exact iO|exact iR rfl|apply iT));iterate 2 exact rfl)|(apply kg;iterate 2 exact rfl)|(apply kG;iterate 3 exact rfl)|(apply kB;(iterate 2 exact rfl);intro _)|(apply kA;exact rfl;intro _)|(apply kK;(iterate 4 exact rfl);intro _)|(apply kU;(iterate 2 exact rfl);(·repeat(first|exact sH _ _ _|apply sT));(first|exact nfL_eq rfl|exact rfl);exact rfl)|((first|apply kh|apply kl);(iterate 2 exact rfl);(first|decide|omega);exact rfl)|(apply LR.ev; (· first | (apply subQ (a := l.length) (b := 1) rfl; (· exact rfl); (· exact rfl); (· omega); (· omega)) | (apply subQ (a := l.length - 1) (b := i) rfl; (· exact rfl); (· exact rfl); (· omega); (· omega))); (· exact rfl))|(apply idxX;(iterate 2 exact rfl);(iterate 2(first|omega|(dsimp only;omega)));exact rfl)|(apply LR.ev; (· apply Ev.load_agg_at (cs := (l[l.length - 1 - i]'hlt2).row); (· exact rfl); (· exact rfl); (· intro w' hw'; refine rd_row (l := l) (i := l.length - 1 - i) MsgA.row_len (hw'.rd_of (by (repeat (first | exact mH _ _ | apply mT)))) hlt2 ?_; (· simp; done))); (· exact rfl))|((first|(apply kR;iterate 2 exact rfl)|(apply kQ;exact rfl));all_goals(intro hc;try simp only[hcs]at hc;try(exfalso;first|contradiction|omega))))
    apply LR.call
    · exact rfl
    intro w1 h1
    refine CallsTo.mono (show CallsTo Try.prog 22 _ w1 _ from g22 bo ro wo _ _ _ w1 (h1.holds (jO bo ro wo) (by (repeat (first | exact mH _ _ | apply mT)))) hwo (h1.oldRd hy.hr) hy.hz hy.hm hy.hb (h1.oldApart (x := jO bo ro wo) (by (repeat (first | exact mH _ _ | apply mT))) rfl hy.hr)) ?_
    rintro v w2 ⟨pz, pcz, wo1, rfl, _, hwo1, st⟩
    have h2 := h1.two st rfl rfl rfl (by (repeat (first | exact sH _ _ _ | apply sT)))
    refine LR.back h2 ?_
    clear h2 h1 st
    repeat'(first|(apply CW.reg_heldC)|(apply kp;iterate 2 exact rfl)|apply jJ|(apply jE;exact rfl)|(apply jp;exact rfl)|(apply jc;kernel_rfl)|((first|apply kf|apply kn|apply ke|apply kx|apply kc|apply kb);iterate 2 exact rfl)|((first|apply kz|apply ky);(·exact rfl);(·repeat(first|exact iO|exact iR rfl|apply iT));iterate 2 exact rfl)|(apply kg;iterate 2 exact rfl)|(apply kG;iterate 3 exact rfl)|(apply kB;(iterate 2 exact rfl);intro _)|(apply kA;exact rfl;intro _)|(apply kK;(iterate 4 exact rfl);intro _)|(apply kU;(iterate 2 exact rfl);(·repeat(first|exact sH _ _ _|apply sT));(first|exact nfL_eq rfl|exact rfl);exact rfl)|((first|apply kh|apply kl);(iterate 2 exact rfl);(first|decide|omega);exact rfl)|((first|(apply kR;iterate 2 exact rfl)|(apply kQ;exact rfl));all_goals(intro hc;try simp only[hcs]at hc;try(exfalso;first|contradiction|omega))))
    all_goals (
      apply DW.quiet [0, 1]
      · decide +kernel
      · first | exact fun _ h => h | exact fun _ h => St.sub h (by repeat (first | exact List.Sublist.refl _ | apply List.Sublist.cons_cons | apply List.Sublist.cons))
      repeat'(first|(apply yp;iterate 3 exact rfl)|(apply QL.ev;(·exact rfl);(·first|((first|apply Ez|apply Ey);(·exact rfl);(·repeat(first|exact iO|exact iR rfl|apply iT));exact rfl)|((first|apply Ev.fieldAddr|apply Ev.len|apply EqOf.eq|apply EqOf.ne|apply Ev.conv|apply Ev.buildN);exact rfl)|((first|apply Ev.shr|apply Ev.shl);(iterate 2 exact rfl);first|decide|omega));·exact rfl)|(apply QL.ev; (· exact rfl); (· first | (apply Ev.indexAddr; (· exact rfl); (· exact rfl); (· omega); (· omega)) | (apply Ev.load_agg_at (cs := l[i].row); (· exact rfl); (· exact rfl); (· intro w' hw'; refine rd_row (l := l) (i := i) MsgA.row_len (hw'.rd_of (by (repeat (first | exact mH _ _ | apply mT)))) hlt ?_; (· simp; done)))); (· exact rfl))|(apply QL.evg; (iterate 3 exact rfl); (· first | (apply Ev.indexAddr; (· exact rfl); (· exact rfl); (· omega); (· omega)) | (apply Ev.load_agg_at (cs := l[i].row); (· exact rfl); (· exact rfl); (· intro w' hw'; refine rd_row (l := l) (i := i) MsgA.row_len (hw'.rd_of (by (repeat (first | exact mH _ _ | apply mT)))) hlt ?_; (· simp; done)))); (· exact rfl))|(apply yq;iterate 5 exact rfl)|(apply QL.evg;(iterate 3 exact rfl);(·first|((first|apply Ez|apply Ey);(·exact rfl);(·repeat(first|exact iO|exact iR rfl|apply iT));exact rfl)|((first|apply Ev.fieldAddr|apply Ev.len|apply EqOf.eq|apply EqOf.ne|apply Ev.conv|apply Ev.buildN);exact rfl)|((first|apply Ev.shr|apply Ev.shl);(iterate 2 exact rfl);first|decide|omega));·exact rfl)|(apply yn;iterate 4 exact rfl)|((apply QL.split;iterate 3 exact rfl);all_goals(intro hc;try simp only[hcs]at hc;try(exfalso;first|contradiction|omega)))|apply QL.nil)
      all_goals (show DW _ _ _ _ _ _ _ _))
    all_goals (
      apply DW.loud 2
      · exact rfl
      · decide +kernel
      repeat'(first|(apply kg;iterate 2 exact rfl)|(apply kG;iterate 3 exact rfl)|apply kM|(apply kp;iterate 2 exact rfl)|((first|apply kz|apply ky);(·exact rfl);(·repeat(first|exact iO|exact iR rfl|apply iT));iterate 2 exact rfl)|(apply kK;(iterate 4 exact rfl);intro _)|(apply kU;(iterate 2 exact rfl);(·repeat(first|exact sH _ _ _|apply sT));(first|exact nfL_eq rfl|exact rfl);exact rfl)|(apply kB;(iterate 2 exact rfl);intro _)|(apply kA;exact rfl;intro _)|(apply kq; (· exact rfl); (· intro w1 h1; first | exact CallsTo.q (c19 px py pcx pcy P.out P.out w1 (h1.rd_of_own (by (repeat (first | exact mH _ _ | apply mT)))) (h1.rd_of_own (by (repeat (first | exact mH _ _ | apply mT)))) (by omega)) h1 | (have hj := jO_rd (h1.holds (jO ba ra wa1) (by (repeat (first | exact mH _ _ | apply mT)))); exact CallsTo.q (g24 ba ra wa1 w1 hj.1 hj.2) h1) | exact CallsTo.q (g25 bb Ab1 Cb1 wa1.length w1 (rO_rd (h1.holds (rO bb Ab1 Cb1 rs1) (by (repeat (first | exact mH _ _ | apply mT)))) hlen1)) h1 | (have hq := CallsTo.q (c20 l[i].m l[i].m ai l[i].a ci l[i].c w1 (h1.rd_of_own (by (repeat (first | exact mH _ _ | apply mT)))) (h1.oldRd hx.hr) hx.hm) h1; rw [sameB_self] at hq; show CallsTo Try.prog 17 [l[i].m.val ai ci, l[i].m.val l[i].a l[i].c] w1 _; exact hq))))
      all_goals (refine At.stage_same (fun _ h => St.sub h (by repeat (first | exact List.Sublist.refl _ | apply List.Sublist.cons_cons | apply List.Sublist.cons))) ?_))
    all_goals (
      apply DW.quiet [3, 4, 5, 6, 7, 8, 9, 10, 11, 12, 13, 14, 15, 17]
      · decide +kernel
      · first | exact fun _ h => h | exact fun _ h => St.sub h (by repeat (first | exact List.Sublist.refl _ | apply List.Sublist.cons_cons | apply List.Sublist.cons))
      repeat'(first|(apply yp;iterate 3 exact rfl)|(apply QL.ev;(·exact rfl);(·first|((first|apply Ez|apply Ey);(·exact rfl);(·repeat(first|exact iO|exact iR rfl|apply iT));exact rfl)|((first|apply Ev.fieldAddr|apply Ev.len|apply EqOf.eq|apply EqOf.ne|apply Ev.conv|apply Ev.buildN);exact rfl)|((first|apply Ev.shr|apply Ev.shl);(iterate 2 exact rfl);first|decide|omega));·exact rfl)|(apply QL.ev; (· exact rfl); (· first | (apply Ev.indexAddr; (· exact rfl); (· exact rfl); (· omega); (· omega)) | (apply Ev.load_agg_at (cs := l[i].row); (· exact rfl); (· exact rfl); (· intro w' hw'; refine rd_row (l := l) (i := i) MsgA.row_len (hw'.rd_of (by (repeat (first | exact mH _ _ | apply mT)))) hlt ?_; (· simp; done)))); (· exact rfl))|(apply QL.evg; (iterate 3 exact rfl); (· first | (apply Ev.indexAddr; (· exact rfl); (· exact rfl); (· omega); (· omega)) | (apply Ev.load_agg_at (cs := l[i].row); (· exact rfl); (· exact rfl); (· intro w' hw'; refine rd_row (l := l) (i := i) MsgA.row_len (hw'.rd_of (by (repeat (first | exact mH _ _ | apply mT)))) hlt ?_; (· simp; done)))); (· exact rfl))|(apply yq;iterate 5 exact rfl)|(apply QL.evg;(iterate 3 exact rfl);(·first|((first|apply Ez|apply Ey);(·exact rfl);(·repeat(first|exact iO|exact iR rfl|apply iT));exact rfl)|((first|apply Ev.fieldAddr|apply Ev.len|apply EqOf.eq|apply EqOf.ne|apply Ev.conv|apply Ev.buildN);exact rfl)|((first|apply Ev.shr|apply Ev.shl);(iterate 2 exact rfl);first|decide|omega));·exact rfl)|(apply yn;iterate 4 exact rfl)|((apply QL.split;iterate 3 exact rfl);all_goals(intro hc;try simp only[hcs]at hc;try(exfalso;first|contradiction|omega)))|apply QL.nil)
      all_goals (show DW _ _ _ _ _ _ _ _))
    all_goals (
      apply DW.loud 16
      · exact rfl
      · decide +kernel
      repeat'(first|(apply kg;iterate 2 exact rfl)|(apply kG;iterate 3 exact rfl)|apply kM|(apply kp;iterate 2 exact rfl)|((first|apply kz|apply ky);(·exact rfl);(·repeat(first|exact iO|exact iR rfl|apply iT));iterate 2 exact rfl)|(apply kK;(iterate 4 exact rfl);intro _)|(apply kU;(iterate 2 exact rfl);(·repeat(first|exact sH _ _ _|apply sT));(first|exact nfL_eq rfl|exact rfl);exact rfl)|(apply kB;(iterate 2 exact rfl);intro _)|(apply kA;exact rfl;intro _)|(apply kq; (· exact rfl); (· intro w1 h1; first | exact CallsTo.q (c19 px py pcx pcy P.out P.out w1 (h1.rd_of_own (by (repeat (first | exact mH _ _ | apply mT)))) (h1.rd_of_own (by (repeat (first | exact mH _ _ | apply mT)))) (by omega)) h1 | (have hj := jO_rd (h1.holds (jO ba ra wa1) (by (repeat (first | exact mH _ _ | apply mT)))); exact CallsTo.q (g24 ba ra wa1 w1 hj.1 hj.2) h1) | exact CallsTo.q (g25 bb Ab1 Cb1 wa1.length w1 (rO_rd (h1.holds (rO bb Ab1 Cb1 rs1) (by (repeat (first | exact mH _ _ | apply mT)))) hlen1)) h1 | (have hq := CallsTo.q (c20 l[i].m l[i].m ai l[i].a ci l[i].c w1 (h1.rd_of_own (by (repeat (first | exact mH _ _ | apply mT)))) (h1.oldRd hx.hr) hx.hm) h1; rw [sameB_self] at hq; show CallsTo Try.prog 17 [l[i].m.val ai ci, l[i].m.val l[i].a l[i].c] w1 _; exact hq))))
      all_goals (refine At.stage_same (fun _ h => St.sub h (by repeat (first | exact List.Sublist.refl _ | apply List.Sublist.cons_cons | apply List.Sublist.cons))) ?_))
    all_goals (
      apply DW.loud 18
      · exact rfl
      · decide +kernel
      repeat'(first|(apply kg;iterate 2 exact rfl)|(apply kG;iterate 3 exact rfl)|apply kM|(apply kp;iterate 2 exact rfl)|((first|apply kz|apply ky);(·exact rfl);(·repeat(first|exact iO|exact iR rfl|apply iT));iterate 2 exact rfl)|(apply kK;(iterate 4 exact rfl);intro _)|(apply kU;(iterate 2 exact rfl);(·repeat(first|exact sH _ _ _|apply sT));(first|exact nfL_eq rfl|exact rfl);exact rfl)|(apply kB;(iterate 2 exact rfl);intro _)|(apply kA;exact rfl;intro _)|(apply kq; (· exact rfl); (· intro w1 h1; first | exact CallsTo.q (c19 px py pcx pcy P.out P.out w1 (h1.rd_of_own (by (repeat (first | exact mH _ _ | apply mT)))) (h1.rd_of_own (by (repeat (first | exact mH _ _ | apply mT)))) (by omega)) h1 | (have hj := jO_rd (h1.holds (jO ba ra wa1) (by (repeat (first | exact mH _ _ | apply mT)))); exact CallsTo.q (g24 ba ra wa1 w1 hj.1 hj.2) h1) | exact CallsTo.q (g25 bb Ab1 Cb1 wa1.length w1 (rO_rd (h1.holds (rO bb Ab1 Cb1 rs1) (by (repeat (first | exact mH _ _ | apply mT)))) hlen1)) h1 | (have hq := CallsTo.q (c20 l[i].m l[i].m ai l[i].a ci l[i].c w1 (h1.rd_of_own (by (repeat (first | exact mH _ _ | apply mT)))) (h1.oldRd hx.hr) hx.hm) h1; rw [sameB_self] at hq; show CallsTo Try.prog 17 [l[i].m.val ai ci, l[i].m.val l[i].a l[i].c] w1 _; exact hq))))
      all_goals (refine At.stage_same (fun _ h => St.sub h (by repeat (first | exact List.Sublist.refl _ | apply List.Sublist.cons_cons | apply List.Sublist.cons))) ?_))
    all_goals (
      apply DW.quiet [19, 20, 21, 22, 23, 24, 25, 26]
      · decide +kernel
      · first | exact fun _ h => h | exact fun _ h => St.sub h (by repeat (first | exact List.Sublist.refl _ | apply List.Sublist.cons_cons | apply List.Sublist.cons))
      repeat'(first|(apply yp;iterate 3 exact rfl)|(apply QL.ev;(·exact rfl);(·first|((first|apply Ez|apply Ey);(·exact rfl);(·repeat(first|exact iO|exact iR rfl|apply iT));exact rfl)|((first|apply Ev.fieldAddr|apply Ev.len|apply EqOf.eq|apply EqOf.ne|apply Ev.conv|apply Ev.buildN);exact rfl)|((first|apply Ev.shr|apply Ev.shl);(iterate 2 exact rfl);first|decide|omega));·exact rfl)|(apply QL.ev; (· exact rfl); (· first | (apply Ev.indexAddr; (· exact rfl); (· exact rfl); (· omega); (· omega)) | (apply Ev.load_agg_at (cs := l[i].row); (· exact rfl); (· exact rfl); (· intro w' hw'; refine rd_row (l := l) (i := i) MsgA.row_len (hw'.rd_of (by (repeat (first | exact mH _ _ | apply mT)))) hlt ?_; (· simp; done)))); (· exact rfl))|(apply QL.evg; (iterate 3 exact rfl); (· first | (apply Ev.indexAddr; (· exact rfl); (· exact rfl); (· omega); (· omega)) | (apply Ev.load_agg_at (cs := l[i].row); (· exact rfl); (· exact rfl); (· intro w' hw'; refine rd_row (l := l) (i := i) MsgA.row_len (hw'.rd_of (by (repeat (first | exact mH _ _ | apply mT)))) hlt ?_; (· simp; done)))); (· exact rfl))|(apply yq;iterate 5 exact rfl)|(apply QL.evg;(iterate 3 exact rfl);(·first|((first|apply Ez|apply Ey);(·exact rfl);(·repeat(first|exact iO|exact iR rfl|apply iT));exact rfl)|((first|apply Ev.fieldAddr|apply Ev.len|apply EqOf.eq|apply EqOf.ne|apply Ev.conv|apply Ev.buildN);exact rfl)|((first|apply Ev.shr|apply Ev.shl);(iterate 2 exact rfl);first|decide|omega));·exact rfl)|(apply yn;iterate 4 exact rfl)|((apply QL.split;iterate 3 exact rfl);all_goals(intro hc;try simp only[hcs]at hc;try(exfalso;first|contradiction|omega)))|apply QL.nil)
      all_goals (show DW _ _ _ _ _ _ _ _))
    all_goals (
      apply DW.loud 27
      · exact rfl
      · decide +kernel
      repeat'(first|(apply kg;iterate 2 exact rfl)|(apply kG;iterate 3 exact rfl)|apply kM|(apply kp;iterate 2 exact rfl)|((first|apply kz|apply ky);(·exact rfl);(·repeat(first|exact iO|exact iR rfl|apply iT));iterate 2 exact rfl)|(apply kK;(iterate 4 exact rfl);intro _)|(apply kU;(iterate 2 exact rfl);(·repeat(first|exact sH _ _ _|apply sT));(first|exact nfL_eq rfl|exact rfl);exact rfl)|(apply kB;(iterate 2 exact rfl);intro _)|(apply kA;exact rfl;intro _)|(apply kq; (· exact rfl); (· intro w1 h1; first | exact CallsTo.q (c19 px py pcx pcy P.out P.out w1 (h1.rd_of_own (by (repeat (first | exact mH _ _ | apply mT)))) (h1.rd_of_own (by (repeat (first | exact mH _ _ | apply mT)))) (by omega)) h1 | (have hj := jO_rd (h1.holds (jO ba ra wa1) (by (repeat (first | exact mH _ _ | apply mT)))); exact CallsTo.q (g24 ba ra wa1 w1 hj.1 hj.2) h1) | exact CallsTo.q (g25 bb Ab1 Cb1 wa1.length w1 (rO_rd (h1.holds (rO bb Ab1 Cb1 rs1) (by (repeat (first | exact mH _ _ | apply mT)))) hlen1)) h1 | (have hq := CallsTo.q (c20 l[i].m l[i].m ai l[i].a ci l[i].c w1 (h1.rd_of_own (by (repeat (first | exact mH _ _ | apply mT)))) (h1.oldRd hx.hr) hx.hm) h1; rw [sameB_self] at hq; show CallsTo Try.prog 17 [l[i].m.val ai ci, l[i].m.val l[i].a l[i].c] w1 _; exact hq))))
      all_goals (refine At.stage_same (fun _ h => St.sub h (by repeat (first | exact List.Sublist.refl _ | apply List.Sublist.cons_cons | apply List.Sublist.cons))) ?_))
    all_goals (
      apply DW.quiet [28, 29]
      · decide +kernel
      · first | exact fun _ h => h | exact fun _ h => St.sub h (by repeat (first | exact List.Sublist.refl _ | apply List.Sublist.cons_cons | apply List.Sublist.cons))
      repeat'(first|(apply yp;iterate 3 exact rfl)|(apply QL.ev;(·exact rfl);(·first|((first|apply Ez|apply Ey);(·exact rfl);(·repeat(first|exact iO|exact iR rfl|apply iT));exact rfl)|((first|apply Ev.fieldAddr|apply Ev.len|apply EqOf.eq|apply EqOf.ne|apply Ev.conv|apply Ev.buildN);exact rfl)|((first|apply Ev.shr|apply Ev.shl);(iterate 2 exact rfl);first|decide|omega));·exact rfl)|(apply QL.ev; (· exact rfl); (· first | (apply Ev.indexAddr; (· exact rfl); (· exact rfl); (· omega); (· omega)) | (apply Ev.load_agg_at (cs := l[i].row); (· exact rfl); (· exact rfl); (· intro w' hw'; refine rd_row (l := l) (i := i) MsgA.row_len (hw'.rd_of (by (repeat (first | exact mH _ _ | apply mT)))) hlt ?_; (· simp; done)))); (· exact rfl))|(apply QL.evg; (iterate 3 exact rfl); (· first | (apply Ev.indexAddr; (· exact rfl); (· exact rfl); (· omega); (· omega)) | (apply Ev.load_agg_at (cs := l[i].row); (· exact rfl); (· exact rfl); (· intro w' hw'; refine rd_row (l := l) (i := i) MsgA.row_len (hw'.rd_of (by (repeat (first | exact mH _ _ | apply mT)))) hlt ?_; (· simp; done)))); (· exact rfl))|(apply yq;iterate 5 exact rfl)|(apply QL.evg;(iterate 3 exact rfl);(·first|((first|apply Ez|apply Ey);(·exact rfl);(·repeat(first|exact iO|exact iR rfl|apply iT));exact rfl)|((first|apply Ev.fieldAddr|apply Ev.len|apply EqOf.eq|apply EqOf.ne|apply Ev.conv|apply Ev.buildN);exact rfl)|((first|apply Ev.shr|apply Ev.shl);(iterate 2 exact rfl);first|decide|omega));·exact rfl)|(apply yn;iterate 4 exact rfl)|((apply QL.split;iterate 3 exact rfl);all_goals(intro hc;try simp only[hcs]at hc;try(exfalso;first|contradiction|omega)))|apply QL.nil)
      all_goals (show DW _ _ _ _ _ _ _ _))
    all_goals (first | (apply DW.done_thn; (· decide +kernel)) | (apply DW.done; (· decide +kernel)))
    repeat'(first|(apply kp;iterate 2 exact rfl)|apply jJ|(apply jE;exact rfl)|(apply jp;exact rfl)|(apply jc;kernel_rfl)|((first|apply kf|apply kn|apply ke|apply kx|apply kc|apply kb);iterate 2 exact rfl)|((first|apply kz|apply ky);(·exact rfl);(·repeat(first|exact iO|exact iR rfl|apply iT));iterate 2 exact rfl)|(apply kg;iterate 2 exact rfl)|(apply kG;iterate 3 exact rfl)|(apply kB;(iterate 2 exact rfl);intro _)|(apply kA;exact rfl;intro _)|(apply kK;(iterate 4 exact rfl);intro _)|(apply kU;(iterate 2 exact rfl);(·repeat(first|exact sH _ _ _|apply sT));(first|exact nfL_eq rfl|exact rfl);exact rfl)|((first|apply kh|apply kl);(iterate 2 exact rfl);(first|decide|omega);exact rfl)|((first|(apply kR;iterate 2 exact rfl)|(apply kQ;exact rfl));all_goals(intro hc;try simp only[hcs]at hc;try(exfalso;first|contradiction|omega))))
    apply CW.loop [14, 87, 88, 89, 90, 91, 92, 93, 94, 95, 96, 97, 98, 99, 100, 101, 102, 103] (fun s : Nat × List Int => s.1 ≤ l[i].m.body.length ∧ s.2.length = l[i].m.body.length) (fun s => [(14, Value.int .i64 (s.1 : Int))])
      (fun s => St w NoF [osl (.slice ai l[i].m.body.length ci) 5 1 l[i].m.body.length (bv s.2), .own b7 (.cells (l[i].m.cells ai ci).toArray 28 (0, 0)), osl (.slice px P.out.length pcx) 5 1 P.out.length (bv P.out), jO bo ro wo1, rO bb Ab1 Cb1 rs1, jO ba ra wa1, rdA (some ⟨bl, ol, none⟩) (l.flatMap MsgA.row)]) (fun s => l[i].m.body.length - s.1)
    · exact fun w' hw' => ⟨(0, l[i].m.body), ⟨by simp, rfl⟩, ⟨rfl, trivial⟩, (front (front hw' 3 rfl rfl) 4 rfl rfl).sub (by repeat (first | exact List.Sublist.refl _ | exact List.nil_sublist _ | apply List.Sublist.cons_cons | apply List.Sublist.cons))⟩
    rintro ⟨k, bs⟩ g2 ⟨hk, hbs⟩
    simp only at hk hbs ⊢
    by_cases hlt3 : k < l[i].m.body.length
    · have hne : (bv bs) ≠ [] := fun e => by
        have e2 : bs.length = 0 := by simpa [bv] using congrArg List.length e
        omega
      refine LR_cls_cw fun w1 hw1 => ?_
      obtain ⟨bx, ox, rfl⟩ := (ownsRow_rd hw1.g0).form hne
      refine CW.sub (D := St w NoF _) ?_ (fun u e => e ▸ hw1)
      clear hw1 w1
      repeat'(first|(apply CW.reg_sinkC 10; (· exact rfl); (· decide +kernel))|(apply kp;iterate 2 exact rfl)|apply jJ|(apply jE;exact rfl)|(apply jp;exact rfl)|(apply jc;kernel_rfl)|((first|apply kf|apply kn|apply ke|apply kx|apply kc|apply kb);iterate 2 exact rfl)|((first|apply kz|apply ky);(·exact rfl);(·repeat(first|exact iO|exact iR rfl|apply iT));iterate 2 exact rfl)|(apply kg;iterate 2 exact rfl)|(apply kG;iterate 3 exact rfl)|(apply kB;(iterate 2 exact rfl);intro _)|(apply kA;exact rfl;intro _)|(apply kK;(iterate 4 exact rfl);intro _)|(apply kU;(iterate 2 exact rfl);(·repeat(first|exact sH _ _ _|apply sT));(first|exact nfL_eq rfl|exact rfl);exact rfl)|((first|apply kh|apply kl);(iterate 2 exact rfl);(first|decide|omega);exact rfl)|(apply idxX;(iterate 2 exact rfl);(iterate 2(first|omega|(dsimp only;omega)));exact rfl)|((first|(apply kR;iterate 2 exact rfl)|(apply kQ;exact rfl));all_goals(intro hc;try simp only[hcs]at hc;try(exfalso;first|contradiction|omega))))
      all_goals (
        apply DW.quiet [0, 1, 2, 3, 4, 5, 6, 7, 8, 9]
        · decide +kernel
        · first | exact fun _ h => h | exact fun _ h => St.sub h (by repeat (first | exact List.Sublist.refl _ | apply List.Sublist.cons_cons | apply List.Sublist.cons))
        repeat'(first|(apply yp;iterate 3 exact rfl)|(apply QL.ev;(·exact rfl);(·first|((first|apply Ez|apply Ey);(·exact rfl);(·repeat(first|exact iO|exact iR rfl|apply iT));exact rfl)|((first|apply Ev.fieldAddr|apply Ev.len|apply EqOf.eq|apply EqOf.ne|apply Ev.conv|apply Ev.buildN);exact rfl)|((first|apply Ev.shr|apply Ev.shl);(iterate 2 exact rfl);first|decide|omega));·exact rfl)|(apply QL.ev; (· exact rfl); (· first | (apply Ev.indexAddr; (· exact rfl); (· exact rfl); (· omega); (· omega)) | (apply Ev.load_osl; (· exact rfl); (· (repeat (first | exact mH _ _ | apply mT))); (· exact bv_at (l := bs) (i := k) (by simp) (by omega))) | (apply Ev.addW; (· exact rfl); (· exact rfl))); (· exact rfl))|(apply yq;iterate 5 exact rfl)|(apply QL.evg;(iterate 3 exact rfl);(·first|((first|apply Ez|apply Ey);(·exact rfl);(·repeat(first|exact iO|exact iR rfl|apply iT));exact rfl)|((first|apply Ev.fieldAddr|apply Ev.len|apply EqOf.eq|apply EqOf.ne|apply Ev.conv|apply Ev.buildN);exact rfl)|((first|apply Ev.shr|apply Ev.shl);(iterate 2 exact rfl);first|decide|omega));·exact rfl)|(apply yn;iterate 4 exact rfl)|((apply QL.split;iterate 3 exact rfl);all_goals(intro hc;try simp only[hcs]at hc;try(exfalso;first|contradiction|omega)))|apply QL.nil)
        all_goals (show DW _ _ _ _ _ _ _ _))
      all_goals (apply DW.done; (· decide +kernel))
      all_goals apply At.sink
      refine LR.store_obj (v := .int .u8 (IntKind.wrap .u8 (bs[k] + 1))) (z' := osl (.slice (some ⟨bx, ox, none⟩) l[i].m.body.length ci) 5 1 l[i].m.body.length (bv (bs.set k (IntKind.wrap .u8 (bs[k] + 1))))) rfl rfl (sH _ _ _) rfl ?_ (osl.dep _ _ _ _ _) ?_
      · have st := Stores.osl (P := Try.prog) (T := 5) (q := 1) (b := bx) (o := ox) (i := (k : Int).toNat * 1) (n := l[i].m.body.length) (c := ci) (v := .int .u8 (IntKind.wrap .u8 (bs[k] + 1))) (vs := [.int .u8 (IntKind.wrap .u8 (bs[k] + 1))]) (xs := bv bs) (E := 5) (sz := 1) inferInstance rfl rfl rfl (by simp; omega)
        rw [show (k : Int).toNat * 1 = k by omega] at st ⊢
        rwa [splice_bv _ _ _ (by omega)] at st
      repeat'(first|(apply kp;iterate 2 exact rfl)|apply jJ|(apply jE;exact rfl)|(apply jp;exact rfl)|(apply jc;kernel_rfl)|((first|apply kf|apply kn|apply ke|apply kx|apply kc|apply kb);iterate 2 exact rfl)|((first|apply kz|apply ky);(·exact rfl);(·repeat(first|exact iO|exact iR rfl|apply iT));iterate 2 exact rfl)|(apply kg;iterate 2 exact rfl)|(apply kG;iterate 3 exact rfl)|(apply kB;(iterate 2 exact rfl);intro _)|(apply kA;exact rfl;intro _)|(apply kK;(iterate 4 exact rfl);intro _)|(apply kU;(iterate 2 exact rfl);(·repeat(first|exact sH _ _ _|apply sT));(first|exact nfL_eq rfl|exact rfl);exact rfl)|((first|apply kh|apply kl);(iterate 2 exact rfl);(first|decide|omega);exact rfl)|(apply addX;(iterate 2 exact rfl);(iterate 2(first|omega|(dsimp only;omega)));exact rfl)|((first|(apply kR;iterate 2 exact rfl)|(apply kQ;exact rfl));all_goals(intro hc;try simp only[hcs]at hc;try(exfalso;first|contradiction|omega))))
      apply At.again (k + 1, bs.set k (IntKind.wrap .u8 (bs[k] + 1))) ⟨by show k + 1 ≤ _; omega, by simp [hbs]⟩
      · (repeat (first | exact Out.refl _ _ | exact Out.mix | (apply Out.upd; (· exact rfl)) | (apply Out.updL; (· exact rfl)) | (apply Out.mixs; (· exact rfl))))
      · exact ⟨rfl, trivial⟩
      · exact fun w' hw' => hw'
      · show l[i].m.body.length - (k + 1) < l[i].m.body.length - k
        omega
    repeat'(first|(apply kp;iterate 2 exact rfl)|apply jJ|(apply jE;exact rfl)|(apply jp;exact rfl)|(apply jc;kernel_rfl)|((first|apply kf|apply kn|apply ke|apply kx|apply kc|apply kb);iterate 2 exact rfl)|((first|apply kz|apply ky);(·exact rfl);(·repeat(first|exact iO|exact iR rfl|apply iT));iterate 2 exact rfl)|(apply kg;iterate 2 exact rfl)|(apply kG;iterate 3 exact rfl)|(apply kB;(iterate 2 exact rfl);intro _)|(apply kA;exact rfl;intro _)|(apply kK;(iterate 4 exact rfl);intro _)|(apply kU;(iterate 2 exact rfl);(·repeat(first|exact sH _ _ _|apply sT));(first|exact nfL_eq rfl|exact rfl);exact rfl)|((first|apply kh|apply kl);(iterate 2 exact rfl);(first|decide|omega);exact rfl)|((first|(apply kR;iterate 2 exact rfl)|(apply kQ;exact rfl));all_goals(intro hc;try simp only[hcs]at hc;try(exfalso;first|contradiction|omega))))
    apply CW.loop [15, 104, 105, 106, 107, 108, 109, 110, 111, 112] (fun s : Nat × List Int => s.1 ≤ P.out.length ∧ s.2.length = P.out.length) (fun s => [(15, Value.int .i64 (s.1 : Int))])
      (fun s => St w NoF [osl (.slice px P.out.length pcx) 5 1 P.out.length (bv s.2), jO bo ro wo1, rO bb Ab1 Cb1 rs1, jO ba ra wa1, rdA (some ⟨bl, ol, none⟩) (l.flatMap MsgA.row)]) (fun s => P.out.length - s.1)
    · exact fun w' hw' => ⟨(0, P.out), ⟨by simp, rfl⟩, ⟨rfl, trivial⟩, hw'.sub (by repeat (first | exact List.Sublist.refl _ | exact List.nil_sublist _ | apply List.Sublist.cons_cons | apply List.Sublist.cons))⟩
    rintro ⟨k', bs⟩ g3 ⟨hk', hbs⟩
    simp only at hk' hbs ⊢
    by_cases hlt4 : k' < P.out.length
    · have hne : (bv bs) ≠ [] := fun e => by
        have e2 : bs.length = 0 := by simpa [bv] using congrArg List.length e
        omega
      refine LR_cls_cw fun w1 hw1 => ?_
      obtain ⟨bx, ox, rfl⟩ := (ownsRow_rd hw1.g0).form hne
      refine CW.sub (D := St w NoF _) ?_ (fun u e => e ▸ hw1)
      clear hw1 w1
      repeat'(first|(apply kp;iterate 2 exact rfl)|apply jJ|(apply jE;exact rfl)|(apply jp;exact rfl)|(apply jc;kernel_rfl)|((first|apply kf|apply kn|apply ke|apply kx|apply kc|apply kb);iterate 2 exact rfl)|((first|apply kz|apply ky);(·exact rfl);(·repeat(first|exact iO|exact iR rfl|apply iT));iterate 2 exact rfl)|(apply kg;iterate 2 exact rfl)|(apply kG;iterate 3 exact rfl)|(apply kB;(iterate 2 exact rfl);intro _)|(apply kA;exact rfl;intro _)|(apply kK;(iterate 4 exact rfl);intro _)|(apply kU;(iterate 2 exact rfl);(·repeat(first|exact sH _ _ _|apply sT));(first|exact nfL_eq rfl|exact rfl);exact rfl)|((first|apply kh|apply kl);(iterate 2 exact rfl);(first|decide|omega);exact rfl)|(apply idxX;(iterate 2 exact rfl);(iterate 2(first|omega|(dsimp only;omega)));exact rfl)|((first|(apply kR;iterate 2 exact rfl)|(apply kQ;exact rfl));all_goals(intro hc;try simp only[hcs]at hc;try(exfalso;first|contradiction|omega))))
      refine LR.store_obj (v := .int .u8 0) (z' := osl (.slice (some ⟨bx, ox, none⟩) P.out.length pcx) 5 1 P.out.length (bv (bs.set k' 0))) rfl rfl (sH _ _ _) rfl ?_ (osl.dep _ _ _ _ _) ?_
      · have st := Stores.osl (P := Try.prog) (T := 5) (q := 1) (b := bx) (o := ox) (i := (k' : Int).toNat * 1) (n := P.out.length) (c := pcx) (v := .int .u8 0) (vs := [.int .u8 0]) (xs := bv bs) (E := 5) (sz := 1) inferInstance rfl rfl rfl (by simp; omega)
        rw [show (k' : Int).toNat * 1 = k' by omega] at st ⊢
        rwa [splice_bv _ _ _ (by omega)] at st
      repeat'(first|(apply kp;iterate 2 exact rfl)|apply jJ|(apply jE;exact rfl)|(apply jp;exact rfl)|(apply jc;kernel_rfl)|((first|apply kf|apply kn|apply ke|apply kx|apply kc|apply kb);iterate 2 exact rfl)|((first|apply kz|apply ky);(·exact rfl);(·repeat(first|exact iO|exact iR rfl|apply iT));iterate 2 exact rfl)|(apply kg;iterate 2 exact rfl)|(apply kG;iterate 3 exact rfl)|(apply kB;(iterate 2 exact rfl);intro _)|(apply kA;exact rfl;intro _)|(apply kK;(iterate 4 exact rfl);intro _)|(apply kU;(iterate 2 exact rfl);(·repeat(first|exact sH _ _ _|apply sT));(first|exact nfL_eq rfl|exact rfl);exact rfl)|((first|apply kh|apply kl);(iterate 2 exact rfl);(first|decide|omega);exact rfl)|(apply addX;(iterate 2 exact rfl);(iterate 2(first|omega|(dsimp only;omega)));exact rfl)|((first|(apply kR;iterate 2 exact rfl)|(apply kQ;exact rfl));all_goals(intro hc;try simp only[hcs]at hc;try(exfalso;first|contradiction|omega))))
      apply At.again (k' + 1, bs.set k' 0) ⟨by show k' + 1 ≤ _; omega, by simp [hbs]⟩
      · (repeat (first | exact Out.refl _ _ | exact Out.mix | (apply Out.upd; (· exact rfl)) | (apply Out.updL; (· exact rfl)) | (apply Out.mixs; (· exact rfl))))
      · exact ⟨rfl, trivial⟩
      · exact fun w' hw' => hw'
      · show P.out.length - (k' + 1) < P.out.length - k'
        omega
    repeat'(first|(apply kp;iterate 2 exact rfl)|apply jJ|(apply jE;exact rfl)|(apply jp;exact rfl)|(apply jc;kernel_rfl)|((first|apply kf|apply kn|apply ke|apply kx|apply kc|apply kb);iterate 2 exact rfl)|((first|apply kz|apply ky);(·exact rfl);(·repeat(first|exact iO|exact iR rfl|apply iT));iterate 2 exact rfl)|(apply kg;iterate 2 exact rfl)|(apply kG;iterate 3 exact rfl)|(apply kB;(iterate 2 exact rfl);intro _)|(apply kA;exact rfl;intro _)|(apply kK;(iterate 4 exact rfl);intro _)|(apply kU;(iterate 2 exact rfl);(·repeat(first|exact sH _ _ _|apply sT));(first|exact nfL_eq rfl|exact rfl);exact rfl)|((first|apply kh|apply kl);(iterate 2 exact rfl);(first|decide|omega);exact rfl)|(apply addX;(iterate 2 exact rfl);(iterate 2(first|omega|(dsimp only;omega)));exact rfl)|((first|(apply kR;iterate 2 exact rfl)|(apply kQ;exact rfl));all_goals(intro hc;try simp only[hcs]at hc;try(exfalso;first|contradiction|omega))))
    apply At.again (i + 1, wa1, Ab1, Cb1, rs1, wo1)
    · exact ⟨by show i + 1 ≤ _; omega, hwa1, hpm1, by show rs1.length ≤ i + 1; omega, hwo1⟩
    · (repeat (first | exact Out.refl _ _ | exact Out.mix | (apply Out.upd; (· exact rfl)) | (apply Out.updL; (· exact rfl)) | (apply Out.mixs; (· exact rfl))))
    · exact ⟨rfl, trivial⟩
    · exact fun w' hw' => hw'.tail1
    · show l.length - (i + 1) < l.length - i
      omega
  · repeat'(first|(apply kp;iterate 2 exact rfl)|apply jJ|(apply jE;exact rfl)|(apply jp;exact rfl)|(apply jc;kernel_rfl)|((first|apply kf|apply kn|apply ke|apply kx|apply kc|apply kb);iterate 2 exact rfl)|((first|apply kz|apply ky);(·exact rfl);(·repeat(first|exact iO|exact iR rfl|apply iT));iterate 2 exact rfl)|(apply kg;iterate 2 exact rfl)|(apply kG;iterate 3 exact rfl)|(apply kB;(iterate 2 exact rfl);intro _)|(apply kA;exact rfl;intro _)|(apply kK;(iterate 4 exact rfl);intro _)|(apply kU;(iterate 2 exact rfl);(·repeat(first|exact sH _ _ _|apply sT));(first|exact nfL_eq rfl|exact rfl);exact rfl)|((first|apply kh|apply kl);(iterate 2 exact rfl);(first|decide|omega);exact rfl)|(apply kq; (· exact rfl); (· intro w1 h1; exact CallsTo.q (g19 w1) h1))|((first|(apply kR;iterate 2 exact rfl)|(apply kQ;exact rfl));all_goals(intro hc;try simp only[hcs]at hc;try(exfalso;first|contradiction|omega))))
    (apply ret1; (· exact rfl); intro w' hS)
    exact ⟨rfl, hS.toKeep⟩
end Go.Proofs.Ytphcnaafhcfakaa

namespace Go.Proofs.Ytphcnaafhcfakaa
open Go.Hb
attribute [local irreducible] LR CW At Ev thn blk finK noG again CallsTo DW QL dnext TW DP
set_option linter.unusedSimpArgs false
set_option linter.unusedVariables false
set_option maxRecDepth 100000

def notO (o : Int) (p : (Int × Int) × List Msg) : Bool := decide (p.1.1 ≠ o)
theorem rest_notO (A : Jn) (k : Int × Int) (o : Int) : (restJ A k).filter (notO o) = restJ (A.filter (notO o)) k := by
  unfold restJ
  rw [List.filter_filter, List.filter_filter]
  exact List.filter_congr fun p _ => Bool.and_comm _ _
theorem look_notO {A : Jn} {k : Int × Int} {o : Int} (hk : k.1 ≠ o) : lookJ (A.filter (notO o)) k = lookJ A k := by
  unfold lookJ
  congr 1
  induction A with
  | nil => rfl
  | cons p r ih =>
    by_cases hp : p.1 = k
    · have : notO o p = true := by unfold notO; rw [hp]; exact decide_eq_true hk
      rw [List.filter_cons_of_pos this, List.find?_cons_of_pos (by simp [hp]), List.find?_cons_of_pos (by simp [hp])]
    · rw [List.find?_cons_of_neg (by simp [hp]), ← ih]
      by_cases hq : notO o p = true
      · rw [List.filter_cons_of_pos hq, List.find?_cons_of_neg (by simp [hp])]
      · rw [List.filter_cons_of_neg hq]
theorem rest_same {A : Jn} {k : Int × Int} {o : Int} (hk : k.1 = o) : (restJ A k).filter (notO o) = A.filter (notO o) := by
  unfold restJ
  rw [List.filter_filter]
  refine List.filter_congr fun p _ => ?_
  unfold notO
  by_cases hp : p.1.1 = o
  · simp [hp]
  · have : p.1 ≠ k := fun e => hp (by rw [e, hk])
    simp [hp, this]
theorem put_same {A : Jn} {m : Msg} {o : Int} (h : m.origin = o) : (putJ A m).A.filter (notO o) = A.filter (notO o) := by
  have hk : (kOf m).1 = o := h
  by_cases hg : check m = 0 ∧ m.kind = 1
  · cases hc : contJ A m with
    | none => rw [putJ_none hg hc]; exact rest_same hk
    | some l =>
      by_cases hq : (l.length : Int) + 1 < m.parts
      · rw [putJ_more hg hc hq]
        show (restJ A (kOf m) ++ [(kOf m, l ++ [m])]).filter (notO o) = _
        rw [List.filter_append, rest_same hk]
        simp [notO, hk]
      · rw [putJ_whole hg hc hq]; exact rest_same hk
  · rw [putJ_bad hg]
theorem put_other {A : Jn} {m : Msg} {o : Int} (h : m.origin ≠ o) : (putJ (A.filter (notO o)) m).A = (putJ A m).A.filter (notO o) ∧ (putJ (A.filter (notO o)) m).out = (putJ A m).out ∧ (putJ (A.filter (notO o)) m).is = (putJ A m).is ∧ (putJ (A.filter (notO o)) m).e = (putJ A m).e := by
  have hk : (kOf m).1 ≠ o := h
  have hcc : contJ (A.filter (notO o)) m = contJ A m := by unfold contJ; rw [look_notO hk]
  by_cases hg : check m = 0 ∧ m.kind = 1
  · cases hc : contJ A m with
    | none => rw [putJ_none hg (hcc.trans hc), putJ_none hg hc]; exact ⟨(rest_notO _ _ _).symm, rfl, rfl, rfl⟩
    | some l =>
      by_cases hq : (l.length : Int) + 1 < m.parts
      · rw [putJ_more hg (hcc.trans hc) hq, putJ_more hg hc hq]
        refine ⟨?_, rfl, rfl, rfl⟩
        show _ = (restJ A (kOf m) ++ [(kOf m, l ++ [m])]).filter (notO o)
        rw [List.filter_append, rest_notO]
        simp [notO, hk]
      · rw [putJ_whole hg (hcc.trans hc) hq, putJ_whole hg hc hq]; exact ⟨(rest_notO _ _ _).symm, rfl, rfl, rfl⟩
  · rw [putJ_bad hg, putJ_bad hg]; exact ⟨rfl, rfl, rfl, rfl⟩
set_option maxHeartbeats 8000000 in
theorem g6 (al : Option Addr) (cl : Nat) (l : List MsgA) (og : Int) (w : World) (hr : Rd w al (l.flatMap MsgA.row)) (hR : ∀ x ∈ l, MR w x) (hm : l.length * 120 ≤ 140737488351232) :
    CallsTo Try.prog 6 [.slice al l.length cl, .int .i64 og] w fun v w' => v = .bool true ∧ Grew w w' := by
  refine go_in (n := 78) (St.rd1 hr) Try.func6 rfl rfl ?_
  have hbr := bring_bd og 8 (by omega)
  repeat'(first|(apply kp;iterate 2 exact rfl)|apply jJ|(apply jE;exact rfl)|(apply jp;exact rfl)|(apply jc;kernel_rfl)|((first|apply kf|apply kn|apply ke|apply kx|apply kc|apply kb);iterate 2 exact rfl)|((first|apply kz|apply ky);(·exact rfl);(·repeat(first|exact iO|exact iR rfl|apply iT));iterate 2 exact rfl)|(apply kg;iterate 2 exact rfl)|(apply kG;iterate 3 exact rfl)|(apply kB;(iterate 2 exact rfl);intro _)|(apply kA;exact rfl;intro _)|(apply kK;(iterate 4 exact rfl);intro _)|(apply kU;(iterate 2 exact rfl);(·repeat(first|exact sH _ _ _|apply sT));(first|exact nfL_eq rfl|exact rfl);exact rfl)|((first|apply kh|apply kl);(iterate 2 exact rfl);(first|decide|omega);exact rfl)|(apply kq; (· exact rfl); (· intro w1 h1; first | exact CallsTo.q (g19 w1) h1 | exact CallsTo.q (c31 og 8 w1 (by omega)) h1))|(apply addX;(iterate 2 exact rfl);(iterate 2(first|omega|(dsimp only;omega)));exact rfl)|((first|(apply kR;iterate 2 exact rfl)|(apply kQ;exact rfl));all_goals(intro hc;try simp only[hcs]at hc;try(exfalso;first|contradiction|omega))))
  apply LR.call
  · exact rfl
  intro w1 h1
  refine (g20 w1).mono ?_
  rintro v w2 ⟨ba, ra, rfl, st⟩
  refine LR.back (h1.pushL st (fun x hx => by simp at hx; subst hx; rfl)) ?_
  clear h1 st
  repeat'(first|(apply kp;iterate 2 exact rfl)|apply jJ|(apply jE;exact rfl)|(apply jp;exact rfl)|(apply jc;kernel_rfl)|((first|apply kf|apply kn|apply ke|apply kx|apply kc|apply kb);iterate 2 exact rfl)|((first|apply kz|apply ky);(·exact rfl);(·repeat(first|exact iO|exact iR rfl|apply iT));iterate 2 exact rfl)|(apply kg;iterate 2 exact rfl)|(apply kG;iterate 3 exact rfl)|(apply kB;(iterate 2 exact rfl);intro _)|(apply kA;exact rfl;intro _)|(apply kK;(iterate 4 exact rfl);intro _)|(apply kU;(iterate 2 exact rfl);(·repeat(first|exact sH _ _ _|apply sT));(first|exact nfL_eq rfl|exact rfl);exact rfl)|((first|apply kh|apply kl);(iterate 2 exact rfl);(first|decide|omega);exact rfl)|((first|(apply kR;iterate 2 exact rfl)|(apply kQ;exact rfl));all_goals(intro hc;try simp only[hcs]at hc;try(exfalso;first|contradiction|omega))))
  apply LR.call
  · exact rfl
  intro w1 h1
  refine (g20 w1).mono ?_
  rintro v w2 ⟨bb, rb, rfl, st⟩
  refine LR.back (h1.pushL st (fun x hx => by simp at hx; subst hx; rfl)) ?_
  clear h1 st
  repeat'(first|(apply kp;iterate 2 exact rfl)|apply jJ|(apply jE;exact rfl)|(apply jp;exact rfl)|(apply jc;kernel_rfl)|((first|apply kf|apply kn|apply ke|apply kx|apply kc|apply kb);iterate 2 exact rfl)|((first|apply kz|apply ky);(·exact rfl);(·repeat(first|exact iO|exact iR rfl|apply iT));iterate 2 exact rfl)|(apply kg;iterate 2 exact rfl)|(apply kG;iterate 3 exact rfl)|(apply kB;(iterate 2 exact rfl);intro _)|(apply kA;exact rfl;intro _)|(apply kK;(iterate 4 exact rfl);intro _)|(apply kU;(iterate 2 exact rfl);(·repeat(first|exact sH _ _ _|apply sT));(first|exact nfL_eq rfl|exact rfl);exact rfl)|((first|apply kh|apply kl);(iterate 2 exact rfl);(first|decide|omega);exact rfl)|((first|(apply kR;iterate 2 exact rfl)|(apply kQ;exact rfl));all_goals(intro hc;try simp only[hcs]at hc;try(exfalso;first|contradiction|omega))))
  apply CW.loop [4, 7, 8, 9, 10, 11, 12, 13, 21, 22, 23, 24, 25, 26, 27, 28, 29, 30, 31, 32, 33, 34, 35, 36, 37, 38, 39, 40, 41, 42, 43, 44, 45, 46, 47, 48, 49, 50, 51, 52, 53, 54, 55, 56, 57, 58, 59, 60, 61, 62, 63, 64, 65, 66, 67, 68, 69, 70, 71, 72, 73, 74, 75, 76, 77] (fun s : Nat × List WayA × List WayA => s.1 ≤ l.length ∧ WsOk s.2.1 ∧ WsOk s.2.2 ∧ s.2.2.map WayA.kl = (s.2.1.map WayA.kl).filter (notO (1 + bring og 8))) (fun s => [(7, Value.int .i64 (s.1 : Int))])
    (fun s => St w NoF [jO bb rb s.2.2, jO ba ra s.2.1, rdA al (l.flatMap MsgA.row)]) (fun s => l.length - s.1)
  · exact fun w' hw' => ⟨(0, [], []), ⟨by simp, WsOk.nil, WsOk.nil, rfl⟩, ⟨rfl, trivial⟩, hw'⟩
  rintro ⟨i, wa, wb⟩ g ⟨hi, hwa, hwb, hab⟩
  simp only at hi hwa hwb hab ⊢
  by_cases hlt : i < l.length
  · obtain ⟨bl, ol, rfl⟩ := hr.form (rows_ne MsgA.row_len (by omega) hlt)
    have hx := hR _ (List.getElem_mem hlt)
    repeat'(first|(apply kp;iterate 2 exact rfl)|apply jJ|(apply jE;exact rfl)|(apply jp;exact rfl)|(apply jc;kernel_rfl)|((first|apply kf|apply kn|apply ke|apply kx|apply kc|apply kb);iterate 2 exact rfl)|((first|apply kz|apply ky);(·exact rfl);(·repeat(first|exact iO|exact iR rfl|apply iT));iterate 2 exact rfl)|(apply kg;iterate 2 exact rfl)|(apply kG;iterate 3 exact rfl)|(apply kB;(iterate 2 exact rfl);intro _)|(apply kA;exact rfl;intro _)|(apply kK;(iterate 4 exact rfl);intro _)|(apply kU;(iterate 2 exact rfl);(·repeat(first|exact sH _ _ _|apply sT));(first|exact nfL_eq rfl|exact rfl);exact rfl)|((first|apply kh|apply kl);(iterate 2 exact rfl);(first|decide|omega);exact rfl)|(apply idxX;(iterate 2 exact rfl);(iterate 2(first|omega|(dsimp only;omega)));exact rfl)|(apply LR.ev; (· apply Ev.load_agg_at (cs := l[i].row); (· exact rfl); (· exact rfl); (· intro w' hw'; refine rd_row (l := l) (i := i) MsgA.row_len (hw'.rd_of (by (repeat (first | exact mH _ _ | apply mT)))) hlt ?_; (· simp; done))); (· exact rfl))|((first|(apply kR;iterate 2 exact rfl)|(apply kQ;exact rfl));all_goals(intro hc;try simp only[hcs]at hc;try(exfalso;first|contradiction|omega))))
    apply LR.call
    · exact rfl
    intro w1 h1
    refine CallsTo.mono (show CallsTo Try.prog 22 _ w1 _ from g22 ba ra wa l[i].m l[i].a l[i].c w1 (h1.holds (jO ba ra wa) (by (repeat (first | exact mH _ _ | apply mT)))) hwa (h1.oldRd hx.hr) hx.hz hx.hm hx.hb (h1.oldApart (x := jO ba ra wa) (by (repeat (first | exact mH _ _ | apply mT))) rfl hx.hr)) ?_
    rintro v w2 ⟨px, pcx, wa1, rfl, hA1, hwa1, st⟩
    have h2 := h1.two st rfl rfl rfl (by (repeat (first | exact sH _ _ _ | apply sT)))
    refine LR.back h2 ?_
    clear h2 h1 st
    have hol := putJ_len hwa.ok l[i].m
    by_cases ho : l[i].m.origin = 1 + bring og 8
    · have hps := put_same (A := wa.map WayA.kl) ho
      repeat'(first|(apply kp;iterate 2 exact rfl)|apply jJ|(apply jE;exact rfl)|(apply jp;exact rfl)|(apply jc;kernel_rfl)|((first|apply kf|apply kn|apply ke|apply kx|apply kc|apply kb);iterate 2 exact rfl)|((first|apply kz|apply ky);(·exact rfl);(·repeat(first|exact iO|exact iR rfl|apply iT));iterate 2 exact rfl)|(apply kg;iterate 2 exact rfl)|(apply kG;iterate 3 exact rfl)|(apply kB;(iterate 2 exact rfl);intro _)|(apply kA;exact rfl;intro _)|(apply kK;(iterate 4 exact rfl);intro _)|(apply kU;(iterate 2 exact rfl);(·repeat(first|exact sH _ _ _|apply sT));(first|exact nfL_eq rfl|exact rfl);exact rfl)|((first|apply kh|apply kl);(iterate 2 exact rfl);(first|decide|omega);exact rfl)|(apply idxX;(iterate 2 exact rfl);(iterate 2(first|omega|(dsimp only;omega)));exact rfl)|(apply LR.ev; (· apply Ev.load; (· exact rfl); (· intro w' hw'; refine row_cell MsgA.row_len (hw'.rd_of (by (repeat (first | exact mH _ _ | apply mT)))) hlt 1 rfl ?_; (· simp; done))); (· exact rfl))|(apply addX;(iterate 2 exact rfl);(iterate 2(first|omega|(dsimp only;omega)));exact rfl)|((first|(apply kR;iterate 2 exact rfl)|(apply kQ;exact rfl));all_goals(intro hc;try simp only[hcs]at hc;try(exfalso;first|contradiction|omega))))
      apply At.again (i + 1, wa1, wb)
      · exact ⟨by show i + 1 ≤ _; omega, hwa1, hwb, by show wb.map WayA.kl = (wa1.map WayA.kl).filter _; rw [hA1, hps]; exact hab⟩
      · (repeat (first | exact Out.refl _ _ | exact Out.mix | (apply Out.upd; (· exact rfl)) | (apply Out.updL; (· exact rfl)) | (apply Out.mixs; (· exact rfl))))
      · exact ⟨rfl, trivial⟩
      · exact fun w' hw' => hw'.tail1
      · show l.length - (i + 1) < l.length - i
        omega
    · have hpo := put_other (A := wa.map WayA.kl) ho
      rw [← hab] at hpo
      repeat'(first|(apply kp;iterate 2 exact rfl)|apply jJ|(apply jE;exact rfl)|(apply jp;exact rfl)|(apply jc;kernel_rfl)|((first|apply kf|apply kn|apply ke|apply kx|apply kc|apply kb);iterate 2 exact rfl)|((first|apply kz|apply ky);(·exact rfl);(·repeat(first|exact iO|exact iR rfl|apply iT));iterate 2 exact rfl)|(apply kg;iterate 2 exact rfl)|(apply kG;iterate 3 exact rfl)|(apply kB;(iterate 2 exact rfl);intro _)|(apply kA;exact rfl;intro _)|(apply kK;(iterate 4 exact rfl);intro _)|(apply kU;(iterate 2 exact rfl);(·repeat(first|exact sH _ _ _|apply sT));(first|exact nfL_eq rfl|exact rfl);exact rfl)|((first|apply kh|apply kl);(iterate 2 exact rfl);(first|decide|omega);exact rfl)|(apply idxX;(iterate 2 exact rfl);(iterate 2(first|omega|(dsimp only;omega)));exact rfl)|(apply LR.ev; (· apply Ev.load; (· exact rfl); (· intro w' hw'; refine row_cell MsgA.row_len (hw'.rd_of (by (repeat (first | exact mH _ _ | apply mT)))) hlt 1 rfl ?_; (· simp; done))); (· exact rfl))|(apply LR.ev; (· apply Ev.load_agg_at (cs := l[i].row); (· exact rfl); (· exact rfl); (· intro w' hw'; refine rd_row (l := l) (i := i) MsgA.row_len (hw'.rd_of (by (repeat (first | exact mH _ _ | apply mT)))) hlt ?_; (· simp; done))); (· exact rfl))|((first|(apply kR;iterate 2 exact rfl)|(apply kQ;exact rfl));all_goals(intro hc;try simp only[hcs]at hc;try(exfalso;first|contradiction|omega))))
      apply LR.call
      · exact rfl
      intro w1 h1
      refine CallsTo.mono (show CallsTo Try.prog 22 _ w1 _ from g22 bb rb wb l[i].m l[i].a l[i].c w1 (h1.holds (jO bb rb wb) (by (repeat (first | exact mH _ _ | apply mT)))) hwb (h1.oldRd hx.hr) hx.hz hx.hm hx.hb (h1.oldApart (x := jO bb rb wb) (by (repeat (first | exact mH _ _ | apply mT))) rfl hx.hr)) ?_
      rintro v w2 ⟨py, pcy, wb1, rfl, hB1, hwb1, st⟩
      have h2 := h1.two st rfl rfl rfl (by (repeat (first | exact sH _ _ _ | apply sT)))
      refine LR.back h2 ?_
      clear h2 h1 st
      rw [hpo.1] at hB1
      rw [hpo.2.1, hpo.2.2.1, hpo.2.2.2]
      have hle : wb1.length ≤ wa1.length := by
        have h5 : wb1.map WayA.kl = (wa1.map WayA.kl).filter (notO (1 + bring og 8)) := by rw [hB1, hA1]
        have h6 := congrArg List.length h5
        rw [List.length_map] at h6
        have h7 := List.length_filter_le (notO (1 + bring og 8)) (wa1.map WayA.kl)
        rw [List.length_map] at h7
        omega
      generalize hPa : putJ (wa.map WayA.kl) l[i].m = P at *
      repeat'(first|(apply kp;iterate 2 exact rfl)|apply jJ|(apply jE;exact rfl)|(apply jp;exact rfl)|(apply jc;kernel_rfl)|((first|apply kf|apply kn|apply ke|apply kx|apply kc|apply kb);iterate 2 exact rfl)|((first|apply kz|apply ky);(·exact rfl);(·repeat(first|exact iO|exact iR rfl|apply iT));iterate 2 exact rfl)|(apply kg;iterate 2 exact rfl)|(apply kG;iterate 3 exact rfl)|(apply kB;(iterate 2 exact rfl);intro _)|(apply kA;exact rfl;intro _)|(apply kK;(iterate 4 exact rfl);intro _)|(apply kU;(iterate 2 exact rfl);(·repeat(first|exact sH _ _ _|apply sT));(first|exact nfL_eq rfl|exact rfl);exact rfl)|((first|apply kh|apply kl);(iterate 2 exact rfl);(first|decide|omega);exact rfl)|(apply kq; (· exact rfl); (· intro w1 h1; first | exact CallsTo.q (c19 px py pcx pcy P.out P.out w1 (h1.rd_of_own (by (repeat (first | exact mH _ _ | apply mT)))) (h1.rd_of_own (by (repeat (first | exact mH _ _ | apply mT)))) (by omega)) h1 | (have hj := jO_rd (h1.holds (jO ba ra wa1) (by (repeat (first | exact mH _ _ | apply mT)))); exact CallsTo.q (g24 ba ra wa1 w1 hj.1 hj.2) h1) | (have hj := jO_rd (h1.holds (jO bb rb wb1) (by (repeat (first | exact mH _ _ | apply mT)))); exact CallsTo.q (g24 bb rb wb1 w1 hj.1 hj.2) h1)))|(apply addX;(iterate 2 exact rfl);(iterate 2(first|omega|(dsimp only;omega)));exact rfl)|((first|(apply kR;iterate 2 exact rfl)|(apply kQ;exact rfl));all_goals(intro hc;try simp only[hcs]at hc;try(exfalso;first|contradiction|omega))))
      apply At.again (i + 1, wa1, wb1)
      · exact ⟨by show i + 1 ≤ _; omega, hwa1, hwb1, by show wb1.map WayA.kl = (wa1.map WayA.kl).filter _; rw [hA1, hB1]⟩
      · (repeat (first | exact Out.refl _ _ | exact Out.mix | (apply Out.upd; (· exact rfl)) | (apply Out.updL; (· exact rfl)) | (apply Out.mixs; (· exact rfl))))
      · exact ⟨rfl, trivial⟩
      · exact fun w' hw' => hw'.sub (by repeat (first | exact List.Sublist.refl _ | exact List.nil_sublist _ | apply List.Sublist.cons_cons | apply List.Sublist.cons))
      · show l.length - (i + 1) < l.length - i
        omega
  · repeat'(first|(apply kp;iterate 2 exact rfl)|apply jJ|(apply jE;exact rfl)|(apply jp;exact rfl)|(apply jc;kernel_rfl)|((first|apply kf|apply kn|apply ke|apply kx|apply kc|apply kb);iterate 2 exact rfl)|((first|apply kz|apply ky);(·exact rfl);(·repeat(first|exact iO|exact iR rfl|apply iT));iterate 2 exact rfl)|(apply kg;iterate 2 exact rfl)|(apply kG;iterate 3 exact rfl)|(apply kB;(iterate 2 exact rfl);intro _)|(apply kA;exact rfl;intro _)|(apply kK;(iterate 4 exact rfl);intro _)|(apply kU;(iterate 2 exact rfl);(·repeat(first|exact sH _ _ _|apply sT));(first|exact nfL_eq rfl|exact rfl);exact rfl)|((first|apply kh|apply kl);(iterate 2 exact rfl);(first|decide|omega);exact rfl)|((first|(apply kR;iterate 2 exact rfl)|(apply kQ;exact rfl));all_goals(intro hc;try simp only[hcs]at hc;try(exfalso;first|contradiction|omega))))
    (apply ret1; (· exact rfl); intro w' hS)
    exact ⟨rfl, hS.toKeep⟩
end Go.Proofs.Ytphcnaafhcfakaa

namespace Go.Proofs.Ytphcnaafhcfakaa
open Go.Hb Go.ChangeShapes Go.WideShapes
attribute [local irreducible] LR CW At Ev thn blk finK noG again CallsTo DW QL dnext
set_option linter.unusedSimpArgs false
set_option linter.unusedVariables false

set_option maxHeartbeats 1000000 in
set_option maxRecDepth 100000 in
theorem pieceApart_lifted (os : Os) (started : os.Started) (H : Type) (enc : TypeId × Value → H) :
    ReturnsInHanded {} Try.checked os 6 .any (Rows.pieceApartSpec.pre6 enc Try.prog Try.f6 Rows.pieceApartRow.domain false) (Rows.pieceApartSpec.post enc Try.prog Try.f6 false true false false) := by
  refine returnsInHanded_of_change_sized (C := Try.checked) (s := Rows.pieceApartSpec) own_knob started (by kernel_rfl) Try.func6
    (ChangeSpec.witness6 (enc := enc) (C := Try.checked) false ⟨#[], #[.slice none 0 0, .int .i64 0], []⟩ 12 (by kernel_rfl) (by kernel_rfl) (by kernel_rfl) (by kernel_rfl)) ?_
  intro W base args ds gs before hval hW hcnd hwt _
  have hW' := hW
  obtain ⟨p, q, hA0, hV, rfl, hfz, hnd⟩ := hW'
  obtain ⟨rfl, rfl⟩ := trodVars_none hV
  have hA : DataW.TrodAll enc Try.prog W 0 (fun _ => true) true Try.f6.params.toList args.toList ds p := hA0
  rw [Try.params6] at hA
  obtain ⟨v0, vs0, d0, ds0, p0, q0, hargs, rfl, rfl, h0, r0⟩ := trodAll_cons hA
  obtain ⟨v1, vs1, d1, ds1, p1, q1, rfl, rfl, rfl, h1, r1⟩ := trodAll_cons r0
  obtain ⟨rfl, rfl, rfl⟩ := trodAll_nil r1
  obtain rfl : args = #[v0, v1] := by cases args; simp_all
  obtain ⟨a0, c0, l0, hcs0, hr0, hb0, hz0, hc0, hm0⟩ := opn_arg (i := 0) opn_msgs3 h0 hwt rfl rfl
  obtain ⟨b0, n0, e0, rfl⟩ := okWide_slice Try.underlying31 (hval 0 31 v0 rfl rfl)
  have hcs0 : [Value.slice b0 n0 e0] = [.slice a0 l0.length c0] := hcs0
  simp only [List.cons.injEq, Value.slice.injEq, and_true] at hcs0
  obtain ⟨e10, e20, e30⟩ := hcs0
  have e10 := e10.symm
  have e30 := e30.symm
  subst e10; subst e20; subst e30
  obtain ⟨x1, hcs1, hb1⟩ := opn_arg (i := 1) opn_i64 h1 hwt rfl rfl
  obtain ⟨y1, rfl⟩ := okWide_int Try.underlying3 (hval 1 3 v1 rfl rfl)
  have hcs1 : [Value.int .i64 y1] = [.int .i64 x1] := hcs1
  simp only [List.cons.injEq, Value.int.injEq, true_and, and_true] at hcs1
  have hcs1 := hcs1.symm
  subst hcs1
  refine (g6 a0 c0 l0 x1 W hr0 (fun x hx => (hb0 x hx).1) hm0).calls fun v W' ⟨hv, hg⟩ => ⟨v, rfl, ?_⟩
  subst hv
  exact law_post kids full_slices hW hg rfl rfl (by kernel_rfl) Try.underlying4 (by rw [Try.params6]; decide +kernel)

theorem pieceApart_holds : Rows.PieceApartSaid :=
  OpenClaim.holds_of_wide 6 Try.f6 rfl rfl rfl rfl rfl rfl rfl ⟨rfl, rfl, rfl, rfl, rfl⟩ rfl rfl rfl rfl rfl (by kernel_rfl) Try.func6 (by kernel_rfl)
    (of_decide_eq_true (by kernel_rfl)) (by unfold Func.isWrapper; first | (rw [if_pos (by decide +kernel)]; kernel_rfl) | (rw [if_neg (by decide +kernel)]; exact ⟨rfl, rfl⟩))
    (fun os started H enc _ => pieceApart_lifted os started H enc)
end Go.Proofs.Ytphcnaafhcfakaa
