/-
  The examples, what may not be, joiners that are none: the law.
-/
import Derived.Test.YtphcnaafhcfakaaRPWM4

namespace Go.Proofs.Ytphcnaafhcfakaa
open Go.Hb
attribute [local irreducible] LR CW At Ev thn blk finK noG again CallsTo DW QL dnext TW DP
set_option linter.unusedSimpArgs false
set_option linter.unusedVariables false
set_option maxRecDepth 100000

theorem lookJ_mem {A : Jn} (h : (A.map Prod.fst).Nodup) {k : Int × Int} {l : List Msg} : lookJ A k = some l ↔ (k, l) ∈ A := by
  constructor
  · intro hl
    unfold lookJ at hl
    cases hf : A.find? (fun p => decide (p.1 = k)) with
    | none => rw [hf] at hl; cases hl
    | some p =>
      rw [hf] at hl
      simp only [Option.map_some, Option.some.injEq] at hl
      have hk : p.1 = k := by simpa using List.find?_some hf
      have := List.mem_of_find?_eq_some hf
      rw [← hk, ← hl]
      exact this
  · intro hm
    obtain ⟨P, Q, rfl⟩ := List.append_of_mem hm
    exact (lookK h).1
theorem lookJ_perm {A K : Jn} (hp : A.Perm K) (h : (A.map Prod.fst).Nodup) (k : Int × Int) : lookJ A k = lookJ K k := by
  have h2 : (K.map Prod.fst).Nodup := (hp.map _).nodup_iff.1 h
  apply Option.ext
  intro l
  rw [lookJ_mem h, lookJ_mem h2]
  exact hp.mem_iff
theorem OkJ.perm {A K : Jn} (hp : A.Perm K) (h : OkJ A) : OkJ K := ⟨(hp.map _).nodup_iff.1 h.nd, fun p hm => h.ok p (hp.mem_iff.2 hm)⟩
theorem putJ_perm {A K : Jn} (hp : A.Perm K) (h : OkJ A) (m : Msg) : (putJ A m).A.Perm (putJ K m).A ∧ (putJ A m).out = (putJ K m).out ∧ (putJ A m).is = (putJ K m).is ∧ (putJ A m).e = (putJ K m).e := by
  have hr : (restJ A (kOf m)).Perm (restJ K (kOf m)) := hp.filter _
  have hc : contJ A m = contJ K m := by unfold contJ; rw [lookJ_perm hp h.nd]
  by_cases hg : check m = 0 ∧ m.kind = 1
  · cases hk : contJ K m with
    | none => rw [putJ_none hg (hc.trans hk), putJ_none hg hk]; exact ⟨hr, rfl, rfl, rfl⟩
    | some l =>
      by_cases hq : (l.length : Int) + 1 < m.parts
      · rw [putJ_more hg (hc.trans hk) hq, putJ_more hg hk hq]; exact ⟨hr.append_right _, rfl, rfl, rfl⟩
      · rw [putJ_whole hg (hc.trans hk) hq, putJ_whole hg hk hq]; exact ⟨hr, rfl, rfl, rfl⟩
  · rw [putJ_bad hg, putJ_bad hg]; exact ⟨hp, rfl, rfl, rfl⟩
theorem putJ_len {A : Jn} (h : OkJ A) (m : Msg) : (putJ A m).out.length ≤ 240 := by
  by_cases hg : check m = 0 ∧ m.kind = 1
  · cases hk : contJ A m with
    | none => rw [putJ_none hg hk]; simp
    | some l =>
      by_cases hq : (l.length : Int) + 1 < m.parts
      · rw [putJ_more hg hk hq]; simp
      · rw [putJ_whole hg hk hq]; exact (OkL.len (cont_len h hg hk).2).2
  · rw [putJ_bad hg]; simp
theorem rO_rd {b : Nat} {A : Option Addr} {C : Nat} {rs : List RW} {n : Nat} {w : World} (h : (rO b A C rs).holds w) (hn : rs.length = n) : Rd w (some ⟨b, 0, none⟩) [.slice A n C] := by
  have := (rQ_rd h.1).1
  rwa [hn] at this
set_option maxHeartbeats 8000000 in
theorem g4 (al : Option Addr) (cl : Nat) (l : List MsgA) (w : World) (hr : Rd w al (l.flatMap MsgA.row)) (hR : ∀ x ∈ l, MR w x) (hm : l.length * 120 ≤ 140737488351232) :
    CallsTo Try.prog 4 [.slice al l.length cl] w fun v w' => v = .bool true ∧ Grew w w' := by
  refine go_in (n := 114) (St.rd1 hr) Try.func4 rfl rfl ?_
  repeat'(first|(apply kp;iterate 2 exact rfl)|apply jJ|(apply jE;exact rfl)|(apply jp;exact rfl)|(apply jc;kernel_rfl)|((first|apply kf|apply kn|apply ke|apply kx|apply kc|apply kb);iterate 2 exact rfl)|((first|apply kz|apply ky);(·exact rfl);(·repeat(first|exact iO|exact iR rfl|apply iT));iterate 2 exact rfl)|(apply kg;iterate 2 exact rfl)|(apply kG;iterate 3 exact rfl)|(apply kB;(iterate 2 exact rfl);intro _)|(apply kA;exact rfl;intro _)|(apply kK;(iterate 4 exact rfl);intro _)|(apply kU;(iterate 2 exact rfl);(·repeat(first|exact sH _ _ _|apply sT));(first|exact nfL_eq rfl|exact rfl);exact rfl)|((first|apply kh|apply kl);(iterate 2 exact rfl);(first|decide|omega);exact rfl)|((first|(apply kR;iterate 2 exact rfl)|(apply kQ;exact rfl));all_goals(intro hc;try simp only[hcs]at hc;try(exfalso;first|contradiction|omega))))
  apply LR.call
  · exact rfl
  intro w1 h1
  refine (g20 w1).mono ?_
  rintro v w2 ⟨ba, ra, rfl, st⟩
  refine LR.back (h1.pushL st (fun x hx => by simp at hx; subst hx; rfl)) ?_
  clear h1 st
  repeat'(first|(apply kp;iterate 2 exact rfl)|apply jJ|(apply jE;exact rfl)|(apply jp;exact rfl)|(apply jc;kernel_rfl)|((first|apply kf|apply kn|apply ke|apply kx|apply kc|apply kb);iterate 2 exact rfl)|((first|apply kz|apply ky);(·exact rfl);(·repeat(first|exact iO|exact iR rfl|apply iT));iterate 2 exact rfl)|(apply kg;iterate 2 exact rfl)|(apply kG;iterate 3 exact rfl)|(apply kB;(iterate 2 exact rfl);intro _)|(apply kA;exact rfl;intro _)|(apply kK;(iterate 4 exact rfl);intro _)|(apply kU;(iterate 2 exact rfl);(·repeat(first|exact sH _ _ _|apply sT));(first|exact nfL_eq rfl|exact rfl);exact rfl)|((first|apply kh|apply kl);(iterate 2 exact rfl);(first|decide|omega);exact rfl)|((first|(apply kR;iterate 2 exact rfl)|(apply kQ;exact rfl));all_goals(intro hc;try simp only[hcs]at hc;try(exfalso;first|contradiction|omega))))
  apply LR.call
  · exact rfl
  intro w1 h1
  refine (g21 w1).mono ?_
  rintro v w2 ⟨bb, rfl, st⟩
  refine LR.back (h1.pushL st (fun x hx => by simp at hx; subst hx; rfl)) ?_
  clear h1 st
  repeat'(first|(apply kp;iterate 2 exact rfl)|apply jJ|(apply jE;exact rfl)|(apply jp;exact rfl)|(apply jc;kernel_rfl)|((first|apply kf|apply kn|apply ke|apply kx|apply kc|apply kb);iterate 2 exact rfl)|((first|apply kz|apply ky);(·exact rfl);(·repeat(first|exact iO|exact iR rfl|apply iT));iterate 2 exact rfl)|(apply kg;iterate 2 exact rfl)|(apply kG;iterate 3 exact rfl)|(apply kB;(iterate 2 exact rfl);intro _)|(apply kA;exact rfl;intro _)|(apply kK;(iterate 4 exact rfl);intro _)|(apply kU;(iterate 2 exact rfl);(·repeat(first|exact sH _ _ _|apply sT));(first|exact nfL_eq rfl|exact rfl);exact rfl)|((first|apply kh|apply kl);(iterate 2 exact rfl);(first|decide|omega);exact rfl)|((first|(apply kR;iterate 2 exact rfl)|(apply kQ;exact rfl));all_goals(intro hc;try simp only[hcs]at hc;try(exfalso;first|contradiction|omega))))
  apply LR.call
  · exact rfl
  intro w1 h1
  refine (g20 w1).mono ?_
  rintro v w2 ⟨bo, ro, rfl, st⟩
  refine LR.back (h1.pushL st (fun x hx => by simp at hx; subst hx; rfl)) ?_
  clear h1 st
  repeat'(first|(apply kp;iterate 2 exact rfl)|apply jJ|(apply jE;exact rfl)|(apply jp;exact rfl)|(apply jc;kernel_rfl)|((first|apply kf|apply kn|apply ke|apply kx|apply kc|apply kb);iterate 2 exact rfl)|((first|apply kz|apply ky);(·exact rfl);(·repeat(first|exact iO|exact iR rfl|apply iT));iterate 2 exact rfl)|(apply kg;iterate 2 exact rfl)|(apply kG;iterate 3 exact rfl)|(apply kB;(iterate 2 exact rfl);intro _)|(apply kA;exact rfl;intro _)|(apply kK;(iterate 4 exact rfl);intro _)|(apply kU;(iterate 2 exact rfl);(·repeat(first|exact sH _ _ _|apply sT));(first|exact nfL_eq rfl|exact rfl);exact rfl)|((first|apply kh|apply kl);(iterate 2 exact rfl);(first|decide|omega);exact rfl)|((first|(apply kR;iterate 2 exact rfl)|(apply kQ;exact rfl));all_goals(intro hc;try simp only[hcs]at hc;try(exfalso;first|contradiction|omega))))
  apply CW.loop [2, 6, 7, 8, 9, 10, 11, 12, 13, 14, 15, 19, 20, 21, 22, 23, 24, 25, 26, 27, 28, 29, 30, 31, 32, 33, 34, 35, 36, 37, 38, 39, 40, 41, 42, 43, 44, 45, 46, 47, 48, 49, 50, 51, 52, 53, 54, 55, 56, 57, 58, 59, 60, 61, 62, 63, 64, 65, 66, 67, 68, 69, 70, 71, 72, 73, 74, 75, 76, 77, 78, 79, 80, 81, 82, 83, 84, 85, 86, 87, 88, 89, 90, 91, 92, 93, 94, 95, 96, 97, 98, 99, 100, 101, 102, 103, 104, 105, 106, 107, 108, 109, 110, 111, 112] (fun s : Nat × List WayA × Option Addr × Nat × List RW × List WayA => s.1 ≤ l.length ∧ WsOk s.2.1 ∧ (s.2.1.map WayA.kl).Perm (s.2.2.2.2.1.map RW.kl) ∧ s.2.2.2.2.1.length ≤ s.1 ∧ WsOk s.2.2.2.2.2) (fun s => [(6, Value.int .i64 (s.1 : Int))])
    (fun s => St w NoF [jO bo ro s.2.2.2.2.2, rO bb s.2.2.1 s.2.2.2.1 s.2.2.2.2.1, jO ba ra s.2.1, rdA al (l.flatMap MsgA.row)]) (fun s => l.length - s.1)
  · exact fun w' hw' => ⟨(0, [], none, 0, [], []), ⟨by simp, WsOk.nil, List.Perm.refl _, by simp, WsOk.nil⟩, ⟨rfl, trivial⟩, hw'⟩
  rintro ⟨i, wa, Ab, Cb, rs, wo⟩ g ⟨hi, hwa, hpm, hrl, hwo⟩
  simp only at hi hwa hpm hrl hwo ⊢
  by_cases hlt : i < l.length
  · obtain ⟨bl, ol, rfl⟩ := hr.form (rows_ne MsgA.row_len (by omega) hlt)
    have hx := hR _ (List.getElem_mem hlt)
    have hxm := hx.hm
    have hlt2 : l.length - 1 - i < l.length := by omega
    have hy := hR _ (List.getElem_mem hlt2)
    repeat'(first|(apply kp;iterate 2 exact rfl)|apply jJ|(apply jE;exact rfl)|(apply jp;exact rfl)|(apply jc;kernel_rfl)|((first|apply kf|apply kn|apply ke|apply kx|apply kc|apply kb);iterate 2 exact rfl)|((first|apply kz|apply ky);(·exact rfl);(·repeat(first|exact iO|exact iR rfl|apply iT));iterate 2 exact rfl)|(apply kg;iterate 2 exact rfl)|(apply kG;iterate 3 exact rfl)|(apply kB;(iterate 2 exact rfl);intro _)|(apply kA;exact rfl;intro _)|(apply kK;(iterate 4 exact rfl);intro _)|(apply kU;(iterate 2 exact rfl);(·repeat(first|exact sH _ _ _|apply sT));(first|exact nfL_eq rfl|exact rfl);exact rfl)|((first|apply kh|apply kl);(iterate 2 exact rfl);(first|decide|omega);exact rfl)|(apply idxX;(iterate 2 exact rfl);(iterate 2(first|omega|(dsimp only;omega)));exact rfl)|(apply LR.ev; (· apply Ev.load_agg_at (cs := l[i].row); (· exact rfl); (· exact rfl); (· intro w' hw'; refine rd_row (l := l) (i := i) MsgA.row_len (hw'.rd_of (by (repeat (first | exact mH _ _ | apply mT)))) hlt ?_; (· simp; done))); (· exact rfl))|((first|(apply kR;iterate 2 exact rfl)|(apply kQ;exact rfl));all_goals(intro hc;try simp only[hcs]at hc;try(exfalso;first|contradiction|omega))))
    apply LR.call
    · exact rfl
    intro w1 h1
    refine CallsTo.mono (show CallsTo Try.prog 12 _ w1 _ from c14 l[i].m l[i].a l[i].c w1 (h1.oldRd hx.hr) hx.hz hx.hm) ?_
    rintro v w2 ⟨ai, ci, rfl, hn1⟩
    refine LR.back (h1.newSl hn1) ?_
    clear hn1 h1
    repeat'(first|(apply kA; (· exact rfl); intro b7)|(apply kp;iterate 2 exact rfl)|apply jJ|(apply jE;exact rfl)|(apply jp;exact rfl)|(apply jc;kernel_rfl)|((first|apply kf|apply kn|apply ke|apply kx|apply kc|apply kb);iterate 2 exact rfl)|((first|apply kz|apply ky);(·exact rfl);(·repeat(first|exact iO|exact iR rfl|apply iT));iterate 2 exact rfl)|(apply kg;iterate 2 exact rfl)|(apply kG;iterate 3 exact rfl)|(apply kB;(iterate 2 exact rfl);intro _)|(apply kA;exact rfl;intro _)|(apply kK;(iterate 4 exact rfl);intro _)|(apply kU;(iterate 2 exact rfl);(·repeat(first|exact sH _ _ _|apply sT));(first|exact nfL_eq rfl|exact rfl);exact rfl)|((first|apply kh|apply kl);(iterate 2 exact rfl);(first|decide|omega);exact rfl)|((first|(apply kR;iterate 2 exact rfl)|(apply kQ;exact rfl));all_goals(intro hc;try simp only[hcs]at hc;try(exfalso;first|contradiction|omega))))
    apply LR.call
    · exact rfl
    intro w1 h1
    have h1' := front h1 1 rfl rfl
    have hin := h1'.g0
    have hj := h1'.holds (jO ba ra wa) (by (repeat (first | exact mH _ _ | apply mT)))
    refine CallsTo.mono (show CallsTo Try.prog 22 _ w1 _ from g22 ba ra wa l[i].m ai ci w1 hj hwa (ownsRow_rd hin) (fun e => (ownsRow_some hin e).2) hx.hm hx.hb (fun k hk => h1'.apart (y := jO ba ra wa) (by (repeat (first | exact mH _ _ | apply mT))) rfl k (St.osl_foot hk))) ?_
    rintro v w2 ⟨px, pcx, wa1, rfl, hA1, hwa1, st⟩
    have h2 := h1.two st rfl rfl rfl (by (repeat (first | exact sH _ _ _ | apply sT)))
    refine LR.back h2 ?_
    clear h2 h1 h1' hin hj st
    have hpp := putJ_perm hpm hwa.ok l[i].m
    have hol := putJ_len hwa.ok l[i].m
    generalize hPa : putJ (wa.map WayA.kl) l[i].m = P at *
    repeat'(first|(apply kp;iterate 2 exact rfl)|apply jJ|(apply jE;exact rfl)|(apply jp;exact rfl)|(apply jc;kernel_rfl)|((first|apply kf|apply kn|apply ke|apply kx|apply kc|apply kb);iterate 2 exact rfl)|((first|apply kz|apply ky);(·exact rfl);(·repeat(first|exact iO|exact iR rfl|apply iT));iterate 2 exact rfl)|(apply kg;iterate 2 exact rfl)|(apply kG;iterate 3 exact rfl)|(apply kB;(iterate 2 exact rfl);intro _)|(apply kA;exact rfl;intro _)|(apply kK;(iterate 4 exact rfl);intro _)|(apply kU;(iterate 2 exact rfl);(·repeat(first|exact sH _ _ _|apply sT));(first|exact nfL_eq rfl|exact rfl);exact rfl)|((first|apply kh|apply kl);(iterate 2 exact rfl);(first|decide|omega);exact rfl)|(apply idxX;(iterate 2 exact rfl);(iterate 2(first|omega|(dsimp only;omega)));exact rfl)|(apply LR.ev; (· apply Ev.load_agg_at (cs := l[i].row); (· exact rfl); (· exact rfl); (· intro w' hw'; refine rd_row (l := l) (i := i) MsgA.row_len (hw'.rd_of (by (repeat (first | exact mH _ _ | apply mT)))) hlt ?_; (· simp; done))); (· exact rfl))|((first|(apply kR;iterate 2 exact rfl)|(apply kQ;exact rfl));all_goals(intro hc;try simp only[hcs]at hc;try(exfalso;first|contradiction|omega))))
    apply LR.call
    · exact rfl
    intro w1 h1
    have hh := g23 bb Ab Cb rs l[i].m l[i].a l[i].c w1 (h1.holds (rO bb Ab Cb rs) (by (repeat (first | exact mH _ _ | apply mT)))) (OkJ.perm hpm hwa.ok) (by omega) (h1.oldRd hx.hr) hx.hz hx.hm hx.hb (h1.oldApart (x := rO bb Ab Cb rs) (by (repeat (first | exact mH _ _ | apply mT))) rfl hx.hr)
    rw [← hpp.2.1, ← hpp.2.2.1, ← hpp.2.2.2] at hh
    refine CallsTo.mono (show CallsTo Try.prog 23 _ w1 _ from hh) ?_
    rintro v w2 ⟨py, pcy, Ab1, Cb1, rs1, rfl, hK1, hr1, st⟩
    have h2 := h1.two st rfl rfl rfl (by (repeat (first | exact sH _ _ _ | apply sT)))
    refine LR.back h2 ?_
    clear h2 h1 hh st
    have hpm1 : (wa1.map WayA.kl).Perm (rs1.map RW.kl) := by rw [hA1]; exact hpp.1.trans hK1.symm
    have hlen1 : rs1.length = wa1.length := by have := hpm1.length_eq; simpa using this.symm
    repeat'(first|(apply kp;iterate 2 exact rfl)|apply jJ|(apply jE;exact rfl)|(apply jp;exact rfl)|(apply jc;kernel_rfl)|((first|apply kf|apply kn|apply ke|apply kx|apply kc|apply kb);iterate 2 exact rfl)|((first|apply kz|apply ky);(·exact rfl);(·repeat(first|exact iO|exact iR rfl|apply iT));iterate 2 exact rfl)|(apply kg;iterate 2 exact rfl)|(apply kG;iterate 3 exact rfl)|(apply kB;(iterate 2 exact rfl);intro _)|(apply kA;exact rfl;intro _)|(apply kK;(iterate 4 exact rfl);intro _)|(apply kU;(iterate 2 exact rfl);(·repeat(first|exact sH _ _ _|apply sT));(first|exact nfL_eq rfl|exact rfl);exact rfl)|((first|apply kh|apply kl);(iterate 2 exact rfl);(first|decide|omega);exact rfl)|(apply LR.ev; (· first | (apply subQ (a := l.length) (b := 1) rfl; (· exact rfl); (· exact rfl); (· omega); (· omega)) | (apply subQ (a := l.length - 1) (b := i) rfl; (· exact rfl); (· exact rfl); (· omega); (· omega))); (· exact rfl))|(apply idxX;(iterate 2 exact rfl);(iterate 2(first|omega|(dsimp only;omega)));exact rfl)|(apply LR.ev; (· apply Ev.load_agg_at (cs := (l[l.length - 1 - i]'hlt2).row); (· exact rfl); (· exact rfl); (· intro w' hw'; refine rd_row (l := l) (i := l.length - 1 - i) MsgA.row_len (hw'.rd_of (by (repeat (first | exact mH _ _ | apply mT)))) hlt2 ?_; (· simp; done))); (· exact rfl))|((first|(apply kR;iterate 2 exact rfl)|(apply kQ;exact rfl));all_goals(intro hc;try simp only[hcs]at hc;try(exfalso;first|contradiction|omega))))
    apply LR.call
    · exact rfl
    intro w1 h1
    refine CallsTo.mono (show CallsTo Try.prog 22 _ w1 _ from g22 bo ro wo _ _ _ w1 (h1.holds (jO bo ro wo) (by (repeat (first | exact mH _ _ | apply mT)))) hwo (h1.oldRd hy.hr) hy.hz hy.hm hy.hb (h1.oldApart (x := jO bo ro wo) (by (repeat (first | exact mH _ _ | apply mT))) rfl hy.hr)) ?_
    rintro v w2 ⟨pz, pcz, wo1, rfl, _, hwo1, st⟩
    have h2 := h1.two st rfl rfl rfl (by (repeat (first | exact sH _ _ _ | apply sT)))
    refine LR.back h2 ?_
    clear h2 h1 st
    repeat'(first|(apply CW.reg_heldC)|(apply kp;iterate 2 exact rfl)|apply jJ|(apply jE;exact rfl)|(apply jp;exact rfl)|(apply jc;kernel_rfl)|((first|apply kf|apply kn|apply ke|apply kx|apply kc|apply kb);iterate 2 exact rfl)|((first|apply kz|apply ky);(·exact rfl);(·repeat(first|exact iO|exact iR rfl|apply iT));iterate 2 exact rfl)|(apply kg;iterate 2 exact rfl)|(apply kG;iterate 3 exact rfl)|(apply kB;(iterate 2 exact rfl);intro _)|(apply kA;exact rfl;intro _)|(apply kK;(iterate 4 exact rfl);intro _)|(apply kU;(iterate 2 exact rfl);(·repeat(first|exact sH _ _ _|apply sT));(first|exact nfL_eq rfl|exact rfl);exact rfl)|((first|apply kh|apply kl);(iterate 2 exact rfl);(first|decide|omega);exact rfl)|((first|(apply kR;iterate 2 exact rfl)|(apply kQ;exact rfl));all_goals(intro hc;try simp only[hcs]at hc;try(exfalso;first|contradiction|omega))))
    all_goals (
      apply DW.quiet [0, 1]
      · decide +kernel
      · first | exact fun _ h => h | exact fun _ h => St.sub h (by repeat (first | exact List.Sublist.refl _ | apply List.Sublist.cons_cons | apply List.Sublist.cons))
      repeat'(first|(apply yp;iterate 3 exact rfl)|(apply QL.ev;(·exact rfl);(·first|((first|apply Ez|apply Ey);(·exact rfl);(·repeat(first|exact iO|exact iR rfl|apply iT));exact rfl)|((first|apply Ev.fieldAddr|apply Ev.len|apply EqOf.eq|apply EqOf.ne|apply Ev.conv|apply Ev.buildN);exact rfl)|((first|apply Ev.shr|apply Ev.shl);(iterate 2 exact rfl);first|decide|omega));·exact rfl)|(apply QL.ev; (· exact rfl); (· first | (apply Ev.indexAddr; (· exact rfl); (· exact rfl); (· omega); (· omega)) | (apply Ev.load_agg_at (cs := l[i].row); (· exact rfl); (· exact rfl); (· intro w' hw'; refine rd_row (l := l) (i := i) MsgA.row_len (hw'.rd_of (by (repeat (first | exact mH _ _ | apply mT)))) hlt ?_; (· simp; done)))); (· exact rfl))|(apply QL.evg; (iterate 3 exact rfl); (· first | (apply Ev.indexAddr; (· exact rfl); (· exact rfl); (· omega); (· omega)) | (apply Ev.load_agg_at (cs := l[i].row); (· exact rfl); (· exact rfl); (· intro w' hw'; refine rd_row (l := l) (i := i) MsgA.row_len (hw'.rd_of (by (repeat (first | exact mH _ _ | apply mT)))) hlt ?_; (· simp; done)))); (· exact rfl))|(apply yq;iterate 5 exact rfl)|(apply QL.evg;(iterate 3 exact rfl);(·first|((first|apply Ez|apply Ey);(·exact rfl);(·repeat(first|exact iO|exact iR rfl|apply iT));exact rfl)|((first|apply Ev.fieldAddr|apply Ev.len|apply EqOf.eq|apply EqOf.ne|apply Ev.conv|apply Ev.buildN);exact rfl)|((first|apply Ev.shr|apply Ev.shl);(iterate 2 exact rfl);first|decide|omega));·exact rfl)|(apply yn;iterate 4 exact rfl)|((apply QL.split;iterate 3 exact rfl);all_goals(intro hc;try simp only[hcs]at hc;try(exfalso;first|contradiction|omega)))|apply QL.nil)
      all_goals (show DW _ _ _ _ _ _ _ _))
    all_goals (
      apply DW.loud 2
      · exact rfl
      · decide +kernel
      repeat'(first|(apply kg;iterate 2 exact rfl)|(apply kG;iterate 3 exact rfl)|apply kM|(apply kp;iterate 2 exact rfl)|((first|apply kz|apply ky);(·exact rfl);(·repeat(first|exact iO|exact iR rfl|apply iT));iterate 2 exact rfl)|(apply kK;(iterate 4 exact rfl);intro _)|(apply kU;(iterate 2 exact rfl);(·repeat(first|exact sH _ _ _|apply sT));(first|exact nfL_eq rfl|exact rfl);exact rfl)|(apply kB;(iterate 2 exact rfl);intro _)|(apply kA;exact rfl;intro _)|(apply kq; (· exact rfl); (· intro w1 h1; first | exact CallsTo.q (c19 px py pcx pcy P.out P.out w1 (h1.rd_of_own (by (repeat (first | exact mH _ _ | apply mT)))) (h1.rd_of_own (by (repeat (first | exact mH _ _ | apply mT)))) (by omega)) h1 | (have hj := jO_rd (h1.holds (jO ba ra wa1) (by (repeat (first | exact mH _ _ | apply mT)))); exact CallsTo.q (g24 ba ra wa1 w1 hj.1 hj.2) h1) | exact CallsTo.q (g25 bb Ab1 Cb1 wa1.length w1 (rO_rd (h1.holds (rO bb Ab1 Cb1 rs1) (by (repeat (first | exact mH _ _ | apply mT)))) hlen1)) h1 | (have hq := CallsTo.q (c20 l[i].m l[i].m ai l[i].a ci l[i].c w1 (h1.rd_of_own (by (repeat (first | exact mH _ _ | apply mT)))) (h1.oldRd hx.hr) hx.hm) h1; rw [sameB_self] at hq; show CallsTo Try.prog 17 [l[i].m.val ai ci, l[i].m.val l[i].a l[i].c] w1 _; exact hq))))
      all_goals (refine At.stage_same (fun _ h => St.sub h (by repeat (first | exact List.Sublist.refl _ | apply List.Sublist.cons_cons | apply List.Sublist.cons))) ?_))
    all_goals (
      apply DW.quiet [3, 4, 5, 6, 7, 8, 9, 10, 11, 12, 13, 14, 15, 17]
      · decide +kernel
      · first | exact fun _ h => h | exact fun _ h => St.sub h (by repeat (first | exact List.Sublist.refl _ | apply List.Sublist.cons_cons | apply List.Sublist.cons))
      repeat'(first|(apply yp;iterate 3 exact rfl)|(apply QL.ev;(·exact rfl);(·first|((first|apply Ez|apply Ey);(·exact rfl);(·repeat(first|exact iO|exact iR rfl|apply iT));exact rfl)|((first|apply Ev.fieldAddr|apply Ev.len|apply EqOf.eq|apply EqOf.ne|apply Ev.conv|apply Ev.buildN);exact rfl)|((first|apply Ev.shr|apply Ev.shl);(iterate 2 exact rfl);first|decide|omega));·exact rfl)|(apply QL.ev; (· exact rfl); (· first | (apply Ev.indexAddr; (· exact rfl); (· exact rfl); (· omega); (· omega)) | (apply Ev.load_agg_at (cs := l[i].row); (· exact rfl); (· exact rfl); (· intro w' hw'; refine rd_row (l := l) (i := i) MsgA.row_len (hw'.rd_of (by (repeat (first | exact mH _ _ | apply mT)))) hlt ?_; (· simp; done)))); (· exact rfl))|(apply QL.evg; (iterate 3 exact rfl); (· first | (apply Ev.indexAddr; (· exact rfl); (· exact rfl); (· omega); (· omega)) | (apply Ev.load_agg_at (cs := l[i].row); (· exact rfl); (· exact rfl); (· intro w' hw'; refine rd_row (l := l) (i := i) MsgA.row_len (hw'.rd_of (by (repeat (first | exact mH _ _ | apply mT)))) hlt ?_; (· simp; done)))); (· exact rfl))|(apply yq;iterate 5 exact rfl)|(apply QL.evg;(iterate 3 exact rfl);(·first|((first|apply Ez|apply Ey);(·exact rfl);(·repeat(first|exact iO|exact iR rfl|apply iT));exact rfl)|((first|apply Ev.fieldAddr|apply Ev.len|apply EqOf.eq|apply EqOf.ne|apply Ev.conv|apply Ev.buildN);exact rfl)|((first|apply Ev.shr|apply Ev.shl);(iterate 2 exact rfl);first|decide|omega));·exact rfl)|(apply yn;iterate 4 exact rfl)|((apply QL.split;iterate 3 exact rfl);all_goals(intro hc;try simp only[hcs]at hc;try(exfalso;first|contradiction|omega)))|apply QL.nil)
      all_goals (show DW _ _ _ _ _ _ _ _))
    all_goals (
      apply DW.loud 16
      · exact rfl
      · decide +kernel
      repeat'(first|(apply kg;iterate 2 exact rfl)|(apply kG;iterate 3 exact rfl)|apply kM|(apply kp;iterate 2 exact rfl)|((first|apply kz|apply ky);(·exact rfl);(·repeat(first|exact iO|exact iR rfl|apply iT));iterate 2 exact rfl)|(apply kK;(iterate 4 exact rfl);intro _)|(apply kU;(iterate 2 exact rfl);(·repeat(first|exact sH _ _ _|apply sT));(first|exact nfL_eq rfl|exact rfl);exact rfl)|(apply kB;(iterate 2 exact rfl);intro _)|(apply kA;exact rfl;intro _)|(apply kq; (· exact rfl); (· intro w1 h1; first | exact CallsTo.q (c19 px py pcx pcy P.out P.out w1 (h1.rd_of_own (by (repeat (first | exact mH _ _ | apply mT)))) (h1.rd_of_own (by (repeat (first | exact mH _ _ | apply mT)))) (by omega)) h1 | (have hj := jO_rd (h1.holds (jO ba ra wa1) (by (repeat (first | exact mH _ _ | apply mT)))); exact CallsTo.q (g24 ba ra wa1 w1 hj.1 hj.2) h1) | exact CallsTo.q (g25 bb Ab1 Cb1 wa1.length w1 (rO_rd (h1.holds (rO bb Ab1 Cb1 rs1) (by (repeat (first | exact mH _ _ | apply mT)))) hlen1)) h1 | (have hq := CallsTo.q (c20 l[i].m l[i].m ai l[i].a ci l[i].c w1 (h1.rd_of_own (by (repeat (first | exact mH _ _ | apply mT)))) (h1.oldRd hx.hr) hx.hm) h1; rw [sameB_self] at hq; show CallsTo Try.prog 17 [l[i].m.val ai ci, l[i].m.val l[i].a l[i].c] w1 _; exact hq))))
      all_goals (refine At.stage_same (fun _ h => St.sub h (by repeat (first | exact List.Sublist.refl _ | apply List.Sublist.cons_cons | apply List.Sublist.cons))) ?_))
    all_goals (
      apply DW.loud 18
      · exact rfl
      · decide +kernel
      repeat'(first|(apply kg;iterate 2 exact rfl)|(apply kG;iterate 3 exact rfl)|apply kM|(apply kp;iterate 2 exact rfl)|((first|apply kz|apply ky);(·exact rfl);(·repeat(first|exact iO|exact iR rfl|apply iT));iterate 2 exact rfl)|(apply kK;(iterate 4 exact rfl);intro _)|(apply kU;(iterate 2 exact rfl);(·repeat(first|exact sH _ _ _|apply sT));(first|exact nfL_eq rfl|exact rfl);exact rfl)|(apply kB;(iterate 2 exact rfl);intro _)|(apply kA;exact rfl;intro _)|(apply kq; (· exact rfl); (· intro w1 h1; first | exact CallsTo.q (c19 px py pcx pcy P.out P.out w1 (h1.rd_of_own (by (repeat (first | exact mH _ _ | apply mT)))) (h1.rd_of_own (by (repeat (first | exact mH _ _ | apply mT)))) (by omega)) h1 | (have hj := jO_rd (h1.holds (jO ba ra wa1) (by (repeat (first | exact mH _ _ | apply mT)))); exact CallsTo.q (g24 ba ra wa1 w1 hj.1 hj.2) h1) | exact CallsTo.q (g25 bb Ab1 Cb1 wa1.length w1 (rO_rd (h1.holds (rO bb Ab1 Cb1 rs1) (by (repeat (first | exact mH _ _ | apply mT)))) hlen1)) h1 | (have hq := CallsTo.q (c20 l[i].m l[i].m ai l[i].a ci l[i].c w1 (h1.rd_of_own (by (repeat (first | exact mH _ _ | apply mT)))) (h1.oldRd hx.hr) hx.hm) h1; rw [sameB_self] at hq; show CallsTo Try.prog 17 [l[i].m.val ai ci, l[i].m.val l[i].a l[i].c] w1 _; exact hq))))
      all_goals (refine At.stage_same (fun _ h => St.sub h (by repeat (first | exact List.Sublist.refl _ | apply List.Sublist.cons_cons | apply List.Sublist.cons))) ?_))
    all_goals (
      apply DW.quiet [19, 20, 21, 22, 23, 24, 25, 26]
      · decide +kernel
      · first | exact fun _ h => h | exact fun _ h => St.sub h (by repeat (first | exact List.Sublist.refl _ | apply List.Sublist.cons_cons | apply List.Sublist.cons))
      repeat'(first|(apply yp;iterate 3 exact rfl)|(apply QL.ev;(·exact rfl);(·first|((first|apply Ez|apply Ey);(·exact rfl);(·repeat(first|exact iO|exact iR rfl|apply iT));exact rfl)|((first|apply Ev.fieldAddr|apply Ev.len|apply EqOf.eq|apply EqOf.ne|apply Ev.conv|apply Ev.buildN);exact rfl)|((first|apply Ev.shr|apply Ev.shl);(iterate 2 exact rfl);first|decide|omega));·exact rfl)|(apply QL.ev; (· exact rfl); (· first | (apply Ev.indexAddr; (· exact rfl); (· exact rfl); (· omega); (· omega)) | (apply Ev.load_agg_at (cs := l[i].row); (· exact rfl); (· exact rfl); (· intro w' hw'; refine rd_row (l := l) (i := i) MsgA.row_len (hw'.rd_of (by (repeat (first | exact mH _ _ | apply mT)))) hlt ?_; (· simp; done)))); (· exact rfl))|(apply QL.evg; (iterate 3 exact rfl); (· first | (apply Ev.indexAddr; (· exact rfl); (· exact rfl); (· omega); (· omega)) | (apply Ev.load_agg_at (cs := l[i].row); (· exact rfl); (· exact rfl); (· intro w' hw'; refine rd_row (l := l) (i := i) MsgA.row_len (hw'.rd_of (by (repeat (first | exact mH _ _ | apply mT)))) hlt ?_; (· simp; done)))); (· exact rfl))|(apply yq;iterate 5 exact rfl)|(apply QL.evg;(iterate 3 exact rfl);(·first|((first|apply Ez|apply Ey);(·exact rfl);(·repeat(first|exact iO|exact iR rfl|apply iT));exact rfl)|((first|apply Ev.fieldAddr|apply Ev.len|apply EqOf.eq|apply EqOf.ne|apply Ev.conv|apply Ev.buildN);exact rfl)|((first|apply Ev.shr|apply Ev.shl);(iterate 2 exact rfl);first|decide|omega));·exact rfl)|(apply yn;iterate 4 exact rfl)|((apply QL.split;iterate 3 exact rfl);all_goals(intro hc;try simp only[hcs]at hc;try(exfalso;first|contradiction|omega)))|apply QL.nil)
      all_goals (show DW _ _ _ _ _ _ _ _))
    all_goals (
      apply DW.loud 27
      · exact rfl
      · decide +kernel
      repeat'(first|(apply kg;iterate 2 exact rfl)|(apply kG;iterate 3 exact rfl)|apply kM|(apply kp;iterate 2 exact rfl)|((first|apply kz|apply ky);(·exact rfl);(·repeat(first|exact iO|exact iR rfl|apply iT));iterate 2 exact rfl)|(apply kK;(iterate 4 exact rfl);intro _)|(apply kU;(iterate 2 exact rfl);(·repeat(first|exact sH _ _ _|apply sT));(first|exact nfL_eq rfl|exact rfl);exact rfl)|(apply kB;(iterate 2 exact rfl);intro _)|(apply kA;exact rfl;intro _)|(apply kq; (· exact rfl); (· intro w1 h1; first | exact CallsTo.q (c19 px py pcx pcy P.out P.out w1 (h1.rd_of_own (by (repeat (first | exact mH _ _ | apply mT)))) (h1.rd_of_own (by (repeat (first | exact mH _ _ | apply mT)))) (by omega)) h1 | (have hj := jO_rd (h1.holds (jO ba ra wa1) (by (repeat (first | exact mH _ _ | apply mT)))); exact CallsTo.q (g24 ba ra wa1 w1 hj.1 hj.2) h1) | exact CallsTo.q (g25 bb Ab1 Cb1 wa1.length w1 (rO_rd (h1.holds (rO bb Ab1 Cb1 rs1) (by (repeat (first | exact mH _ _ | apply mT)))) hlen1)) h1 | (have hq := CallsTo.q (c20 l[i].m l[i].m ai l[i].a ci l[i].c w1 (h1.rd_of_own (by (repeat (first | exact mH _ _ | apply mT)))) (h1.oldRd hx.hr) hx.hm) h1; rw [sameB_self] at hq; show CallsTo Try.prog 17 [l[i].m.val ai ci, l[i].m.val l[i].a l[i].c] w1 _; exact hq))))
      all_goals (refine At.stage_same (fun _ h => St.sub h (by repeat (first | exact List.Sublist.refl _ | apply List.Sublist.cons_cons | apply List.Sublist.cons))) ?_))
    all_goals (
      apply DW.quiet [28, 29]
      · decide +kernel
      · first | exact fun _ h => h | exact fun _ h => St.sub h (by repeat (first | exact List.Sublist.refl _ | apply List.Sublist.cons_cons | apply List.Sublist.cons))
      repeat'(first|(apply yp;iterate 3 exact rfl)|(apply QL.ev;(·exact rfl);(·first|((first|apply Ez|apply Ey);(·exact rfl);(·repeat(first|exact iO|exact iR rfl|apply iT));exact rfl)|((first|apply Ev.fieldAddr|apply Ev.len|apply EqOf.eq|apply EqOf.ne|apply Ev.conv|apply Ev.buildN);exact rfl)|((first|apply Ev.shr|apply Ev.shl);(iterate 2 exact rfl);first|decide|omega));·exact rfl)|(apply QL.ev; (· exact rfl); (· first | (apply Ev.indexAddr; (· exact rfl); (· exact rfl); (· omega); (· omega)) | (apply Ev.load_agg_at (cs := l[i].row); (· exact rfl); (· exact rfl); (· intro w' hw'; refine rd_row (l := l) (i := i) MsgA.row_len (hw'.rd_of (by (repeat (first | exact mH _ _ | apply mT)))) hlt ?_; (· simp; done)))); (· exact rfl))|(apply QL.evg; (iterate 3 exact rfl); (· first | (apply Ev.indexAddr; (· exact rfl); (· exact rfl); (· omega); (· omega)) | (apply Ev.load_agg_at (cs := l[i].row); (· exact rfl); (· exact rfl); (· intro w' hw'; refine rd_row (l := l) (i := i) MsgA.row_len (hw'.rd_of (by (repeat (first | exact mH _ _ | apply mT)))) hlt ?_; (· simp; done)))); (· exact rfl))|(apply yq;iterate 5 exact rfl)|(apply QL.evg;(iterate 3 exact rfl);(·first|((first|apply Ez|apply Ey);(·exact rfl);(·repeat(first|exact iO|exact iR rfl|apply iT));exact rfl)|((first|apply Ev.fieldAddr|apply Ev.len|apply EqOf.eq|apply EqOf.ne|apply Ev.conv|apply Ev.buildN);exact rfl)|((first|apply Ev.shr|apply Ev.shl);(iterate 2 exact rfl);first|decide|omega));·exact rfl)|(apply yn;iterate 4 exact rfl)|((apply QL.split;iterate 3 exact rfl);all_goals(intro hc;try simp only[hcs]at hc;try(exfalso;first|contradiction|omega)))|apply QL.nil)
      all_goals (show DW _ _ _ _ _ _ _ _))
    all_goals (first | (apply DW.done_thn; (· decide +kernel)) | (apply DW.done; (· decide +kernel)))
    repeat'(first|(apply kp;iterate 2 exact rfl)|apply jJ|(apply jE;exact rfl)|(apply jp;exact rfl)|(apply jc;kernel_rfl)|((first|apply kf|apply kn|apply ke|apply kx|apply kc|apply kb);iterate 2 exact rfl)|((first|apply kz|apply ky);(·exact rfl);(·repeat(first|exact iO|exact iR rfl|apply iT));iterate 2 exact rfl)|(apply kg;iterate 2 exact rfl)|(apply kG;iterate 3 exact rfl)|(apply kB;(iterate 2 exact rfl);intro _)|(apply kA;exact rfl;intro _)|(apply kK;(iterate 4 exact rfl);intro _)|(apply kU;(iterate 2 exact rfl);(·repeat(first|exact sH _ _ _|apply sT));(first|exact nfL_eq rfl|exact rfl);exact rfl)|((first|apply kh|apply kl);(iterate 2 exact rfl);(first|decide|omega);exact rfl)|((first|(apply kR;iterate 2 exact rfl)|(apply kQ;exact rfl));all_goals(intro hc;try simp only[hcs]at hc;try(exfalso;first|contradiction|omega))))
    apply CW.loop [14, 87, 88, 89, 90, 91, 92, 93, 94, 95, 96, 97, 98, 99, 100, 101, 102, 103] (fun s : Nat × List Int => s.1 ≤ l[i].m.body.length ∧ s.2.length = l[i].m.body.length) (fun s => [(14, Value.int .i64 (s.1 : Int))])
      (fun s => St w NoF [osl (.slice ai l[i].m.body.length ci) 5 1 l[i].m.body.length (bv s.2), .own b7 (.cells (l[i].m.cells ai ci).toArray 28 (0, 0)), osl (.slice px P.out.length pcx) 5 1 P.out.length (bv P.out), jO bo ro wo1, rO bb Ab1 Cb1 rs1, jO ba ra wa1, rdA (some ⟨bl, ol, none⟩) (l.flatMap MsgA.row)]) (fun s => l[i].m.body.length - s.1)
    · exact fun w' hw' => ⟨(0, l[i].m.body), ⟨by simp, rfl⟩, ⟨rfl, trivial⟩, (front (front hw' 3 rfl rfl) 4 rfl rfl).sub (by repeat (first | exact List.Sublist.refl _ | exact List.nil_sublist _ | apply List.Sublist.cons_cons | apply List.Sublist.cons))⟩
    rintro ⟨k, bs⟩ g2 ⟨hk, hbs⟩
    simp only at hk hbs ⊢
    by_cases hlt3 : k < l[i].m.body.length
    · have hne : (bv bs) ≠ [] := fun e => by
        have e2 : bs.length = 0 := by simpa [bv] using congrArg List.length e
        omega
      refine LR_cls_cw fun w1 hw1 => ?_
      obtain ⟨bx, ox, rfl⟩ := (ownsRow_rd hw1.g0).form hne
      refine CW.sub (D := St w NoF _) ?_ (fun u e => e ▸ hw1)
      clear hw1 w1
      repeat'(first|(apply CW.reg_sinkC 10; (· exact rfl); (· decide +kernel))|(apply kp;iterate 2 exact rfl)|apply jJ|(apply jE;exact rfl)|(apply jp;exact rfl)|(apply jc;kernel_rfl)|((first|apply kf|apply kn|apply ke|apply kx|apply kc|apply kb);iterate 2 exact rfl)|((first|apply kz|apply ky);(·exact rfl);(·repeat(first|exact iO|exact iR rfl|apply iT));iterate 2 exact rfl)|(apply kg;iterate 2 exact rfl)|(apply kG;iterate 3 exact rfl)|(apply kB;(iterate 2 exact rfl);intro _)|(apply kA;exact rfl;intro _)|(apply kK;(iterate 4 exact rfl);intro _)|(apply kU;(iterate 2 exact rfl);(·repeat(first|exact sH _ _ _|apply sT));(first|exact nfL_eq rfl|exact rfl);exact rfl)|((first|apply kh|apply kl);(iterate 2 exact rfl);(first|decide|omega);exact rfl)|(apply idxX;(iterate 2 exact rfl);(iterate 2(first|omega|(dsimp only;omega)));exact rfl)|((first|(apply kR;iterate 2 exact rfl)|(apply kQ;exact rfl));all_goals(intro hc;try simp only[hcs]at hc;try(exfalso;first|contradiction|omega))))
      all_goals (
        apply DW.quiet [0, 1, 2, 3, 4, 5, 6, 7, 8, 9]
        · decide +kernel
        · first | exact fun _ h => h | exact fun _ h => St.sub h (by repeat (first | exact List.Sublist.refl _ | apply List.Sublist.cons_cons | apply List.Sublist.cons))
        repeat'(first|(apply yp;iterate 3 exact rfl)|(apply QL.ev;(·exact rfl);(·first|((first|apply Ez|apply Ey);(·exact rfl);(·repeat(first|exact iO|exact iR rfl|apply iT));exact rfl)|((first|apply Ev.fieldAddr|apply Ev.len|apply EqOf.eq|apply EqOf.ne|apply Ev.conv|apply Ev.buildN);exact rfl)|((first|apply Ev.shr|apply Ev.shl);(iterate 2 exact rfl);first|decide|omega));·exact rfl)|(apply QL.ev; (· exact rfl); (· first | (apply Ev.indexAddr; (· exact rfl); (· exact rfl); (· omega); (· omega)) | (apply Ev.load_osl; (· exact rfl); (· (repeat (first | exact mH _ _ | apply mT))); (· exact bv_at (l := bs) (i := k) (by simp) (by omega))) | (apply Ev.addW; (· exact rfl); (· exact rfl))); (· exact rfl))|(apply yq;iterate 5 exact rfl)|(apply QL.evg;(iterate 3 exact rfl);(·first|((first|apply Ez|apply Ey);(·exact rfl);(·repeat(first|exact iO|exact iR rfl|apply iT));exact rfl)|((first|apply Ev.fieldAddr|apply Ev.len|apply EqOf.eq|apply EqOf.ne|apply Ev.conv|apply Ev.buildN);exact rfl)|((first|apply Ev.shr|apply Ev.shl);(iterate 2 exact rfl);first|decide|omega));·exact rfl)|(apply yn;iterate 4 exact rfl)|((apply QL.split;iterate 3 exact rfl);all_goals(intro hc;try simp only[hcs]at hc;try(exfalso;first|contradiction|omega)))|apply QL.nil)
        all_goals (show DW _ _ _ _ _ _ _ _))
      all_goals (apply DW.done; (· decide +kernel))
      all_goals apply At.sink
      refine LR.store_obj (v := .int .u8 (IntKind.wrap .u8 (bs[k] + 1))) (z' := osl (.slice (some ⟨bx, ox, none⟩) l[i].m.body.length ci) 5 1 l[i].m.body.length (bv (bs.set k (IntKind.wrap .u8 (bs[k] + 1))))) rfl rfl (sH _ _ _) rfl ?_ (osl.dep _ _ _ _ _) ?_
      · have st := Stores.osl (P := Try.prog) (T := 5) (q := 1) (b := bx) (o := ox) (i := (k : Int).toNat * 1) (n := l[i].m.body.length) (c := ci) (v := .int .u8 (IntKind.wrap .u8 (bs[k] + 1))) (vs := [.int .u8 (IntKind.wrap .u8 (bs[k] + 1))]) (xs := bv bs) (E := 5) (sz := 1) inferInstance rfl rfl rfl (by simp; omega)
        rw [show (k : Int).toNat * 1 = k by omega] at st ⊢
        rwa [splice_bv _ _ _ (by omega)] at st
      repeat'(first|(apply kp;iterate 2 exact rfl)|apply jJ|(apply jE;exact rfl)|(apply jp;exact rfl)|(apply jc;kernel_rfl)|((first|apply kf|apply kn|apply ke|apply kx|apply kc|apply kb);iterate 2 exact rfl)|((first|apply kz|apply ky);(·exact rfl);(·repeat(first|exact iO|exact iR rfl|apply iT));iterate 2 exact rfl)|(apply kg;iterate 2 exact rfl)|(apply kG;iterate 3 exact rfl)|(apply kB;(iterate 2 exact rfl);intro _)|(apply kA;exact rfl;intro _)|(apply kK;(iterate 4 exact rfl);intro _)|(apply kU;(iterate 2 exact rfl);(·repeat(first|exact sH _ _ _|apply sT));(first|exact nfL_eq rfl|exact rfl);exact rfl)|((first|apply kh|apply kl);(iterate 2 exact rfl);(first|decide|omega);exact rfl)|(apply addX;(iterate 2 exact rfl);(iterate 2(first|omega|(dsimp only;omega)));exact rfl)|((first|(apply kR;iterate 2 exact rfl)|(apply kQ;exact rfl));all_goals(intro hc;try simp only[hcs]at hc;try(exfalso;first|contradiction|omega))))
      apply At.again (k + 1, bs.set k (IntKind.wrap .u8 (bs[k] + 1))) ⟨by show k + 1 ≤ _; omega, by simp [hbs]⟩
      · (repeat (first | exact Out.refl _ _ | exact Out.mix | (apply Out.upd; (· exact rfl)) | (apply Out.updL; (· exact rfl)) | (apply Out.mixs; (· exact rfl))))
      · exact ⟨rfl, trivial⟩
      · exact fun w' hw' => hw'
      · show l[i].m.body.length - (k + 1) < l[i].m.body.length - k
        omega
    repeat'(first|(apply kp;iterate 2 exact rfl)|apply jJ|(apply jE;exact rfl)|(apply jp;exact rfl)|(apply jc;kernel_rfl)|((first|apply kf|apply kn|apply ke|apply kx|apply kc|apply kb);iterate 2 exact rfl)|((first|apply kz|apply ky);(·exact rfl);(·repeat(first|exact iO|exact iR rfl|apply iT));iterate 2 exact rfl)|(apply kg;iterate 2 exact rfl)|(apply kG;iterate 3 exact rfl)|(apply kB;(iterate 2 exact rfl);intro _)|(apply kA;exact rfl;intro _)|(apply kK;(iterate 4 exact rfl);intro _)|(apply kU;(iterate 2 exact rfl);(·repeat(first|exact sH _ _ _|apply sT));(first|exact nfL_eq rfl|exact rfl);exact rfl)|((first|apply kh|apply kl);(iterate 2 exact rfl);(first|decide|omega);exact rfl)|((first|(apply kR;iterate 2 exact rfl)|(apply kQ;exact rfl));all_goals(intro hc;try simp only[hcs]at hc;try(exfalso;first|contradiction|omega))))
    apply CW.loop [15, 104, 105, 106, 107, 108, 109, 110, 111, 112] (fun s : Nat × List Int => s.1 ≤ P.out.length ∧ s.2.length = P.out.length) (fun s => [(15, Value.int .i64 (s.1 : Int))])
      (fun s => St w NoF [osl (.slice px P.out.length pcx) 5 1 P.out.length (bv s.2), jO bo ro wo1, rO bb Ab1 Cb1 rs1, jO ba ra wa1, rdA (some ⟨bl, ol, none⟩) (l.flatMap MsgA.row)]) (fun s => P.out.length - s.1)
    · exact fun w' hw' => ⟨(0, P.out), ⟨by simp, rfl⟩, ⟨rfl, trivial⟩, hw'.sub (by repeat (first | exact List.Sublist.refl _ | exact List.nil_sublist _ | apply List.Sublist.cons_cons | apply List.Sublist.cons))⟩
    rintro ⟨k', bs⟩ g3 ⟨hk', hbs⟩
    simp only at hk' hbs ⊢
    by_cases hlt4 : k' < P.out.length
    · have hne : (bv bs) ≠ [] := fun e => by
        have e2 : bs.length = 0 := by simpa [bv] using congrArg List.length e
        omega
      refine LR_cls_cw fun w1 hw1 => ?_
      obtain ⟨bx, ox, rfl⟩ := (ownsRow_rd hw1.g0).form hne
      refine CW.sub (D := St w NoF _) ?_ (fun u e => e ▸ hw1)
      clear hw1 w1
      repeat'(first|(apply kp;iterate 2 exact rfl)|apply jJ|(apply jE;exact rfl)|(apply jp;exact rfl)|(apply jc;kernel_rfl)|((first|apply kf|apply kn|apply ke|apply kx|apply kc|apply kb);iterate 2 exact rfl)|((first|apply kz|apply ky);(·exact rfl);(·repeat(first|exact iO|exact iR rfl|apply iT));iterate 2 exact rfl)|(apply kg;iterate 2 exact rfl)|(apply kG;iterate 3 exact rfl)|(apply kB;(iterate 2 exact rfl);intro _)|(apply kA;exact rfl;intro _)|(apply kK;(iterate 4 exact rfl);intro _)|(apply kU;(iterate 2 exact rfl);(·repeat(first|exact sH _ _ _|apply sT));(first|exact nfL_eq rfl|exact rfl);exact rfl)|((first|apply kh|apply kl);(iterate 2 exact rfl);(first|decide|omega);exact rfl)|(apply idxX;(iterate 2 exact rfl);(iterate 2(first|omega|(dsimp only;omega)));exact rfl)|((first|(apply kR;iterate 2 exact rfl)|(apply kQ;exact rfl));all_goals(intro hc;try simp only[hcs]at hc;try(exfalso;first|contradiction|omega))))
      refine LR.store_obj (v := .int .u8 0) (z' := osl (.slice (some ⟨bx, ox, none⟩) P.out.length pcx) 5 1 P.out.length (bv (bs.set k' 0))) rfl rfl (sH _ _ _) rfl ?_ (osl.dep _ _ _ _ _) ?_
      · have st := Stores.osl (P := Try.prog) (T := 5) (q := 1) (b := bx) (o := ox) (i := (k' : Int).toNat * 1) (n := P.out.length) (c := pcx) (v := .int .u8 0) (vs := [.int .u8 0]) (xs := bv bs) (E := 5) (sz := 1) inferInstance rfl rfl rfl (by simp; omega)
        rw [show (k' : Int).toNat * 1 = k' by omega] at st ⊢
        rwa [splice_bv _ _ _ (by omega)] at st
      repeat'(first|(apply kp;iterate 2 exact rfl)|apply jJ|(apply jE;exact rfl)|(apply jp;exact rfl)|(apply jc;kernel_rfl)|((first|apply kf|apply kn|apply ke|apply kx|apply kc|apply kb);iterate 2 exact rfl)|((first|apply kz|apply ky);(·exact rfl);(·repeat(first|exact iO|exact iR rfl|apply iT));iterate 2 exact rfl)|(apply kg;iterate 2 exact rfl)|(apply kG;iterate 3 exact rfl)|(apply kB;(iterate 2 exact rfl);intro _)|(apply kA;exact rfl;intro _)|(apply kK;(iterate 4 exact rfl);intro _)|(apply kU;(iterate 2 exact rfl);(·repeat(first|exact sH _ _ _|apply sT));(first|exact nfL_eq rfl|exact rfl);exact rfl)|((first|apply kh|apply kl);(iterate 2 exact rfl);(first|decide|omega);exact rfl)|(apply addX;(iterate 2 exact rfl);(iterate 2(first|omega|(dsimp only;omega)));exact rfl)|((first|(apply kR;iterate 2 exact rfl)|(apply kQ;exact rfl));all_goals(intro hc;try simp only[hcs]at hc;try(exfalso;first|contradiction|omega))))
      apply At.again (k' + 1, bs.set k' 0) ⟨by show k' + 1 ≤ _; omega, by simp [hbs]⟩
      · (repeat (first | exact Out.refl _ _ | exact Out.mix | (apply Out.upd; (· exact rfl)) | (apply Out.updL; (· exact rfl)) | (apply Out.mixs; (· exact rfl))))
      · exact ⟨rfl, trivial⟩
      · exact fun w' hw' => hw'
      · show P.out.length - (k' + 1) < P.out.length - k'
        omega
    repeat'(first|(apply kp;iterate 2 exact rfl)|apply jJ|(apply jE;exact rfl)|(apply jp;exact rfl)|(apply jc;kernel_rfl)|((first|apply kf|apply kn|apply ke|apply kx|apply kc|apply kb);iterate 2 exact rfl)|((first|apply kz|apply ky);(·exact rfl);(·repeat(first|exact iO|exact iR rfl|apply iT));iterate 2 exact rfl)|(apply kg;iterate 2 exact rfl)|(apply kG;iterate 3 exact rfl)|(apply kB;(iterate 2 exact rfl);intro _)|(apply kA;exact rfl;intro _)|(apply kK;(iterate 4 exact rfl);intro _)|(apply kU;(iterate 2 exact rfl);(·repeat(first|exact sH _ _ _|apply sT));(first|exact nfL_eq rfl|exact rfl);exact rfl)|((first|apply kh|apply kl);(iterate 2 exact rfl);(first|decide|omega);exact rfl)|(apply addX;(iterate 2 exact rfl);(iterate 2(first|omega|(dsimp only;omega)));exact rfl)|((first|(apply kR;iterate 2 exact rfl)|(apply kQ;exact rfl));all_goals(intro hc;try simp only[hcs]at hc;try(exfalso;first|contradiction|omega))))
    apply At.again (i + 1, wa1, Ab1, Cb1, rs1, wo1)
    · exact ⟨by show i + 1 ≤ _; omega, hwa1, hpm1, by show rs1.length ≤ i + 1; omega, hwo1⟩
    · (repeat (first | exact Out.refl _ _ | exact Out.mix | (apply Out.upd; (· exact rfl)) | (apply Out.updL; (· exact rfl)) | (apply Out.mixs; (· exact rfl))))
    · exact ⟨rfl, trivial⟩
    · exact fun w' hw' => hw'.tail1
    · show l.length - (i + 1) < l.length - i
      omega
  · repeat'(first|(apply kp;iterate 2 exact rfl)|apply jJ|(apply jE;exact rfl)|(apply jp;exact rfl)|(apply jc;kernel_rfl)|((first|apply kf|apply kn|apply ke|apply kx|apply kc|apply kb);iterate 2 exact rfl)|((first|apply kz|apply ky);(·exact rfl);(·repeat(first|exact iO|exact iR rfl|apply iT));iterate 2 exact rfl)|(apply kg;iterate 2 exact rfl)|(apply kG;iterate 3 exact rfl)|(apply kB;(iterate 2 exact rfl);intro _)|(apply kA;exact rfl;intro _)|(apply kK;(iterate 4 exact rfl);intro _)|(apply kU;(iterate 2 exact rfl);(·repeat(first|exact sH _ _ _|apply sT));(first|exact nfL_eq rfl|exact rfl);exact rfl)|((first|apply kh|apply kl);(iterate 2 exact rfl);(first|decide|omega);exact rfl)|(apply kq; (· exact rfl); (· intro w1 h1; exact CallsTo.q (g19 w1) h1))|((first|(apply kR;iterate 2 exact rfl)|(apply kQ;exact rfl));all_goals(intro hc;try simp only[hcs]at hc;try(exfalso;first|contradiction|omega))))
    (apply ret1; (· exact rfl); intro w' hS)
    exact ⟨rfl, hS.toKeep⟩
end Go.Proofs.Ytphcnaafhcfakaa

namespace Go.Proofs.Ytphcnaafhcfakaa
open Go.Hb
attribute [local irreducible] LR CW At Ev thn blk finK noG again CallsTo DW QL dnext TW DP
set_option linter.unusedSimpArgs false
set_option linter.unusedVariables false
set_option maxRecDepth 100000

def notO (o : Int) (p : (Int × Int) × List Msg) : Bool := decide (p.1.1 ≠ o)
theorem rest_notO (A : Jn) (k : Int × Int) (o : Int) : (restJ A k).filter (notO o) = restJ (A.filter (notO o)) k := by
  unfold restJ
  rw [List.filter_filter, List.filter_filter]
  exact List.filter_congr fun p _ => Bool.and_comm _ _
theorem look_notO {A : Jn} {k : Int × Int} {o : Int} (hk : k.1 ≠ o) : lookJ (A.filter (notO o)) k = lookJ A k := by
  unfold lookJ
  congr 1
  induction A with
  | nil => rfl
  | cons p r ih =>
    by_cases hp : p.1 = k
    · have : notO o p = true := by unfold notO; rw [hp]; exact decide_eq_true hk
      rw [List.filter_cons_of_pos this, List.find?_cons_of_pos (by simp [hp]), List.find?_cons_of_pos (by simp [hp])]
    · rw [List.find?_cons_of_neg (by simp [hp]), ← ih]
      by_cases hq : notO o p = true
      · rw [List.filter_cons_of_pos hq, List.find?_cons_of_neg (by simp [hp])]
      · rw [List.filter_cons_of_neg hq]
theorem rest_same {A : Jn} {k : Int × Int} {o : Int} (hk : k.1 = o) : (restJ A k).filter (notO o) = A.filter (notO o) := by
  unfold restJ
  rw [List.filter_filter]
  refine List.filter_congr fun p _ => ?_
  unfold notO
  by_cases hp : p.1.1 = o
  · simp [hp]
  · have : p.1 ≠ k := fun e => hp (by rw [e, hk])
    simp [hp, this]
theorem put_same {A : Jn} {m : Msg} {o : Int} (h : m.origin = o) : (putJ A m).A.filter (notO o) = A.filter (notO o) := by
  have hk : (kOf m).1 = o := h
  by_cases hg : check m = 0 ∧ m.kind = 1
  · cases hc : contJ A m with
    | none => rw [putJ_none hg hc]; exact rest_same hk
    | some l =>
      by_cases hq : (l.length : Int) + 1 < m.parts
      · rw [putJ_more hg hc hq]
        show (restJ A (kOf m) ++ [(kOf m, l ++ [m])]).filter (notO o) = _
        rw [List.filter_append, rest_same hk]
        simp [notO, hk]
      · rw [putJ_whole hg hc hq]; exact rest_same hk
  · rw [putJ_bad hg]
theorem put_other {A : Jn} {m : Msg} {o : Int} (h : m.origin ≠ o) : (putJ (A.filter (notO o)) m).A = (putJ A m).A.filter (notO o) ∧ (putJ (A.filter (notO o)) m).out = (putJ A m).out ∧ (putJ (A.filter (notO o)) m).is = (putJ A m).is ∧ (putJ (A.filter (notO o)) m).e = (putJ A m).e := by
  have hk : (kOf m).1 ≠ o := h
  have hcc : contJ (A.filter (notO o)) m = contJ A m := by unfold contJ; rw [look_notO hk]
  by_cases hg : check m = 0 ∧ m.kind = 1
  · cases hc : contJ A m with
    | none => rw [putJ_none hg (hcc.trans hc), putJ_none hg hc]; exact ⟨(rest_notO _ _ _).symm, rfl, rfl, rfl⟩
    | some l =>
      by_cases hq : (l.length : Int) + 1 < m.parts
      · rw [putJ_more hg (hcc.trans hc) hq, putJ_more hg hc hq]
        refine ⟨?_, rfl, rfl, rfl⟩
        show _ = (restJ A (kOf m) ++ [(kOf m, l ++ [m])]).filter (notO o)
        rw [List.filter_append, rest_notO]
        simp [notO, hk]
      · rw [putJ_whole hg (hcc.trans hc) hq, putJ_whole hg hc hq]; exact ⟨(rest_notO _ _ _).symm, rfl, rfl, rfl⟩
  · rw [putJ_bad hg, putJ_bad hg]; exact ⟨rfl, rfl, rfl, rfl⟩
set_option maxHeartbeats 8000000 in
theorem g6 (al : Option Addr) (cl : Nat) (l : List MsgA) (og : Int) (w : World) (hr : Rd w al (l.flatMap MsgA.row)) (hR : ∀ x ∈ l, MR w x) (hm : l.length * 120 ≤ 140737488351232) :
    CallsTo Try.prog 6 [.slice al l.length cl, .int .i64 og] w fun v w' => v = .bool true ∧ Grew w w' := by
  refine go_in (n := 78) (St.rd1 hr) Try.func6 rfl rfl ?_
  have hbr := bring_bd og 8 (by omega)
  repeat'(first|(apply kp;iterate 2 exact rfl)|apply jJ|(apply jE;exact rfl)|(apply jp;exact rfl)|(apply jc;kernel_rfl)|((first|apply kf|apply kn|apply ke|apply kx|apply kc|apply kb);iterate 2 exact rfl)|((first|apply kz|apply ky);(·exact rfl);(·repeat(first|exact iO|exact iR rfl|apply iT));iterate 2 exact rfl)|(apply kg;iterate 2 exact rfl)|(apply kG;iterate 3 exact rfl)|(apply kB;(iterate 2 exact rfl);intro _)|(apply kA;exact rfl;intro _)|(apply kK;(iterate 4 exact rfl);intro _)|(apply kU;(iterate 2 exact rfl);(·repeat(first|exact sH _ _ _|apply sT));(first|exact nfL_eq rfl|exact rfl);exact rfl)|((first|apply kh|apply kl);(iterate 2 exact rfl);(first|decide|omega);exact rfl)|(apply kq; (· exact rfl); (· intro w1 h1; first | exact CallsTo.q (g19 w1) h1 | exact CallsTo.q (c31 og 8 w1 (by omega)) h1))|(apply addX;(iterate 2 exact rfl);(iterate 2(first|omega|(dsimp only;omega)));exact rfl)|((first|(apply kR;iterate 2 exact rfl)|(apply kQ;exact rfl));all_goals(intro hc;try simp only[hcs]at hc;try(exfalso;first|contradiction|omega))))
  apply LR.call
  · exact rfl
  intro w1 h1
  refine (g20 w1).mono ?_
  rintro v w2 ⟨ba, ra, rfl, st⟩
  refine LR.back (h1.pushL st (fun x hx => by simp at hx; subst hx; rfl)) ?_
  clear h1 st
  repeat'(first|(apply kp;iterate 2 exact rfl)|apply jJ|(apply jE;exact rfl)|(apply jp;exact rfl)|(apply jc;kernel_rfl)|((first|apply kf|apply kn|apply ke|apply kx|apply kc|apply kb);iterate 2 exact rfl)|((first|apply kz|apply ky);(·exact rfl);(·repeat(first|exact iO|exact iR rfl|apply iT));iterate 2 exact rfl)|(apply kg;iterate 2 exact rfl)|(apply kG;iterate 3 exact rfl)|(apply kB;(iterate 2 exact rfl);intro _)|(apply kA;exact rfl;intro _)|(apply kK;(iterate 4 exact rfl);intro _)|(apply kU;(iterate 2 exact rfl);(·repeat(first|exact sH _ _ _|apply sT));(first|exact nfL_eq rfl|exact rfl);exact rfl)|((first|apply kh|apply kl);(iterate 2 exact rfl);(first|decide|omega);exact rfl)|((first|(apply kR;iterate 2 exact rfl)|(apply kQ;exact rfl));all_goals(intro hc;try simp only[hcs]at hc;try(exfalso;first|contradiction|omega))))
  apply LR.call
  · exact rfl
  intro w1 h1
  refine (g20 w1).mono ?_
  rintro v w2 ⟨bb, rb, rfl, st⟩
  refine LR.back (h1.pushL st (fun x hx => by simp at hx; subst hx; rfl)) ?_
  clear h1 st
  repeat'(first|(apply kp;iterate 2 exact rfl)|apply jJ|(apply jE;exact rfl)|(apply jp;exact rfl)|(apply jc;kernel_rfl)|((first|apply kf|apply kn|apply ke|apply kx|apply kc|apply kb);iterate 2 exact rfl)|((first|apply kz|apply ky);(·exact rfl);(·repeat(first|exact iO|exact iR rfl|apply iT));iterate 2 exact rfl)|(apply kg;iterate 2 exact rfl)|(apply kG;iterate 3 exact rfl)|(apply kB;(iterate 2 exact rfl);intro _)|(apply kA;exact rfl;intro _)|(apply kK;(iterate 4 exact rfl);intro _)|(apply kU;(iterate 2 exact rfl);(·repeat(first|exact sH _ _ _|apply sT));(first|exact nfL_eq rfl|exact rfl);exact rfl)|((first|apply kh|apply kl);(iterate 2 exact rfl);(first|decide|omega);exact rfl)|((first|(apply kR;iterate 2 exact rfl)|(apply kQ;exact rfl));all_goals(intro hc;try simp only[hcs]at hc;try(exfalso;first|contradiction|omega))))
  apply CW.loop [4, 7, 8, 9, 10, 11, 12, 13, 21, 22, 23, 24, 25, 26, 27, 28, 29, 30, 31, 32, 33, 34, 35, 36, 37, 38, 39, 40, 41, 42, 43, 44, 45, 46, 47, 48, 49, 50, 51, 52, 53, 54, 55, 56, 57, 58, 59, 60, 61, 62, 63, 64, 65, 66, 67, 68, 69, 70, 71, 72, 73, 74, 75, 76, 77] (fun s : Nat × List WayA × List WayA => s.1 ≤ l.length ∧ WsOk s.2.1 ∧ WsOk s.2.2 ∧ s.2.2.map WayA.kl = (s.2.1.map WayA.kl).filter (notO (1 + bring og 8))) (fun s => [(7, Value.int .i64 (s.1 : Int))])
    (fun s => St w NoF [jO bb rb s.2.2, jO ba ra s.2.1, rdA al (l.flatMap MsgA.row)]) (fun s => l.length - s.1)
  · exact fun w' hw' => ⟨(0, [], []), ⟨by simp, WsOk.nil, WsOk.nil, rfl⟩, ⟨rfl, trivial⟩, hw'⟩
  rintro ⟨i, wa, wb⟩ g ⟨hi, hwa, hwb, hab⟩
  simp only at hi hwa hwb hab ⊢
  by_cases hlt : i < l.length
  · obtain ⟨bl, ol, rfl⟩ := hr.form (rows_ne MsgA.row_len (by omega) hlt)
    have hx := hR _ (List.getElem_mem hlt)
    repeat'(first|(apply kp;iterate 2 exact rfl)|apply jJ|(apply jE;exact rfl)|(apply jp;exact rfl)|(apply jc;kernel_rfl)|((first|apply kf|apply kn|apply ke|apply kx|apply kc|apply kb);iterate 2 exact rfl)|((first|apply kz|apply ky);(·exact rfl);(·repeat(first|exact iO|exact iR rfl|apply iT));iterate 2 exact rfl)|(apply kg;iterate 2 exact rfl)|(apply kG;iterate 3 exact rfl)|(apply kB;(iterate 2 exact rfl);intro _)|(apply kA;exact rfl;intro _)|(apply kK;(iterate 4 exact rfl);intro _)|(apply kU;(iterate 2 exact rfl);(·repeat(first|exact sH _ _ _|apply sT));(first|exact nfL_eq rfl|exact rfl);exact rfl)|((first|apply kh|apply kl);(iterate 2 exact rfl);(first|decide|omega);exact rfl)|(apply idxX;(iterate 2 exact rfl);(iterate 2(first|omega|(dsimp only;omega)));exact rfl)|(apply LR.ev; (· apply Ev.load_agg_at (cs := l[i].row); (· exact rfl); (· exact rfl); (· intro w' hw'; refine rd_row (l := l) (i := i) MsgA.row_len (hw'.rd_of (by (repeat (first | exact mH _ _ | apply mT)))) hlt ?_; (· simp; done))); (· exact rfl))|((first|(apply kR;iterate 2 exact rfl)|(apply kQ;exact rfl));all_goals(intro hc;try simp only[hcs]at hc;try(exfalso;first|contradiction|omega))))
    apply LR.call
    · exact rfl
    intro w1 h1
    refine CallsTo.mono (show CallsTo Try.prog 22 _ w1 _ from g22 ba ra wa l[i].m l[i].a l[i].c w1 (h1.holds (jO ba ra wa) (by (repeat (first | exact mH _ _ | apply mT)))) hwa (h1.oldRd hx.hr) hx.hz hx.hm hx.hb (h1.oldApart (x := jO ba ra wa) (by (repeat (first | exact mH _ _ | apply mT))) rfl hx.hr)) ?_
    rintro v w2 ⟨px, pcx, wa1, rfl, hA1, hwa1, st⟩
    have h2 := h1.two st rfl rfl rfl (by (repeat (first | exact sH _ _ _ | apply sT)))
    refine LR.back h2 ?_
    clear h2 h1 st
    have hol := putJ_len hwa.ok l[i].m
    by_cases ho : l[i].m.origin = 1 + bring og 8
    · have hps := put_same (A := wa.map WayA.kl) ho
      repeat'(first|(apply kp;iterate 2 exact rfl)|apply jJ|(apply jE;exact rfl)|(apply jp;exact rfl)|(apply jc;kernel_rfl)|((first|apply kf|apply kn|apply ke|apply kx|apply kc|apply kb);iterate 2 exact rfl)|((first|apply kz|apply ky);(·exact rfl);(·repeat(first|exact iO|exact iR rfl|apply iT));iterate 2 exact rfl)|(apply kg;iterate 2 exact rfl)|(apply kG;iterate 3 exact rfl)|(apply kB;(iterate 2 exact rfl);intro _)|(apply kA;exact rfl;intro _)|(apply kK;(iterate 4 exact rfl);intro _)|(apply kU;(iterate 2 exact rfl);(·repeat(first|exact sH _ _ _|apply sT));(first|exact nfL_eq rfl|exact rfl);exact rfl)|((first|apply kh|apply kl);(iterate 2 exact rfl);(first|decide|omega);exact rfl)|(apply idxX;(iterate 2 exact rfl);(iterate 2(first|omega|(dsimp only;omega)));exact rfl)|(apply LR.ev; (· apply Ev.load; (· exact rfl); (· intro w' hw'; refine row_cell MsgA.row_len (hw'.rd_of (by (repeat (first | exact mH _ _ | apply mT)))) hlt 1 rfl ?_; (· simp; done))); (· exact rfl))|(apply addX;(iterate 2 exact rfl);(iterate 2(first|omega|(dsimp only;omega)));exact rfl)|((first|(apply kR;iterate 2 exact rfl)|(apply kQ;exact rfl));all_goals(intro hc;try simp only[hcs]at hc;try(exfalso;first|contradiction|omega))))
      apply At.again (i + 1, wa1, wb)
      · exact ⟨by show i + 1 ≤ _; omega, hwa1, hwb, by show wb.map WayA.kl = (wa1.map WayA.kl).filter _; rw [hA1, hps]; exact hab⟩
      · (repeat (first | exact Out.refl _ _ | exact Out.mix | (apply Out.upd; (· exact rfl)) | (apply Out.updL; (· exact rfl)) | (apply Out.mixs; (· exact rfl))))
      · exact ⟨rfl, trivial⟩
      · exact fun w' hw' => hw'.tail1
      · show l.length - (i + 1) < l.length - i
        omega
    · have hpo := put_other (A := wa.map WayA.kl) ho
      rw [← hab] at hpo
      repeat'(first|(apply kp;iterate 2 exact rfl)|apply jJ|(apply jE;exact rfl)|(apply jp;exact rfl)|(apply jc;kernel_rfl)|((first|apply kf|apply kn|apply ke|apply kx|apply kc|apply kb);iterate 2 exact rfl)|((first|apply kz|apply ky);(·exact rfl);(·repeat(first|exact iO|exact iR rfl|apply iT));iterate 2 exact rfl)|(apply kg;iterate 2 exact rfl)|(apply kG;iterate 3 exact rfl)|(apply kB;(iterate 2 exact rfl);intro _)|(apply kA;exact rfl;intro _)|(apply kK;(iterate 4 exact rfl);intro _)|(apply kU;(iterate 2 exact rfl);(·repeat(first|exact sH _ _ _|apply sT));(first|exact nfL_eq rfl|exact rfl);exact rfl)|((first|apply kh|apply kl);(iterate 2 exact rfl);(first|decide|omega);exact rfl)|(apply idxX;(iterate 2 exact rfl);(iterate 2(first|omega|(dsimp only;omega)));exact rfl)|(apply LR.ev; (· apply Ev.load; (· exact rfl); (· intro w' hw'; refine row_cell MsgA.row_len (hw'.rd_of (by (repeat (first | exact mH _ _ | apply mT)))) hlt 1 rfl ?_; (· simp; done))); (· exact rfl))|(apply LR.ev; (· apply Ev.load_agg_at (cs := l[i].row); (· exact rfl); (· exact rfl); (· intro w' hw'; refine rd_row (l := l) (i := i) MsgA.row_len (hw'.rd_of (by (repeat (first | exact mH _ _ | apply mT)))) hlt ?_; (· simp; done))); (· exact rfl))|((first|(apply kR;iterate 2 exact rfl)|(apply kQ;exact rfl));all_goals(intro hc;try simp only[hcs]at hc;try(exfalso;first|contradiction|omega))))
      apply LR.call
      · exact rfl
      intro w1 h1
      refine CallsTo.mono (show CallsTo Try.prog 22 _ w1 _ from g22 bb rb wb l[i].m l[i].a l[i].c w1 (h1.holds (jO bb rb wb) (by (repeat (first | exact mH _ _ | apply mT)))) hwb (h1.oldRd hx.hr) hx.hz hx.hm hx.hb (h1.oldApart (x := jO bb rb wb) (by (repeat (first | exact mH _ _ | apply mT))) rfl hx.hr)) ?_
      rintro v w2 ⟨py, pcy, wb1, rfl, hB1, hwb1, st⟩
      have h2 := h1.two st rfl rfl rfl (by (repeat (first | exact sH _ _ _ | apply sT)))
      refine LR.back h2 ?_
      clear h2 h1 st
      rw [hpo.1] at hB1
      rw [hpo.2.1, hpo.2.2.1, hpo.2.2.2]
      have hle : wb1.length ≤ wa1.length := by
        have h5 : wb1.map WayA.kl = (wa1.map WayA.kl).filter (notO (1 + bring og 8)) := by rw [hB1, hA1]
        have h6 := congrArg List.length h5
        rw [List.length_map] at h6
        have h7 := List.length_filter_le (notO (1 + bring og 8)) (wa1.map WayA.kl)
        rw [List.length_map] at h7
        omega
      generalize hPa : putJ (wa.map WayA.kl) l[i].m = P at *
      repeat'(first|(apply kp;iterate 2 exact rfl)|apply jJ|(apply jE;exact rfl)|(apply jp;exact rfl)|(apply jc;kernel_rfl)|((first|apply kf|apply kn|apply ke|apply kx|apply kc|apply kb);iterate 2 exact rfl)|((first|apply kz|apply ky);(·exact rfl);(·repeat(first|exact iO|exact iR rfl|apply iT));iterate 2 exact rfl)|(apply kg;iterate 2 exact rfl)|(apply kG;iterate 3 exact rfl)|(apply kB;(iterate 2 exact rfl);intro _)|(apply kA;exact rfl;intro _)|(apply kK;(iterate 4 exact rfl);intro _)|(apply kU;(iterate 2 exact rfl);(·repeat(first|exact sH _ _ _|apply sT));(first|exact nfL_eq rfl|exact rfl);exact rfl)|((first|apply kh|apply kl);(iterate 2 exact rfl);(first|decide|omega);exact rfl)|(apply kq; (· exact rfl); (· intro w1 h1; first | exact CallsTo.q (c19 px py pcx pcy P.out P.out w1 (h1.rd_of_own (by (repeat (first | exact mH _ _ | apply mT)))) (h1.rd_of_own (by (repeat (first | exact mH _ _ | apply mT)))) (by omega)) h1 | (have hj := jO_rd (h1.holds (jO ba ra wa1) (by (repeat (first | exact mH _ _ | apply mT)))); exact CallsTo.q (g24 ba ra wa1 w1 hj.1 hj.2) h1) | (have hj := jO_rd (h1.holds (jO bb rb wb1) (by (repeat (first | exact mH _ _ | apply mT)))); exact CallsTo.q (g24 bb rb wb1 w1 hj.1 hj.2) h1)))|(apply addX;(iterate 2 exact rfl);(iterate 2(first|omega|(dsimp only;omega)));exact rfl)|((first|(apply kR;iterate 2 exact rfl)|(apply kQ;exact rfl));all_goals(intro hc;try simp only[hcs]at hc;try(exfalso;first|contradiction|omega))))
      apply At.again (i + 1, wa1, wb1)
      · exact ⟨by show i + 1 ≤ _; omega, hwa1, hwb1, by show wb1.map WayA.kl = (wa1.map WayA.kl).filter _; rw [hA1, hB1]⟩
      · (repeat (first | exact Out.refl _ _ | exact Out.mix | (apply Out.upd; (· exact rfl)) | (apply Out.updL; (· exact rfl)) | (apply Out.mixs; (· exact rfl))))
      · exact ⟨rfl, trivial⟩
      · exact fun w' hw' => hw'.sub (by repeat (first | exact List.Sublist.refl _ | exact List.nil_sublist _ | apply List.Sublist.cons_cons | apply List.Sublist.cons))
      · show l.length - (i + 1) < l.length - i
        omega
  · repeat'(first|(apply kp;iterate 2 exact rfl)|apply jJ|(apply jE;exact rfl)|(apply jp;exact rfl)|(apply jc;kernel_rfl)|((first|apply kf|apply kn|apply ke|apply kx|apply kc|apply kb);iterate 2 exact rfl)|((first|apply kz|apply ky);(·exact rfl);(·repeat(first|exact iO|exact iR rfl|apply iT));iterate 2 exact rfl)|(apply kg;iterate 2 exact rfl)|(apply kG;iterate 3 exact rfl)|(apply kB;(iterate 2 exact rfl);intro _)|(apply kA;exact rfl;intro _)|(apply kK;(iterate 4 exact rfl);intro _)|(apply kU;(iterate 2 exact rfl);(·repeat(first|exact sH _ _ _|apply sT));(first|exact nfL_eq rfl|exact rfl);exact rfl)|((first|apply kh|apply kl);(iterate 2 exact rfl);(first|decide|omega);exact rfl)|((first|(apply kR;iterate 2 exact rfl)|(apply kQ;exact rfl));all_goals(intro hc;try simp only[hcs]at hc;try(exfalso;first|contradiction|omega))))
    (apply ret1; (· exact rfl); intro w' hS)
    exact ⟨rfl, hS.toKeep⟩
end Go.Proofs.Ytphcnaafhcfakaa

namespace Go.Proofs.Ytphcnaafhcfakaa
open Go.Hb
set_option linter.unusedSimpArgs false
set_option linter.unusedVariables false

theorem part_ok {m : Msg} {p : List Int} (h : splitOk m) (hp : p.length ≤ 200) {i : Nat} (hi : i < npart p.length) : check (partM m (npart p.length) p i) = 0 := by
  obtain ⟨hk, ⟨h1, h2, h3, h4⟩, hck⟩ := h
  simp only [List.cons.injEq, and_true] at h4
  have hn : npart p.length ≤ 5 := by unfold npart; omega
  have hl : (chunk p i).length ≤ 48 := by rw [chunk_len]; omega
  unfold check checkM at hck ⊢
  rw [if_neg (show ¬ 160 < (partM m (npart p.length) p i).body.length by show ¬ 160 < (chunk p i).length; omega)]
  split at hck
  · cases hck
  · split at hck
    · rename_i hmb
      rw [if_pos]
      unfold mayB kindB at hmb ⊢
      have e1 : (oneM m).kind = 1 := hk
      have e2 : (partM m (npart p.length) p i).kind = 1 := hk
      rw [if_pos e1] at hmb
      rw [if_pos e2]
      simp only [Bool.and_eq_true] at hmb ⊢
      refine ⟨hmb.1, ?_⟩
      have := hmb.2
      unfold textB at this ⊢
      have := of_decide_eq_true this
      apply decide_eq_true
      simp only [oneM] at this
      show 1 ≤ ((npart p.length : Nat) : Int) ∧ _
      simp only [partM]
      refine ⟨?_, ?_⟩
      · unfold npart; omega
      · simp_all
        omega
    · cases hck

structure Job where
  m : Msg
  p : List Int
def Job.n (x : Job) : Nat := npart x.p.length
def Job.at_ (x : Job) (i : Nat) : Msg := partM x.m x.n x.p i
def Job.ms (x : Job) : List Msg := splitL x.m x.p
structure Job.Ok (k : Int × Int) (x : Job) : Prop where
  ok : splitOk x.m
  key : kOf x.m = k
  len : x.p.length ≤ 200
theorem Job.n_pos (x : Job) : 1 ≤ x.n := by unfold Job.n npart; omega
theorem Job.ms_len (x : Job) : x.ms.length = x.n := by simp [Job.ms, splitL, Job.n]
theorem Job.ms_get (x : Job) {i : Nat} (h : i < x.n) : x.ms[i]? = some (x.at_ i) := by
  show ((List.range x.n).map x.at_)[i]? = _
  rw [List.getElem?_map, List.getElem?_range h]; rfl
theorem Job.take_snoc (x : Job) {i : Nat} (h : i < x.n) : x.ms.take i ++ [x.at_ i] = x.ms.take (i + 1) := by
  rw [List.take_add_one, x.ms_get h]; rfl
theorem Job.join (x : Job) (h : x.p.length ≤ 200) : joinB x.ms = x.p := by
  have key : ∀ i, joinB (x.ms.take i) = x.p.take (min i x.n * 48) := by
    intro i
    induction i with
    | zero => simp [joinB]
    | succ i ih =>
      by_cases hi : i < x.n
      · rw [← x.take_snoc hi, joinB_snoc, ih]
        show x.p.take (min i x.n * 48) ++ (x.p.drop (i * 48)).take 48 = _
        rw [Nat.min_eq_left (by omega), Nat.min_eq_left (by omega), show (i + 1) * 48 = i * 48 + 48 by omega, List.take_add]
      · rw [show x.ms.take (i + 1) = x.ms.take i by rw [List.take_of_length_le (by rw [x.ms_len]; omega), List.take_of_length_le (by rw [x.ms_len]; omega)], ih, Nat.min_eq_right (by omega), Nat.min_eq_right (by omega)]
  have := key x.n
  rw [List.take_of_length_le (by rw [x.ms_len]; omega), Nat.min_self] at this
  rw [this, List.take_of_length_le]
  unfold Job.n npart
  omega
/-- What stands under way of a sender before its part of that number. -/
def entJ (x : Job) (j : Nat) : Option (List Msg) := if j = 0 then none else some (x.ms.take j)
theorem look_rest {A : Jn} {k k' : Int × Int} (h : k' ≠ k) : lookJ (restJ A k) k' = lookJ A k' := by
  unfold lookJ restJ
  rw [List.find?_filter]
  congr 2
  funext p
  by_cases hp : p.1 = k'
  · simp [hp, h]
  · simp [hp]
theorem look_rest_self (A : Jn) (k : Int × Int) : lookJ (restJ A k) k = none := by
  unfold lookJ restJ
  rw [List.find?_filter]
  have : (A.find? fun p => decide (decide (p.1 ≠ k) = true ∧ decide (p.1 = k) = true)) = none := by
    rw [List.find?_eq_none]
    intro p _ hp
    simp at hp
  rw [this]; rfl
theorem look_app {A : Jn} {k k' : Int × Int} {l : List Msg} : lookJ (restJ A k ++ [(k, l)]) k' = if k' = k then some l else lookJ A k' := by
  by_cases h : k' = k
  · subst h
    have h1 := look_rest_self A k'
    unfold lookJ at h1 ⊢
    rw [List.find?_append]
    rw [Option.map_eq_none_iff] at h1
    rw [h1, if_pos rfl]
    simp
  · have h1 := look_rest (A := A) h
    rw [if_neg h]
    rw [← h1]
    unfold lookJ
    rw [List.find?_append]
    have : ([(k, l)] : Jn).find? (fun p => decide (p.1 = k')) = none := by
      rw [List.find?_eq_none]; intro p hp; simp at hp; subst hp; simp; exact fun e => h e.symm
    rw [this, Option.or_none]
structure Went (A A' : Jn) (k : Int × Int) (e : Option (List Msg)) : Prop where
  self : lookJ A' k = e
  other : ∀ k', k' ≠ k → lookJ A' k' = lookJ A k'
theorem put_job {A : Jn} {k : Int × Int} {x : Job} (hx : x.Ok k) {j : Nat} (hj : j < x.n) (he : lookJ A k = entJ x j) :
    (putJ A (x.at_ j)).e = 0 ∧ (putJ A (x.at_ j)).is = decide (j + 1 = x.n) ∧ (j + 1 = x.n → (putJ A (x.at_ j)).out = x.p) ∧ Went A (putJ A (x.at_ j)).A k (if j + 1 = x.n then none else entJ x (j + 1)) := by
  have hc : check (x.at_ j) = 0 ∧ (x.at_ j).kind = 1 := ⟨part_ok hx.ok hx.len hj, hx.ok.1⟩
  have hk : kOf (x.at_ j) = k := hx.key
  have hct : contJ A (x.at_ j) = some (x.ms.take j) := by
    unfold contJ
    by_cases h0 : j = 0
    · subst h0
      rw [if_pos (by rfl)]; simp
    · rw [if_neg (by show ¬ ((j : Nat) : Int) = 0; omega), hk, he, entJ, if_neg h0]
      simp only [Option.bind_some]
      rw [if_pos]
      have hlen : (x.ms.take j).length = j := by rw [List.length_take, x.ms_len]; omega
      have h0' : (x.ms.take j)[0]? = some (x.at_ 0) := by rw [List.getElem?_take, if_pos (by omega)]; exact x.ms_get (by omega)
      cases hl : x.ms.take j with
      | nil => rw [hl] at hlen; simp at hlen; omega
      | cons y r =>
        rw [hl] at h0' hlen
        simp at h0'
        subst h0'
        unfold goesB
        apply decide_eq_true
        refine ⟨rfl, rfl, rfl, rfl, ?_⟩
        rw [hlen]; rfl
  have hlen : (x.ms.take j).length = j := by rw [List.length_take, x.ms_len]; omega
  by_cases hq : j + 1 = x.n
  · have hp : ¬ (((x.ms.take j).length : Nat) : Int) + 1 < (x.at_ j).parts := by rw [hlen]; show ¬ (j : Int) + 1 < ((x.n : Nat) : Int); omega
    rw [putJ_whole hc hct hp, hk]
    refine ⟨rfl, by simp [hq], fun _ => ?_, ⟨?_, fun k' hk' => look_rest hk'⟩⟩
    · show joinB (x.ms.take j ++ [x.at_ j]) = x.p
      rw [x.take_snoc hj, hq, List.take_of_length_le (by rw [x.ms_len]; omega), x.join hx.len]
    · rw [if_pos hq]; exact look_rest_self _ _
  · have hp : (((x.ms.take j).length : Nat) : Int) + 1 < (x.at_ j).parts := by rw [hlen]; show (j : Int) + 1 < ((x.n : Nat) : Int); omega
    rw [putJ_more hc hct hp, hk]
    refine ⟨rfl, by simp [hq], fun e => absurd e hq, ⟨?_, fun k' hk' => ?_⟩⟩
    · show lookJ (restJ A k ++ [(k, _)]) k = _
      rw [look_app, if_pos rfl, if_neg hq, entJ, if_neg (by omega), x.take_snoc hj]
    · show lookJ (restJ A k ++ [(k, _)]) k' = _
      rw [look_app, if_neg hk']
end Go.Proofs.Ytphcnaafhcfakaa

namespace Go.Proofs.Ytphcnaafhcfakaa
open Go.Hb
set_option linter.unusedSimpArgs false
set_option linter.unusedVariables false

structure SentA where
  o : Int
  li : Int
  g : Int
  sf : Bool
  p : List Int
  a : Option Addr
  c : Nat
def SentA.row (x : SentA) : List Value := [.int .i64 x.o, .int .i64 x.li, .int .i64 x.g, .bool x.sf, .slice x.a x.p.length x.c]
theorem SentA.row_len (x : SentA) : x.row.length = 5 := rfl
structure SR (w : World) (x : SentA) : Prop where
  hr : Rd w x.a (bv x.p)
  hz : x.a = none → x.c = 0
  hb : Byt x.p
  hc : x.p.length ≤ x.c
  hm : x.p.length ≤ 140737488355328
def keyK (k : Nat) : Int × Int := (((1 + k % 8 : Nat) : Int), ((1 + k / 8 : Nat) : Int))
theorem keyK_inj {k m : Nat} (h : keyK k = keyK m) : k = m := by
  simp only [keyK, Prod.mk.injEq] at h
  omega
def sentM (k i : Nat) (x : SentA) : Msg := ⟨1, ((1 + k % 8 : Nat) : Int), ((1 + k / 8 : Nat) : Int), (i : Int), 0, 0, 1 + bring x.g 255, x.sf, 0, 0, 0, 0, []⟩
theorem sent_ok (k i : Nat) (x : SentA) (hk : k < 16) (hi : i < 40) : splitOk (sentM k i x) := by
  have hb := bring_bd x.g 255 (by omega)
  refine ⟨rfl, ⟨rfl, rfl, rfl, rfl⟩, ?_⟩
  unfold check checkM
  rw [if_neg (by simp [oneM, sentM])]
  rw [if_pos]
  have hke : keyE 0 0 0 0 = 0 := by decide
  unfold mayB kindB
  rw [if_pos (by rfl)]
  unfold textB
  simp only [oneM, sentM, hke, withinB, Bool.and_eq_true, decide_eq_true_eq, List.length_nil]
  refine ⟨⟨⟨⟨⟨⟨?_, ?_⟩, ?_⟩, ?_⟩, ?_⟩, ?_⟩, ?_⟩
  all_goals first | (refine ⟨decide_eq_true ?_, decide_eq_true ?_⟩ <;> omega) | (apply decide_eq_true; omega) | (simp; done)

/-! ### what is a sender's -/
structure BA where
  b : List Int
  a : Option Addr
  c : Nat
def BA.val (x : BA) : Value := .slice x.a x.b.length x.c
def BA.body (x : BA) : Asrt := osl (.slice x.a x.b.length x.c) 5 1 x.b.length (bv x.b)
theorem BA.dep (x : BA) : x.body.dep := osl.dep _ _ _ _ _
theorem BA.ex (x : BA) : x.body.excl = true := rfl
abbrev bunA : List BA → Asrt := bun BA.body
abbrev wS (a : Option Addr) (c : Nat) (l : List BA) : Asrt := osl (.slice a l.length c) 26 1 l.length (l.map BA.val)
structure Snd where
  pa : Option Addr
  pc : Nat
  pl : List MsgA
  wa : Option Addr
  wc : Nat
  wl : List BA
  js : List Job
def Snd.pv (x : Snd) : Value := .slice x.pa x.pl.length x.pc
def Snd.wv (x : Snd) : Value := .slice x.wa x.wl.length x.wc
def Snd.body (x : Snd) : Asrt := both (both (mS x.pa x.pc x.pl) (bunB x.pl)) (both (wS x.wa x.wc x.wl) (bunA x.wl))
theorem Snd.dep (x : Snd) : x.body.dep := both_dep (both_dep (osl.dep _ _ _ _ _) (bun_dep MsgA.dep _)) (both_dep (osl.dep _ _ _ _ _) (bun_dep BA.dep _))
theorem Snd.ex (x : Snd) : x.body.excl = true := rfl
abbrev bunS : List Snd → Asrt := bun Snd.body
theorem St.snd_open {w0 w : World} {F : Nat → Prop} {R : List Asrt} {x : Snd} (h : St w0 F (x.body :: R) w) : St w0 F (mS x.pa x.pc x.pl :: bunB x.pl :: wS x.wa x.wc x.wl :: bunA x.wl :: R) w := by
  have h1 := h.part (both_dep (osl.dep _ _ _ _ _) (bun_dep MsgA.dep _)) (both_dep (osl.dep _ _ _ _ _) (bun_dep BA.dep _))
  have h2 := h1.part (osl.dep _ _ _ _ _) (bun_dep MsgA.dep _)
  have h3 := (front h2 2 rfl rfl).part (osl.dep _ _ _ _ _) (bun_dep BA.dep _)
  exact front (front h3 3 rfl rfl) 3 rfl rfl |> fun h => front (front h 1 rfl rfl) 1 rfl rfl |> fun h => front (front h 1 rfl rfl) 0 rfl rfl |> fun h => (front h 1 rfl rfl)
theorem St.snd_shut {w0 w : World} {F : Nat → Prop} {R : List Asrt} (x : Snd) (h : St w0 F (mS x.pa x.pc x.pl :: bunB x.pl :: wS x.wa x.wc x.wl :: bunA x.wl :: R) w) : St w0 F (x.body :: R) w := by
  have h1 := h.join rfl rfl
  have h2 := (front (front h1 2 rfl rfl) 2 rfl rfl).join rfl rfl
  exact (front h2 1 rfl rfl).join rfl rfl
theorem take_drop_at {α : Type} {l : List α} {k : Nat} (hk : k < l.length) : l = l.take k ++ l[k] :: l.drop (k + 1) := by
  rw [← List.drop_eq_getElem_cons hk, List.take_append_drop]
theorem St.bun_open {α : Type} {f : α → Asrt} {w0 w : World} {F : Nat → Prop} {R : List Asrt} {l : List α} {k : Nat} (hd : ∀ x, (f x).dep) (hk : k < l.length) (h : St w0 F (bun f l :: R) w) : St w0 F (f l[k] :: bun f (l.take k ++ l.drop (k + 1)) :: R) w :=
  St.bun_pick hd (h.cast (congrArg (fun z => bun f z :: R) (take_drop_at hk)))
theorem St.bun_shut {α : Type} {f : α → Asrt} {w0 w : World} {F : Nat → Prop} {R : List Asrt} {l : List α} {k : Nat} {x : α} (hd : ∀ x, (f x).dep) (he : ∀ x, (f x).excl = true) (hk : k < l.length) (h : St w0 F (f x :: bun f (l.take k ++ l.drop (k + 1)) :: R) w) : St w0 F (bun f (l.set k x) :: R) w := by
  rw [List.set_eq_take_append_cons_drop, if_pos hk]
  exact St.bun_put hd he h
def noSnd : Snd := ⟨none, 0, [], none, 0, [], []⟩
theorem St.sixteen {w0 w : World} {F : Nat → Prop} {R : List Asrt} (h : St w0 F R w) : ∀ n, St w0 F (bunS (List.replicate n noSnd) :: R) w
  | 0 => h.bun_nil Snd.dep
  | n + 1 => by
    have h1 := ((((St.sixteen h n).bun_nil BA.dep).nilsl 26 1).bun_nil MsgA.dep).nilsl 28 13
    have h2 := St.snd_shut noSnd (F := F) (w0 := w0) (w := w) (R := bunS (List.replicate n noSnd) :: R) h1
    exact St.bun_put (l := []) Snd.dep Snd.ex h2
structure Snd.Ok (k : Nat) (x : Snd) : Prop where
  ms : x.pl.map MsgA.m = x.js.flatMap Job.ms
  ws : x.wl.map BA.b = x.js.map Job.p
  ok : ∀ y ∈ x.js, y.Ok (keyK k)
  byt : ∀ y ∈ x.js, Byt y.p
theorem Stores.arr {P : Program} {b q i : Nat} {T E : TypeId} {v : Value} {cs : List Value} (h : Sz P T 1) (hv : v.cells = [v].toArray) (h1 : Value.oneCell' v = true) (hq : q = i) (hi : i < cs.length) :
    Stores P T ⟨b, q, none⟩ v (.own b (.cells cs.toArray E (0, 0))) (.own b (.cells (cs.set i v).toArray E (0, 0))) := by
  subst hq
  have := Stores.own (P := P) (T := T) (b := b) (o := q) (v := v) (cs := cs) (vs := [v]) (E := E) h hv (by simp [h1]) rfl (by simp; omega)
  rwa [splice_one _ _ _ hi] at this
theorem cell_mem {w0 w : World} {F : Nat → Prop} {L : List Asrt} {b : Nat} {cs : List Value} {E : TypeId} {fr : Nat × Nat} {q i : Nat} {v : Value} (h : St w0 F L w) (hm : Asrt.own b (.cells cs.toArray E fr) ∈ L) (hq : q = i) (hv : cs[i]? = some v) : w.cell? ⟨b, q, none⟩ = some v := by
  subst hq
  rw [cell_own (show w.heap[b]? = some (.cells cs.toArray E fr) from h.holds _ hm)]
  simpa using hv

/-! ### how it goes on -/
structure Rm where
  pa : Option Addr
  pc : Nat
  pl : List MsgA
  wa : Option Addr
  wc : Nat
  wl : List BA
  js : List Job
  j : Nat
def Rm.pv (x : Rm) : Value := .slice x.pa x.pl.length x.pc
def Rm.wv (x : Rm) : Value := .slice x.wa x.wl.length x.wc
def Rm.ent (x : Rm) : Option (List Msg) := match x.js with
  | [] => none
  | y :: _ => entJ y x.j
structure Rm.Ok (Z : World → Prop) (ft : Nat → Prop) (k : Nat) (x : Rm) : Prop where
  rp : ∀ w, Z w → Rd w x.pa (x.pl.flatMap MsgA.row)
  rb : ∀ w, Z w → ∀ y ∈ x.pl, Rd w y.a (bv y.m.body) ∧ (y.a = none → y.c = 0)
  rw_ : ∀ w, Z w → Rd w x.wa (x.wl.map BA.val)
  rv : ∀ w, Z w → ∀ y ∈ x.wl, Rd w y.a (bv y.b)
  ft : ∀ y ∈ x.pl, ∀ q, rdFoot y.a (bv y.m.body) q → ft q
  cp : x.pl.length ≤ x.pc
  cw : x.wl.length ≤ x.wc
  ms : x.pl.map MsgA.m = (x.js.flatMap Job.ms).drop x.j
  ws : x.wl.map BA.b = x.js.map Job.p
  ok : ∀ y ∈ x.js, y.Ok (keyK k) ∧ Byt y.p
  jn : match x.js with
    | [] => x.j = 0
    | y :: _ => x.j < y.n
def Rm.next (x : Rm) : Rm := match x.js with
  | [] => x
  | y :: r => if x.j + 1 = y.n then ⟨subA x.pa x.pc 1 13, x.pc - 1, x.pl.tail, subA x.wa x.wc 1 1, x.wc - 1, x.wl.tail, r, 0⟩ else ⟨subA x.pa x.pc 1 13, x.pc - 1, x.pl.tail, x.wa, x.wc, x.wl, x.js, x.j + 1⟩
theorem Rm.Ok.out {Z : World → Prop} {ft : Nat → Prop} {k : Nat} {x : Rm} (h : x.Ok Z ft k) {y : MsgA} {r : List MsgA} (hp : x.pl = y :: r) :
    ∃ b js, x.js = b :: js ∧ x.j < b.n ∧ y.m = b.at_ x.j ∧ b.Ok (keyK k) ∧ Byt b.p ∧ (∃ v ws, x.wl = v :: ws ∧ v.b = b.p) := by
  have hm := h.ms
  have hj := h.jn
  have hw := h.ws
  cases hjs : x.js with
  | nil => rw [hp, hjs] at hm; simp at hm
  | cons b js =>
    rw [hjs] at hj hw hm
    simp only at hj
    refine ⟨b, js, rfl, hj, ?_, (h.ok b (by rw [hjs]; simp)).1, (h.ok b (by rw [hjs]; simp)).2, ?_⟩
    · rw [hp, List.flatMap_cons, List.drop_append_of_le_length (by rw [b.ms_len]; omega)] at hm
      have h0 : (b.ms.drop x.j)[0]? = some (b.at_ x.j) := by rw [List.getElem?_drop]; exact b.ms_get (by omega)
      have h1 := congrArg (fun l : List Msg => l[0]?) hm
      simp only [List.map_cons, List.getElem?_cons_zero] at h1
      rw [List.getElem?_append_left (by rw [List.length_drop, b.ms_len]; omega), h0] at h1
      exact Option.some.inj h1
    · cases hwl : x.wl with
      | nil => rw [hwl] at hw; simp at hw
      | cons v ws => rw [hwl] at hw; simp at hw; exact ⟨v, ws, rfl, hw.1⟩
theorem Rm.Ok.go {Z : World → Prop} {ft : Nat → Prop} {k : Nat} {x : Rm} (h : x.Ok Z ft k) {y : MsgA} {r : List MsgA} (hp : x.pl = y :: r) : x.next.Ok Z ft k := by
  obtain ⟨b, js, hjs, hj, hy, hb, hby, v, ws, hwl, hv⟩ := h.out hp
  have e13 : (x.pl.flatMap MsgA.row).drop (1 * 13) = r.flatMap MsgA.row := by
    rw [hp, List.flatMap_cons, List.drop_append_of_le_length (by rw [MsgA.row_len]; omega), List.drop_of_length_le (by rw [MsgA.row_len]; omega), List.nil_append]
  have hms := h.ms
  have hcp := h.cp
  have hcw := h.cw
  rw [hp] at hcp
  rw [hwl] at hcw
  simp only [List.length_cons] at hcp hcw
  have rp' : ∀ w, Z w → Rd w (subA x.pa x.pc 1 13) (x.pl.tail.flatMap MsgA.row) := fun w hw => by
    have := (h.rp w hw).drop (l := 1) (sz := 13) (c := x.pc) (fun e => by rw [hp, List.eq_nil_of_length_eq_zero (show r.length = 0 by omega)]; simp [MsgA.row_len])
    rw [e13] at this
    rw [hp]; exact this
  have rb' : ∀ w, Z w → ∀ y ∈ x.pl.tail, Rd w y.a (bv y.m.body) ∧ (y.a = none → y.c = 0) := fun w hw y hy => h.rb w hw y (List.mem_of_mem_tail hy)
  have ft' : ∀ y ∈ x.pl.tail, ∀ q, rdFoot y.a (bv y.m.body) q → ft q := fun y hy => h.ft y (List.mem_of_mem_tail hy)
  have ms' : x.pl.tail.map MsgA.m = (x.js.flatMap Job.ms).drop (x.j + 1) := by
    rw [List.map_tail, hms, List.tail_drop]
  unfold Rm.next
  rw [hjs]
  simp only
  by_cases hq : x.j + 1 = b.n
  · rw [if_pos hq]
    refine ⟨rp', rb', fun w hw => ?_, fun w hw y hy => h.rv w hw y (List.mem_of_mem_tail hy), ft', ?_, ?_, ?_, ?_, fun y hy => h.ok y (by rw [hjs]; exact List.mem_cons_of_mem _ hy), ?_⟩
    · have := (h.rw_ w hw).drop (l := 1) (sz := 1) (c := x.wc) (fun e => by rw [hwl, List.eq_nil_of_length_eq_zero (show ws.length = 0 by omega)]; simp)
      simp only [Nat.mul_one, List.drop_one] at this
      rw [List.map_tail]; exact this
    · show x.pl.tail.length ≤ x.pc - 1
      rw [hp]; simp; omega
    · show x.wl.tail.length ≤ x.wc - 1
      rw [hwl]; simp; omega
    · show x.pl.tail.map MsgA.m = (js.flatMap Job.ms).drop 0
      rw [ms', hjs, List.flatMap_cons, hq, List.drop_append_of_le_length (by rw [b.ms_len]; omega), List.drop_of_length_le (by rw [b.ms_len]; omega)]
      rfl
    · show x.wl.tail.map BA.b = js.map Job.p
      rw [List.map_tail, h.ws, hjs]; rfl
    · clear hms ms' rp' rb' ft' hjs
      cases js with
      | nil => rfl
      | cons z zs => exact z.n_pos
  · rw [if_neg hq]
    refine ⟨rp', rb', h.rw_, h.rv, ft', ?_, h.cw, ?_, ?_, fun y hy => h.ok y (by rw [hjs]; exact hy), ?_⟩
    · show x.pl.tail.length ≤ x.pc - 1
      rw [hp]; simp; omega
    · show x.pl.tail.map MsgA.m = ((b :: js).flatMap Job.ms).drop (x.j + 1)
      rw [ms', hjs]
    · show x.wl.map BA.b = (b :: js).map Job.p
      rw [h.ws, hjs]
    · show x.j + 1 < b.n
      omega
structure AllR (Z : World → Prop) (ft : Nat → Prop) (rs : List Rm) (A : Jn) : Prop where
  len : rs.length = 16
  ok : ∀ (k : Nat) (x : Rm), rs[k]? = some x → x.Ok Z ft k
  ent : ∀ (k : Nat) (x : Rm), rs[k]? = some x → lookJ A (keyK k) = x.ent
  keys : ∀ p, lookJ A p ≠ none → ∃ k < 16, p = keyK k
theorem AllR.step {Z : World → Prop} {ft : Nat → Prop} {rs : List Rm} {A : Jn} (h : AllR Z ft rs A) {k : Nat} {x : Rm} (hx : rs[k]? = some x) {y : MsgA} {r : List MsgA} (hp : x.pl = y :: r) :
    (putJ A y.m).e = 0 ∧ (putJ A y.m).is = decide (y.m.part = y.m.parts - 1) ∧ AllR Z ft (rs.set k x.next) (putJ A y.m).A ∧ Byt y.m.body ∧ y.m.body.length ≤ 48 ∧ (∃ v ws, x.wl = v :: ws ∧ v.b.length ≤ 200 ∧
      (((putJ A y.m).is = true ∧ (putJ A y.m).out = v.b ∧ x.next.pv = .slice (subA x.pa x.pc 1 13) r.length (x.pc - 1) ∧ x.next.wv = .slice (subA x.wa x.wc 1 1) ws.length (x.wc - 1)) ∨
       ((putJ A y.m).is = false ∧ x.next.pv = .slice (subA x.pa x.pc 1 13) r.length (x.pc - 1) ∧ x.next.wv = x.wv))) ∧ x.next.pl = r ∧ 1 ≤ y.m.parts ∧ y.m.parts ≤ 5 := by
  have hk := h.ok k x hx
  obtain ⟨b, js, hjs, hj, hy, hb, hby, v, ws, hwl, hv⟩ := hk.out hp
  have he : lookJ A (keyK k) = entJ b x.j := by rw [h.ent k x hx, Rm.ent, hjs]
  obtain ⟨h1, h2, h3, h4, h5⟩ := put_job hb hj he
  rw [← hy] at h1 h2 h3 h4 h5
  have hk16 : k < 16 := by rw [← h.len]; exact (List.getElem?_eq_some_iff.1 hx).1
  have ht5 : 1 ≤ y.m.parts ∧ y.m.parts ≤ 5 := by
    rw [hy]
    have := text_of_check (part_ok hb.ok hb.len hj) hb.ok.1
    exact ⟨this.1, this.2.1⟩
  have hpt : (y.m.part = y.m.parts - 1) ↔ (x.j + 1 = b.n) := by
    rw [hy]
    show ((x.j : Nat) : Int) = ((b.n : Nat) : Int) - 1 ↔ _
    omega
  have hne : x.next.ent = if x.j + 1 = b.n then none else entJ b (x.j + 1) := by
    unfold Rm.next
    rw [hjs]
    simp only
    split
    · unfold Rm.ent
      cases js with
      | nil => rfl
      | cons z zs => rfl
    · rfl
  have hnl : x.next.pl = r := by
    unfold Rm.next
    rw [hjs]
    simp only
    split <;> rw [hp] <;> rfl
  refine ⟨h1, ?_, ⟨by rw [List.length_set, h.len], ?_, ?_, ?_⟩, ?_, ?_, ⟨v, ws, hwl, by rw [hv]; exact hb.len, ?_⟩, hnl, ht5⟩
  · rw [h2]; simp only [hpt]
  · intro k' x' hx'
    rw [List.getElem?_set] at hx'
    split at hx'
    · rename_i e
      subst e
      split at hx'
      · cases hx'; exact hk.go hp
      · cases hx'
    · exact h.ok k' x' hx'
  · intro k' x' hx'
    rw [List.getElem?_set] at hx'
    split at hx'
    · rename_i e
      subst e
      split at hx'
      · cases hx'; rw [h4, hne]
      · cases hx'
    · rename_i e
      rw [h5 _ (fun hh => e (keyK_inj hh).symm)]
      exact h.ent k' x' hx'
  · intro p hpn
    by_cases hpk : p = keyK k
    · exact ⟨k, hk16, hpk⟩
    · rw [h5 _ hpk] at hpn; exact h.keys p hpn
  · rw [hy]; exact chunk_byt hby _
  · rw [hy]; show (chunk b.p x.j).length ≤ 48; rw [chunk_len]; omega
  · by_cases hq : x.j + 1 = b.n
    · left
      refine ⟨by rw [h2]; simp [hq], by rw [h3 hq, hv], ?_, ?_⟩
      · unfold Rm.next Rm.pv; rw [hjs]; simp only; rw [if_pos hq, hp]; rfl
      · unfold Rm.next Rm.wv; rw [hjs]; simp only; rw [if_pos hq, hwl]; rfl
    · right
      refine ⟨by rw [h2]; simp [hq], ?_, ?_⟩
      · unfold Rm.next Rm.pv; rw [hjs]; simp only; rw [if_neg hq, hp]; rfl
      · unfold Rm.next Rm.wv; rw [hjs]; simp only; rw [if_neg hq]
def total (rs : List Rm) : Nat := (rs.map fun x => x.pl.length).sum
theorem total_set {rs : List Rm} {k : Nat} {x z : Rm} (hx : rs[k]? = some x) : total (rs.set k z) + x.pl.length = total rs + z.pl.length := by
  induction rs generalizing k with
  | nil => simp at hx
  | cons q r ih =>
    cases k with
    | zero => simp at hx; subst hx; simp [total]; omega
    | succ k =>
      simp at hx
      have := ih hx
      simp only [total, List.set_cons_succ, List.map_cons, List.sum_cons] at this ⊢
      omega
theorem AllR.none {Z : World → Prop} {ft : Nat → Prop} {rs : List Rm} {A : Jn} (h : AllR Z ft rs A) (hn : ∀ (k : Nat) (x : Rm), rs[k]? = some x → x.pl = []) : A = [] := by
  cases hA : A with
  | nil => rfl
  | cons p r =>
    exfalso
    have hl : lookJ A p.1 ≠ Option.none := by rw [hA]; simp [lookJ]
    obtain ⟨k, hk, he⟩ := h.keys _ hl
    have hkl : k < rs.length := by rw [h.len]; exact hk
    have hx := List.getElem?_eq_getElem hkl
    rw [he, h.ent k _ hx] at hl
    have hp := hn k _ hx
    have hm := (h.ok k _ hx).ms
    have hj := (h.ok k _ hx).jn
    rw [hp] at hm
    cases hjs : rs[k].js with
    | nil => rw [Rm.ent, hjs] at hl; exact hl rfl
    | cons b js =>
      rw [hjs] at hm hj
      simp only at hj
      have := congrArg List.length hm
      simp only [List.map_nil, List.length_nil, List.flatMap_cons, List.length_drop, List.length_append, b.ms_len] at this
      omega
def Snd.rm (x : Snd) : Rm := ⟨x.pa, x.pc, x.pl, x.wa, x.wc, x.wl, x.js, 0⟩
theorem all_start {ss : List Snd} (hl : ss.length = 16) (hok : ∀ (k : Nat) (x : Snd), ss[k]? = some x → x.Ok k) (hc : ∀ x ∈ ss, x.pl.length ≤ x.pc ∧ x.wl.length ≤ x.wc) : AllR (bunS ss).holds (bunS ss).foot (ss.map Snd.rm) [] := by
  refine ⟨by simpa using hl, ?_, ?_, fun p hp => absurd rfl hp⟩
  · intro k x hx
    rw [List.getElem?_map] at hx
    cases hs : ss[k]? with
    | none => rw [hs] at hx; cases hx
    | some s =>
      rw [hs] at hx; cases hx
      have hm := List.mem_of_getElem? hs
      have ho := hok k s hs
      have hh : ∀ w, (bunS ss).holds w → s.body.holds w := fun w hw => hw.1 s hm
      refine ⟨fun w hw => ownsRow_rd (hh w hw).1.1, fun w hw y hy => ?_, fun w hw => ownsRow_rd (hh w hw).2.1.1, fun w hw y hy => ownsRow_rd ((hh w hw).2.1.2.1.1 y hy), fun y hy q hq => ⟨s, hm, .inl (.inr (bun_foot hy hq))⟩, (hc s hm).1, (hc s hm).2, by show _ = List.drop 0 _; exact ho.ms, ho.ws, fun y hy => ⟨ho.ok y hy, ho.byt y hy⟩, ?_⟩
      · have := (hh w hw).1.2.1.1 y hy
        exact ⟨ownsRow_rd this, fun e => (ownsRow_some this e).2⟩
      · show match s.js with
          | [] => 0 = 0
          | y :: _ => 0 < y.n
        cases s.js with
        | nil => rfl
        | cons z zs => exact z.n_pos
  · intro k x hx
    rw [List.getElem?_map] at hx
    cases hs : ss[k]? with
    | none => rw [hs] at hx; cases hx
    | some s =>
      rw [hs] at hx; cases hx
      show Option.none = match s.js with
        | [] => Option.none
        | y :: _ => entJ y 0
      cases s.js <;> rfl
theorem caps_of {ss : List Snd} {w : World} (h : (bunS ss).holds w) : ∀ x ∈ ss, x.pl.length ≤ x.pc ∧ x.wl.length ≤ x.wc := fun x hx => ⟨ownsRow_cap (h.1 x hx).1.1, ownsRow_cap (h.1 x hx).2.1.1⟩
theorem map_set_same {α β : Type} {l : List α} {k : Nat} {x z : α} {f : α → β} (hx : l[k]? = some x) (h : f z = f x) : (l.set k z).map f = l.map f := by
  rw [List.map_set, h]
  apply List.ext_getElem?
  intro i
  rw [List.getElem?_set]
  split
  · rename_i e
    subst e
    have hk := (List.getElem?_eq_some_iff.1 hx).1
    have := (List.getElem?_eq_some_iff.1 hx).2
    simp [hk, this]
  · rfl
theorem rd_at {w : World} {b o j q : Nat} {xs : List Value} {v : Value} (h : Rd w (some ⟨b, o, none⟩) xs) (hv : xs[j]? = some v) (hq : q = o + j) : w.cell? ⟨b, q, none⟩ = some v := by
  subst hq
  obtain ⟨ad, e, hc⟩ := h j v hv
  cases e
  rwa [addr_add] at hc
theorem CW.back1 {P : Program} {n : Nat} {c : Code} {Q : Post} {f : Frm} {C : World → Prop} {w : World} (hw : C w) (h : CW P n c Q f C) : CW P n c Q f (fun u => u = w) := CW.sub h (fun _ e => e ▸ hw)
theorem neBool {P : Program} {f : Frm} {T T' T'' : TypeId} {x y : Operand} {C : World → Prop} {a b : Bool} [h : Bools P T'] (e : a = b) (hx : f.ev x = .bool a) (hy : f.ev y = .bool b) : Ev P C f (.binOp .neq T' x y T'') T (.bool false) := by
  have := EqOf.ne (P := P) (T := T') (e := eqBool) (C := C) (f := f) (T1 := T) (T2 := T'') (x := x) (y := y) (b := true) (by rw [hx, hy, e]; simp [eqBool])
  exact this
end Go.Proofs.Ytphcnaafhcfakaa

namespace Go.Proofs.Ytphcnaafhcfakaa
open Go.Hb
attribute [local irreducible] LR CW At Ev thn blk finK noG again CallsTo DW QL dnext TW DP
set_option linter.unusedSimpArgs false
set_option linter.unusedVariables false
set_option maxRecDepth 100000

theorem minC {P : Program} {f : Frm} {T : TypeId} {x y : Operand} {C : World → Prop} {a b c : Nat} {ts : Array TypeId} (hx : f.ev x = .int .i64 (a : Int)) (hy : f.ev y = .int .i64 (b : Int)) (hc : min b a = c) : Ev P C f (.call ⟨.builtin .min, [x, y].toArray, ts⟩) T (.int .i64 (c : Int)) := hc ▸ minN hx hy
theorem maxC {P : Program} {f : Frm} {T : TypeId} {x y : Operand} {C : World → Prop} {a b c : Nat} {ts : Array TypeId} (hx : f.ev x = .int .i64 (a : Int)) (hy : f.ev y = .int .i64 (b : Int)) (hc : max b a = c) : Ev P C f (.call ⟨.builtin .max, [x, y].toArray, ts⟩) T (.int .i64 (c : Int)) := hc ▸ maxN hx hy
theorem Rd.btake {w : World} {a : Option Addr} {l : List Int} (n : Nat) (h : Rd w a (bv l)) : Rd w a (bv (l.take n)) := by
  have := h.take n
  unfold bv at this ⊢
  rwa [List.map_take]
theorem subA0 (a : Option Addr) (c sz : Nat) : subA a c 0 sz = a := by
  cases a with
  | none => unfold subA; split <;> rfl
  | some a => unfold subA; rw [Nat.zero_mul]; split <;> rfl
theorem sliceHi0 {P : Program} {f : Frm} {T T' : TypeId} {x y : Operand} {C : World → Prop} {E : TypeId} {sz by_ k c j : Nat} {a : Option Addr} [h : SliceOf P T E sz by_] (hx : f.ev x = .slice a k c) (hy : f.ev y = .int .i64 (j : Int)) (h1 : j ≤ c) : Ev P C f (.slice T x none (some y) none) T' (.slice a j c) := by
  have := sliceHi (P := P) (C := C) (T := T) (T' := T') hx hy h1
  rwa [subA0] at this
theorem sum_set {α : Type} (f : α → Nat) {l : List α} {k : Nat} {x z : α} (hx : l[k]? = some x) : ((l.set k z).map f).sum + f x = (l.map f).sum + f z := by
  induction l generalizing k with
  | nil => simp at hx
  | cons q r ih =>
    cases k with
    | zero => simp at hx; subst hx; simp; omega
    | succ k =>
      simp at hx
      have := ih hx
      simp only [List.set_cons_succ, List.map_cons, List.sum_cons] at this ⊢
      omega
theorem sum_mem {α : Type} (f : α → Nat) {l : List α} {x : α} (hx : x ∈ l) : f x ≤ (l.map f).sum := by
  induction l with
  | nil => cases hx
  | cons q r ih =>
    simp only [List.map_cons, List.sum_cons]
    rcases List.mem_cons.1 hx with rfl | h
    · omega
    · have := ih h; omega
theorem mrows_len (l : List MsgA) : (l.flatMap MsgA.row).length = l.length * 13 := by
  induction l with
  | nil => rfl
  | cons x r ih => rw [List.flatMap_cons, List.length_append, ih, MsgA.row_len, List.length_cons]; omega
theorem mS_app (a : Option Addr) (c : Nat) (p q : List MsgA) : osl (.slice a (p.length + q.length) c) 28 13 (p.length + q.length) (p.flatMap MsgA.row ++ q.flatMap MsgA.row) = mS a c (p ++ q) := by simp [mS]
theorem wS_snoc (a : Option Addr) (c : Nat) (l : List BA) (p : List Int) (y : Option Addr) (z : Nat) : osl (.slice a (l.length + 1) c) 26 1 (l.length + 1) (l.map BA.val ++ [Value.slice y p.length z]) = wS a c (l ++ [⟨p, y, z⟩]) := by simp [wS, BA.val]
abbrev ivT (l : List Int) : List Value := l.map fun x => Value.int .i64 x
set_option maxHeartbeats 8000000 in
theorem g5 (al : Option Addr) (cl : Nat) (l : List SentA) (at_ : Option Addr) (ct : Nat) (tv : List Int) (w : World) (hr : Rd w al (l.flatMap SentA.row)) (hR : ∀ x ∈ l, SR w x) (hm : l.length ≤ 140737488355328) (htr : Rd w at_ (ivT tv)) (htm : tv.length ≤ 140737488355328) :
    CallsTo Try.prog 5 [.slice al l.length cl, .slice at_ tv.length ct] w fun v w' => v = .bool true ∧ Grew w w' := by
  refine go_in (n := 201) (St.rd2 hr htr) Try.func5 rfl rfl ?_
  repeat'(first|(apply kA; (· exact rfl); intro b6)|(apply kp;iterate 2 exact rfl)|apply jJ|(apply jE;exact rfl)|(apply jp;exact rfl)|(apply jc;kernel_rfl)|((first|apply kf|apply kn|apply ke|apply kx|apply kc|apply kb);iterate 2 exact rfl)|((first|apply kz|apply ky);(·exact rfl);(·repeat(first|exact iO|exact iR rfl|apply iT));iterate 2 exact rfl)|(apply kg;iterate 2 exact rfl)|(apply kG;iterate 3 exact rfl)|(apply kB;(iterate 2 exact rfl);intro _)|(apply kA;exact rfl;intro _)|(apply kK;(iterate 4 exact rfl);intro _)|(apply kU;(iterate 2 exact rfl);(·repeat(first|exact sH _ _ _|apply sT));(first|exact nfL_eq rfl|exact rfl);exact rfl)|((first|apply kh|apply kl);(iterate 2 exact rfl);(first|decide|omega);exact rfl)|(apply kq; (· exact rfl); (· intro w1 h1; exact CallsTo.q (g19 w1) h1))|((first|(apply kR;iterate 2 exact rfl)|(apply kQ;exact rfl));all_goals(intro hc;try simp only[hcs]at hc;try(exfalso;first|contradiction|omega))))
  rename_i b5
  apply CW.loop [4, 7, 8, 9, 10, 11, 12, 24, 25, 26, 27, 28, 29, 30, 31, 32, 33, 34, 35, 36, 37, 38, 39, 40, 41, 42, 43, 44, 45, 46, 47, 48, 49, 50, 51, 52, 53, 54, 55, 56, 57, 58, 59, 60, 61, 62, 63, 64, 65, 66, 67, 68, 69, 70, 71, 72, 73, 74, 75, 76, 77, 78, 79, 80, 81, 82, 83, 84, 85, 86, 87, 88, 89, 90, 91, 92, 93, 94, 95, 96, 97, 98, 99, 100, 101, 102, 103, 104, 105, 106, 107, 108, 109, 110, 111, 112, 113, 114] (fun s : Nat × List Snd => s.1 ≤ l.length ∧ s.1 ≤ 40 ∧ s.2.length = 16 ∧ (∀ (k : Nat) (x : Snd), s.2[k]? = some x → x.Ok k ∧ x.js.length ≤ s.1) ∧ (s.2.map fun x => x.pl.length).sum ≤ 5 * s.1) (fun s => [(7, Value.int .i64 (s.1 : Int))])
    (fun s => St w NoF [bunS s.2, .own b6 (.cells (s.2.map Snd.wv).toArray 52 (0, 0)), .own b5 (.cells (s.2.map Snd.pv).toArray 50 (0, 0)), rdA al (l.flatMap SentA.row), rdA at_ (ivT tv)]) (fun s => l.length - s.1)
  · refine fun w' hw' => ⟨(0, List.replicate 16 noSnd), ⟨by simp, by simp, by simp, fun k x hx => ?_, by decide⟩, ⟨rfl, trivial⟩, St.sixteen hw' 16⟩
    have := List.eq_of_mem_replicate (List.mem_of_getElem? hx)
    subst this
    exact ⟨⟨rfl, rfl, (fun y hy => by simp [noSnd] at hy), (fun y hy => by simp [noSnd] at hy)⟩, by simp [noSnd]⟩
  rintro ⟨i, ss⟩ g ⟨hi, hi40, hsl, hso, hsum⟩
  simp only at hi hi40 hsl hso hsum ⊢
  by_cases hlt : i < l.length ∧ i < 40
  · obtain ⟨hlt, hlt40⟩ := hlt
    obtain ⟨bl, ol, rfl⟩ := hr.form (rows_ne SentA.row_len (by omega) hlt)
    have hx := hR _ (List.getElem_mem hlt)
    have hbo := bring_bd l[i].o 8 (by omega)
    have hbl := bring_bd l[i].li 2 (by omega)
    obtain ⟨k, hk⟩ := Int.eq_ofNat_of_zero_le (show 0 ≤ bring l[i].o 8 + 8 * bring l[i].li 2 by omega)
    have hk16 : k < 16 := by omega
    have hks : k < ss.length := by omega
    have ldc : ∀ w' : World, Rd w' (some ⟨bl, ol, none⟩) (l.flatMap SentA.row) → ∀ (j : Nat) v, l[i].row[j]? = some v → ∀ q, q = ol + i * 5 + j → w'.cell? ⟨bl, q, none⟩ = some v := fun w' hw' j v hj q hq => row_cell SentA.row_len hw' hlt j hj hq
    have hpl : (l[i].p.take 200).length = min 200 l[i].p.length := List.length_take
    repeat'(first|(apply CW.reg_heldC)|(apply kp;iterate 2 exact rfl)|apply jJ|(apply jE;exact rfl)|(apply jp;exact rfl)|(apply jc;kernel_rfl)|((first|apply kf|apply kn|apply ke|apply kx|apply kc|apply kb);iterate 2 exact rfl)|((first|apply kz|apply ky);(·exact rfl);(·repeat(first|exact iO|exact iR rfl|apply iT));iterate 2 exact rfl)|(apply kg;iterate 2 exact rfl)|(apply kG;iterate 3 exact rfl)|(apply kB;(iterate 2 exact rfl);intro _)|(apply kA;exact rfl;intro _)|(apply kK;(iterate 4 exact rfl);intro _)|(apply kU;(iterate 2 exact rfl);(·repeat(first|exact sH _ _ _|apply sT));(first|exact nfL_eq rfl|exact rfl);exact rfl)|((first|apply kh|apply kl);(iterate 2 exact rfl);(first|decide|omega);exact rfl)|((first|(apply kR;iterate 2 exact rfl)|(apply kQ;exact rfl));all_goals(intro hc;try simp only[hcs]at hc;try(exfalso;first|contradiction|omega))))
    all_goals (
      apply DW.quiet [0, 1, 2, 3, 4, 6, 7, 8, 9, 10]
      · decide +kernel
      · first | exact fun _ h => h | exact fun _ h => St.sub h (by repeat (first | exact List.Sublist.refl _ | apply List.Sublist.cons_cons | apply List.Sublist.cons))
      repeat'(first|(apply yp;iterate 3 exact rfl)|(apply QL.ev;(·exact rfl);(·first|((first|apply Ez|apply Ey);(·exact rfl);(·repeat(first|exact iO|exact iR rfl|apply iT));exact rfl)|((first|apply Ev.fieldAddr|apply Ev.len|apply EqOf.eq|apply EqOf.ne|apply Ev.conv|apply Ev.buildN);exact rfl)|((first|apply Ev.shr|apply Ev.shl);(iterate 2 exact rfl);first|decide|omega));·exact rfl)|(apply QL.ev; (· exact rfl); (· first | (apply Ev.indexAddr; (· exact rfl); (· exact rfl); (· omega); (· omega)) | (apply Ev.load; (· exact rfl); (· intro w' hw'; first | (refine ldc w' (hw'.rd_of (by (repeat (first | exact mH _ _ | apply mT)))) 0 _ rfl _ ?_; (· simp; done)) | (refine ldc w' (hw'.rd_of (by (repeat (first | exact mH _ _ | apply mT)))) 1 _ rfl _ ?_; (· simp; done)))) | (apply Ev.mul; (· exact rfl); (· exact rfl); (· omega); (· omega)) | (apply Ev.add; (· exact rfl); (· exact rfl); (· omega); (· omega))); (· exact rfl))|(apply yq;iterate 5 exact rfl)|(apply QL.evg;(iterate 3 exact rfl);(·first|((first|apply Ez|apply Ey);(·exact rfl);(·repeat(first|exact iO|exact iR rfl|apply iT));exact rfl)|((first|apply Ev.fieldAddr|apply Ev.len|apply EqOf.eq|apply EqOf.ne|apply Ev.conv|apply Ev.buildN);exact rfl)|((first|apply Ev.shr|apply Ev.shl);(iterate 2 exact rfl);first|decide|omega));·exact rfl)|(apply yn;iterate 4 exact rfl)|((apply QL.split;iterate 3 exact rfl);all_goals(intro hc;try simp only[hcs]at hc;try(exfalso;first|contradiction|omega)))|apply QL.nil)
      all_goals (show DW _ _ _ _ _ _ _ _))
    all_goals (
      apply DW.loud 5
      · exact rfl
      · decide +kernel
      repeat'(first|(apply kg;iterate 2 exact rfl)|(apply kG;iterate 3 exact rfl)|apply kM|(apply kp;iterate 2 exact rfl)|((first|apply kz|apply ky);(·exact rfl);(·repeat(first|exact iO|exact iR rfl|apply iT));iterate 2 exact rfl)|(apply kK;(iterate 4 exact rfl);intro _)|(apply kU;(iterate 2 exact rfl);(·repeat(first|exact sH _ _ _|apply sT));(first|exact nfL_eq rfl|exact rfl);exact rfl)|(apply kB;(iterate 2 exact rfl);intro _)|(apply kA;exact rfl;intro _)|(apply kq; (· exact rfl); (· intro w1 h1; first | (have hq := CallsTo.q (c31 l[i].o 8 w1 (by omega)) h1; show CallsTo Try.prog 26 [.int .i64 l[i].o, .int .i64 8] w1 _; exact hq) | (have hq := CallsTo.q (c31 l[i].li 2 w1 (by omega)) h1; show CallsTo Try.prog 26 [.int .i64 l[i].li, .int .i64 2] w1 _; exact hq))))
      all_goals (refine At.stage_same (fun _ h => St.sub h (by repeat (first | exact List.Sublist.refl _ | apply List.Sublist.cons_cons | apply List.Sublist.cons))) ?_))
    all_goals (
      apply DW.loud 11
      · exact rfl
      · decide +kernel
      repeat'(first|(apply kg;iterate 2 exact rfl)|(apply kG;iterate 3 exact rfl)|apply kM|(apply kp;iterate 2 exact rfl)|((first|apply kz|apply ky);(·exact rfl);(·repeat(first|exact iO|exact iR rfl|apply iT));iterate 2 exact rfl)|(apply kK;(iterate 4 exact rfl);intro _)|(apply kU;(iterate 2 exact rfl);(·repeat(first|exact sH _ _ _|apply sT));(first|exact nfL_eq rfl|exact rfl);exact rfl)|(apply kB;(iterate 2 exact rfl);intro _)|(apply kA;exact rfl;intro _)|(apply kq; (· exact rfl); (· intro w1 h1; first | (have hq := CallsTo.q (c31 l[i].o 8 w1 (by omega)) h1; show CallsTo Try.prog 26 [.int .i64 l[i].o, .int .i64 8] w1 _; exact hq) | (have hq := CallsTo.q (c31 l[i].li 2 w1 (by omega)) h1; show CallsTo Try.prog 26 [.int .i64 l[i].li, .int .i64 2] w1 _; exact hq))))
      all_goals (refine At.stage_same (fun _ h => St.sub h (by repeat (first | exact List.Sublist.refl _ | apply List.Sublist.cons_cons | apply List.Sublist.cons))) ?_))
    all_goals (
      apply DW.quiet [12, 13, 14]
      · decide +kernel
      · first | exact fun _ h => h | exact fun _ h => St.sub h (by repeat (first | exact List.Sublist.refl _ | apply List.Sublist.cons_cons | apply List.Sublist.cons))
      repeat'(first|(apply yp;iterate 3 exact rfl)|(apply QL.ev;(·exact rfl);(·first|((first|apply Ez|apply Ey);(·exact rfl);(·repeat(first|exact iO|exact iR rfl|apply iT));exact rfl)|((first|apply Ev.fieldAddr|apply Ev.len|apply EqOf.eq|apply EqOf.ne|apply Ev.conv|apply Ev.buildN);exact rfl)|((first|apply Ev.shr|apply Ev.shl);(iterate 2 exact rfl);first|decide|omega));·exact rfl)|(apply QL.ev; (· exact rfl); (· first | (apply Ev.indexAddr; (· exact rfl); (· exact rfl); (· omega); (· omega)) | (apply Ev.load; (· exact rfl); (· intro w' hw'; first | (refine ldc w' (hw'.rd_of (by (repeat (first | exact mH _ _ | apply mT)))) 0 _ rfl _ ?_; (· simp; done)) | (refine ldc w' (hw'.rd_of (by (repeat (first | exact mH _ _ | apply mT)))) 1 _ rfl _ ?_; (· simp; done)))) | (apply Ev.mul; (· exact rfl); (· exact rfl); (· omega); (· omega)) | (apply Ev.add; (· exact rfl); (· exact rfl); (· omega); (· omega))); (· exact rfl))|(apply yq;iterate 5 exact rfl)|(apply QL.evg;(iterate 3 exact rfl);(·first|((first|apply Ez|apply Ey);(·exact rfl);(·repeat(first|exact iO|exact iR rfl|apply iT));exact rfl)|((first|apply Ev.fieldAddr|apply Ev.len|apply EqOf.eq|apply EqOf.ne|apply Ev.conv|apply Ev.buildN);exact rfl)|((first|apply Ev.shr|apply Ev.shl);(iterate 2 exact rfl);first|decide|omega));·exact rfl)|(apply yn;iterate 4 exact rfl)|((apply QL.split;iterate 3 exact rfl);all_goals(intro hc;try simp only[hcs]at hc;try(exfalso;first|contradiction|omega)))|apply QL.nil)
      all_goals (show DW _ _ _ _ _ _ _ _))
    all_goals (first | (apply DW.done_thn; (· decide +kernel)) | (apply DW.done; (· decide +kernel)))
    rw [hk]
    repeat'(first|(apply CW.reg_heldC)|(apply kp;iterate 2 exact rfl)|apply jJ|(apply jE;exact rfl)|(apply jp;exact rfl)|(apply jc;kernel_rfl)|((first|apply kf|apply kn|apply ke|apply kx|apply kc|apply kb);iterate 2 exact rfl)|((first|apply kz|apply ky);(·exact rfl);(·repeat(first|exact iO|exact iR rfl|apply iT));iterate 2 exact rfl)|(apply kg;iterate 2 exact rfl)|(apply kG;iterate 3 exact rfl)|(apply kB;(iterate 2 exact rfl);intro _)|(apply kA;exact rfl;intro _)|(apply kK;(iterate 4 exact rfl);intro _)|(apply kU;(iterate 2 exact rfl);(·repeat(first|exact sH _ _ _|apply sT));(first|exact nfL_eq rfl|exact rfl);exact rfl)|((first|apply kh|apply kl);(iterate 2 exact rfl);(first|decide|omega);exact rfl)|((first|(apply kR;iterate 2 exact rfl)|(apply kQ;exact rfl));all_goals(intro hc;try simp only[hcs]at hc;try(exfalso;first|contradiction|omega))))
    apply DW.quiet [0, 1, 2, 3, 4, 5, 6, 7, 8, 9, 10, 11, 14, 15, 16, 17, 18]
    · decide +kernel
    · exact fun _ h => h
    repeat'(first|(apply yp;iterate 3 exact rfl)|(apply QL.ev;(·exact rfl);(·first|((first|apply Ez|apply Ey);(·exact rfl);(·repeat(first|exact iO|exact iR rfl|apply iT));exact rfl)|((first|apply Ev.fieldAddr|apply Ev.len|apply EqOf.eq|apply EqOf.ne|apply Ev.conv|apply Ev.buildN);exact rfl)|((first|apply Ev.shr|apply Ev.shl);(iterate 2 exact rfl);first|decide|omega));·exact rfl)|(apply QL.ev; (· exact rfl); (· first | (apply Ev.indexAddr; (· exact rfl); (· exact rfl); (· omega); (· omega)) | (apply Ev.load; (· exact rfl); (· intro w' hw'; first | (refine ldc w' (hw'.rd_of (by (repeat (first | exact mH _ _ | apply mT)))) 2 _ rfl _ ?_; (· simp; done)) | (refine ldc w' (hw'.rd_of (by (repeat (first | exact mH _ _ | apply mT)))) 3 _ rfl _ ?_; (· simp; done)))) | (apply remQ (a := k) (b := 8) rfl; (· exact rfl); (· exact rfl); (· omega)) | (apply quoQ (a := k) (b := 8) rfl; (· exact rfl); (· exact rfl); (· omega); (· omega)) | (apply addQ (a := 1) (b := k % 8) rfl; (· exact rfl); (· exact rfl); (· omega)) | (apply addQ (a := 1) (b := k / 8) rfl; (· exact rfl); (· exact rfl); (· omega))); (· exact rfl))|(apply yq;iterate 5 exact rfl)|(apply QL.evg;(iterate 3 exact rfl);(·first|((first|apply Ez|apply Ey);(·exact rfl);(·repeat(first|exact iO|exact iR rfl|apply iT));exact rfl)|((first|apply Ev.fieldAddr|apply Ev.len|apply EqOf.eq|apply EqOf.ne|apply Ev.conv|apply Ev.buildN);exact rfl)|((first|apply Ev.shr|apply Ev.shl);(iterate 2 exact rfl);first|decide|omega));·exact rfl)|(apply yn;iterate 4 exact rfl)|((apply QL.split;iterate 3 exact rfl);all_goals(intro hc;try simp only[hcs]at hc;try(exfalso;first|contradiction|omega)))|apply QL.nil)
    all_goals (show DW _ _ _ _ _ _ _ _)
    apply DP.begin []
    refine DP.more (PI.lr 20 9 [] (fun b => .pointer (some ⟨b, 0, none⟩)) (fun b => [.own b (.cells [.int .i64 0, .int .i64 0, .int .i64 0, .int .i64 0, .int .i64 0, .int .i64 0, .int .i64 0, .bool false, .int .i64 0, .int .i64 0, .int .i64 0, .int .i64 0, .slice none 0 0].toArray 28 (0, 0))]) rfl (fun b x hx => by simp at hx; subst hx; rfl) ?_) ?_
    · intro h w2
      apply kA
      · exact rfl
      intro b
      apply kM
      exact At.made rfl
    refine DP.go 12 [20] [9] [[]] rfl rfl rfl rfl (by decide +kernel) ⟨trivial, fun _ _ _ => trivial, trivial⟩ (fun A w' hA => St.sub hA (by simp only [List.cons_append, List.nil_append]; repeat (first | exact List.nil_sublist _ | exact List.Sublist.refl _ | apply List.Sublist.cons_cons | apply List.Sublist.cons))) ?_
    intro gg A LA hLA
    simp only [List.cons_append, List.nil_append] at hLA
    subst hLA
    apply kq
    · exact rfl
    · intro w1 h1
      have hq := CallsTo.q (c31 l[i].g 255 w1 (by omega)) h1
      show CallsTo Try.prog 26 [.int .i64 l[i].g, .int .i64 255] w1 _
      exact hq
    apply kM
    apply At.pdone (ds := [9]) rfl
    · repeat (first | exact MixR.base _ | (apply MixR.upd; case hd => exact rfl))
    · repeat (first | exact Tl.nil | apply Tl.cons)
    · exact (fun A w' hA => St.sub hA (by simp only [List.cons_append, List.nil_append]; repeat (first | exact List.nil_sublist _ | exact List.Sublist.refl _ | apply List.Sublist.cons_cons | apply List.Sublist.cons)))
    refine DP.quiet [13, 19] [20] [9] rfl rfl (by decide +kernel) (fun A w' hA => St.sub hA (by simp only [List.cons_append, List.nil_append]; repeat (first | exact List.nil_sublist _ | exact List.Sublist.refl _ | apply List.Sublist.cons_cons | apply List.Sublist.cons))) (fun gg => ?_)
    repeat'(first|(apply yp;iterate 3 exact rfl)|(apply QL.ev;(·exact rfl);(·first|((first|apply Ez|apply Ey);(·exact rfl);(·repeat(first|exact iO|exact iR rfl|apply iT));exact rfl)|((first|apply Ev.fieldAddr|apply Ev.len|apply EqOf.eq|apply EqOf.ne|apply Ev.conv|apply Ev.buildN);exact rfl)|((first|apply Ev.shr|apply Ev.shl);(iterate 2 exact rfl);first|decide|omega));·exact rfl)|(apply QL.ev; (· exact rfl); (· apply Ev.add; (· exact rfl); (· exact rfl); (· have := bring_bd l[i].g 255 (by omega); omega); (· have := bring_bd l[i].g 255 (by omega); omega)); (· exact rfl))|(apply yq;iterate 5 exact rfl)|(apply QL.evg;(iterate 3 exact rfl);(·first|((first|apply Ez|apply Ey);(·exact rfl);(·repeat(first|exact iO|exact iR rfl|apply iT));exact rfl)|((first|apply Ev.fieldAddr|apply Ev.len|apply EqOf.eq|apply EqOf.ne|apply Ev.conv|apply Ev.buildN);exact rfl)|((first|apply Ev.shr|apply Ev.shl);(iterate 2 exact rfl);first|decide|omega));·exact rfl)|(apply yn;iterate 4 exact rfl)|((apply QL.split;iterate 3 exact rfl);all_goals(intro hc;try simp only[hcs]at hc;try(exfalso;first|contradiction|omega)))|apply QL.nil)
    apply pq_done
    · repeat (first | exact MixR.base _ | (apply MixR.upd; case hd => exact rfl))
    refine DP.take 20 9 (fun b => .pointer (some ⟨b, 0, none⟩)) (fun b => [.own b (.cells [.int .i64 0, .int .i64 0, .int .i64 0, .int .i64 0, .int .i64 0, .int .i64 0, .int .i64 0, .bool false, .int .i64 0, .int .i64 0, .int .i64 0, .int .i64 0, .slice none 0 0].toArray 28 (0, 0))]) [] [9] [[]] rfl rfl rfl rfl rfl rfl rfl (by decide +kernel) ⟨trivial, fun _ _ _ => trivial, trivial⟩ (fun A w' hA => St.sub hA (by simp only [List.cons_append, List.nil_append]; repeat (first | exact List.nil_sublist _ | exact List.Sublist.refl _ | apply List.Sublist.cons_cons | apply List.Sublist.cons))) (fun b9 => ?_)
    refine DP.nil ?_
    refine DW.castL (by simp only [List.cons_append, List.nil_append]; exact rfl) ?_
    apply DW.loud 21
    · exact rfl
    · decide +kernel
    repeat'(first|(apply kg;iterate 2 exact rfl)|(apply kG;iterate 3 exact rfl)|apply kM|(apply kp;iterate 2 exact rfl)|((first|apply kz|apply ky);(·exact rfl);(·repeat(first|exact iO|exact iR rfl|apply iT));iterate 2 exact rfl)|(apply kK;(iterate 4 exact rfl);intro _)|(apply kU;(iterate 2 exact rfl);(·repeat(first|exact sH _ _ _|apply sT));(first|exact nfL_eq rfl|exact rfl);exact rfl)|(apply kB;(iterate 2 exact rfl);intro _)|(apply kA;exact rfl;intro _))
    refine At.stage_same (fun _ h => St.sub h (by repeat (first | exact List.Sublist.refl _ | apply List.Sublist.cons_cons | apply List.Sublist.cons))) ?_
    apply DW.done_thn
    · decide +kernel
    have hq48 : (l[i].p.take 200).length ≤ 200 := by omega
    repeat'(first|(apply CW.reg_heldC)|(apply kp;iterate 2 exact rfl)|apply jJ|(apply jE;exact rfl)|(apply jp;exact rfl)|(apply jc;kernel_rfl)|((first|apply kf|apply kn|apply ke|apply kx|apply kc|apply kb);iterate 2 exact rfl)|((first|apply kz|apply ky);(·exact rfl);(·repeat(first|exact iO|exact iR rfl|apply iT));iterate 2 exact rfl)|(apply kg;iterate 2 exact rfl)|(apply kG;iterate 3 exact rfl)|(apply kB;(iterate 2 exact rfl);intro _)|(apply kA;exact rfl;intro _)|(apply kK;(iterate 4 exact rfl);intro _)|(apply kU;(iterate 2 exact rfl);(·repeat(first|exact sH _ _ _|apply sT));(first|exact nfL_eq rfl|exact rfl);exact rfl)|((first|apply kh|apply kl);(iterate 2 exact rfl);(first|decide|omega);exact rfl)|((first|(apply kR;iterate 2 exact rfl)|(apply kQ;exact rfl));all_goals(intro hc;try simp only[hcs]at hc;try(exfalso;first|contradiction|omega))))
    all_goals (
      apply DW.quiet [0, 1, 2, 3, 4, 5, 6, 7, 8, 9, 10, 11, 12, 13]
      · decide +kernel
      · first | exact fun _ h => h | exact fun _ h => St.sub h (by repeat (first | exact List.Sublist.refl _ | apply List.Sublist.cons_cons | apply List.Sublist.cons))
      repeat'(first|(apply yp;iterate 3 exact rfl)|(apply QL.ev;(·exact rfl);(·first|((first|apply Ez|apply Ey);(·exact rfl);(·repeat(first|exact iO|exact iR rfl|apply iT));exact rfl)|((first|apply Ev.fieldAddr|apply Ev.len|apply EqOf.eq|apply EqOf.ne|apply Ev.conv|apply Ev.buildN);exact rfl)|((first|apply Ev.shr|apply Ev.shl);(iterate 2 exact rfl);first|decide|omega));·exact rfl)|(apply QL.ev; (· exact rfl); (· first | (apply Ev.indexAddr; (· exact rfl); (· exact rfl); (· omega); (· omega)) | (apply Ev.load; (· exact rfl); (· intro w' hw'; first | (refine ldc w' (hw'.rd_of (by (repeat (first | exact mH _ _ | apply mT)))) 4 _ rfl _ ?_; (· simp; done)))) | (apply minC (a := l[i].p.length) (b := 200) (c := (l[i].p.take 200).length); (· exact rfl); (· exact rfl); (· omega)) | (apply sliceHi0 (j := (l[i].p.take 200).length); (· exact rfl); (· exact rfl); (· have := hx.hc; omega))); (· exact rfl))|(apply yq;iterate 5 exact rfl)|(apply QL.evg;(iterate 3 exact rfl);(·first|((first|apply Ez|apply Ey);(·exact rfl);(·repeat(first|exact iO|exact iR rfl|apply iT));exact rfl)|((first|apply Ev.fieldAddr|apply Ev.len|apply EqOf.eq|apply EqOf.ne|apply Ev.conv|apply Ev.buildN);exact rfl)|((first|apply Ev.shr|apply Ev.shl);(iterate 2 exact rfl);first|decide|omega));·exact rfl)|(apply yn;iterate 4 exact rfl)|((apply QL.split;iterate 3 exact rfl);all_goals(intro hc;try simp only[hcs]at hc;try(exfalso;first|contradiction|omega)))|apply QL.nil)
      all_goals (show DW _ _ _ _ _ _ _ _))
    all_goals (first | (apply DW.done_thn; (· decide +kernel)) | (apply DW.done; (· decide +kernel)))
    repeat'(first|(apply kp;iterate 2 exact rfl)|apply jJ|(apply jE;exact rfl)|(apply jp;exact rfl)|(apply jc;kernel_rfl)|((first|apply kf|apply kn|apply ke|apply kx|apply kc|apply kb);iterate 2 exact rfl)|((first|apply kz|apply ky);(·exact rfl);(·repeat(first|exact iO|exact iR rfl|apply iT));iterate 2 exact rfl)|(apply kg;iterate 2 exact rfl)|(apply kG;iterate 3 exact rfl)|(apply kB;(iterate 2 exact rfl);intro _)|(apply kA;exact rfl;intro _)|(apply kK;(iterate 4 exact rfl);intro _)|(apply kU;(iterate 2 exact rfl);(·repeat(first|exact sH _ _ _|apply sT));(first|exact nfL_eq rfl|exact rfl);exact rfl)|((first|apply kh|apply kl);(iterate 2 exact rfl);(first|decide|omega);exact rfl)|((first|(apply kR;iterate 2 exact rfl)|(apply kQ;exact rfl));all_goals(intro hc;try simp only[hcs]at hc;try(exfalso;first|contradiction|omega))))
    apply LR.call
    · exact rfl
    intro w1 h1
    refine CallsTo.mono (show CallsTo Try.prog 14 _ w1 _ from g14 (sentM k i l[i]) none 0 l[i].a l[i].c (l[i].p.take 200) w1 (Rd.nil _ _) (fun _ => rfl) (by simp [sentM]) (by simp [sentM, Byt]) (Rd.btake 200 (h1.oldRd hx.hr)) hx.hz (by have := hx.hc; omega) (by omega)) ?_
    rintro v w2 ⟨a2, c2, l2, rfl, hl2, st⟩
    have hok2 := sent_ok k i l[i] hk16 hlt40
    rw [splitR, splitE_ok hok2 hq48, if_pos rfl] at hl2
    have hn2 : l2.length = npart (l[i].p.take 200).length := by have := congrArg List.length hl2; simpa [splitL] using this
    have hn5 : 1 ≤ npart (l[i].p.take 200).length ∧ npart (l[i].p.take 200).length ≤ 5 := by unfold npart; omega
    obtain ⟨b2, o2, rfl⟩ := (ownsRow_rd st.g0).form (rows_ne MsgA.row_len (i := 0) (by omega) (by omega))
    refine LR.back (h1.pushL st excl2) ?_
    clear h1 st
    rw [splitE_ok hok2 hq48]
    refine LR.sub (D := St w NoF [mS ss[k].pa ss[k].pc ss[k].pl, bunB ss[k].pl, wS ss[k].wa ss[k].wc ss[k].wl, bunA ss[k].wl, bun Snd.body (ss.take k ++ ss.drop (k + 1)), mS (some ⟨b2, o2, none⟩) c2 l2, bunB l2, .own b6 (.cells (ss.map Snd.wv).toArray 52 (0, 0)), .own b5 (.cells (ss.map Snd.pv).toArray 50 (0, 0)), rdA (some ⟨bl, ol, none⟩) (l.flatMap SentA.row), rdA at_ (ivT tv)]) (fun w' hw' => (St.snd_open (St.bun_open (k := k) Snd.dep hks (front hw' 3 rfl rfl))).sub (by repeat (first | exact List.Sublist.refl _ | exact List.nil_sublist _ | apply List.Sublist.cons_cons | apply List.Sublist.cons))) ?_
    have hkm : ss[k] ∈ ss := List.getElem_mem hks
    have hkg : ss[k]? = some ss[k] := List.getElem?_eq_getElem hks
    have hcp : (ss.map Snd.pv)[k]? = some ss[k].pv := by simp [hks]
    have hcw : (ss.map Snd.wv)[k]? = some ss[k].wv := by simp [hks]
    have hp5 := sum_mem (fun x : Snd => x.pl.length) hkm
    have hold := hso k _ hkg
    have hjw : ss[k].wl.length = ss[k].js.length := by have := congrArg List.length hold.1.ws; simpa using this
    repeat'(first|(apply kp;iterate 2 exact rfl)|apply jJ|(apply jE;exact rfl)|(apply jp;exact rfl)|(apply jc;kernel_rfl)|((first|apply kf|apply kn|apply ke|apply kx|apply kc|apply kb);iterate 2 exact rfl)|((first|apply kz|apply ky);(·exact rfl);(·repeat(first|exact iO|exact iR rfl|apply iT));iterate 2 exact rfl)|(apply kg;iterate 2 exact rfl)|(apply kG;iterate 3 exact rfl)|(apply kB;(iterate 2 exact rfl);intro _)|(apply kA;exact rfl;intro _)|(apply kK;(iterate 4 exact rfl);intro _)|(apply kU;(iterate 2 exact rfl);(·repeat(first|exact sH _ _ _|apply sT));(first|exact nfL_eq rfl|exact rfl);exact rfl)|((first|apply kh|apply kl);(iterate 2 exact rfl);(first|decide|omega);exact rfl)|(apply LR.ev; (· apply Ev.indexArr; (· exact rfl); (· exact rfl); (· first | decide | omega | (dsimp only; omega)); (· first | decide | omega | (dsimp only; omega))); (· exact rfl))|(apply LR.ev; (· first | (apply addQ (a := (l[i].p.take 200).length) (b := 47) rfl; (· exact rfl); (· exact rfl); (· omega)) | (apply quoQ (a := (l[i].p.take 200).length + 47) (b := 48) rfl; (· exact rfl); (· exact rfl); (· omega); (· omega)) | (apply maxC (a := ((l[i].p.take 200).length + 47) / 48) (b := 1) (c := npart (l[i].p.take 200).length); (· exact rfl); (· exact rfl); (· unfold npart; omega)) | (apply Ev.load; (· exact rfl); (· intro w' hw'; refine cell_mem (b := b5) (i := k) (v := ss[k].pv) hw' (by (repeat (first | exact mH _ _ | apply mT))) ?_ hcp; (· simp; done)))); (· exact rfl))|((first|(apply kR;iterate 2 exact rfl)|(apply kQ;exact rfl));all_goals(intro hc;try simp only[hcs]at hc;try(exfalso;first|contradiction|omega))))
    refine LR.append (xs := ss[k].pl.flatMap MsgA.row) (news := l2.flatMap MsgA.row) (m := l2.length) rfl rfl (fun a' c' => by (repeat (first | exact sH _ _ _ | apply sT))) (fun w' hw' => hw'.rd_of_own (by (repeat (first | exact mH _ _ | apply mT)))) (fun hx => by cases hx) (mrows_len l2) (row_one l2) (by omega) (by unfold maxLen; omega) rfl ?_
    intro a14 c14
    repeat'(first|(apply kp;iterate 2 exact rfl)|apply jJ|(apply jE;exact rfl)|(apply jp;exact rfl)|(apply jc;kernel_rfl)|((first|apply kf|apply kn|apply ke|apply kx|apply kc|apply kb);iterate 2 exact rfl)|((first|apply kz|apply ky);(·exact rfl);(·repeat(first|exact iO|exact iR rfl|apply iT));iterate 2 exact rfl)|(apply kg;iterate 2 exact rfl)|(apply kG;iterate 3 exact rfl)|(apply kB;(iterate 2 exact rfl);intro _)|(apply kA;exact rfl;intro _)|(apply kK;(iterate 4 exact rfl);intro _)|(apply kU;(iterate 2 exact rfl);(·repeat(first|exact sH _ _ _|apply sT));(first|exact nfL_eq rfl|exact rfl);exact rfl)|((first|apply kh|apply kl);(iterate 2 exact rfl);(first|decide|omega);exact rfl)|(apply LR.ev; (· apply Ev.indexArr; (· exact rfl); (· exact rfl); (· first | decide | omega | (dsimp only; omega)); (· first | decide | omega | (dsimp only; omega))); (· exact rfl))|((first|(apply kR;iterate 2 exact rfl)|(apply kQ;exact rfl));all_goals(intro hc;try simp only[hcs]at hc;try(exfalso;first|contradiction|omega))))
    refine LR.store_obj (v := .slice a14 (ss[k].pl.length + l2.length) c14) (z := .own b5 (.cells (ss.map Snd.pv).toArray 50 (0, 0))) (z' := .own b5 (.cells ((ss.map Snd.pv).set k (.slice a14 (ss[k].pl.length + l2.length) c14)).toArray 50 (0, 0))) rfl rfl (by (repeat (first | exact sH _ _ _ | apply sT))) rfl (Stores.arr inferInstance rfl rfl (by simp) (by simp; omega)) (Asrt.dep_own _ _) ?_
    repeat'(first|(apply CW.reg_sink 9 (St w NoF [bunB l2, .own b6 (.cells (ss.map Snd.wv).toArray 52 (0, 0)), rdA (some ⟨bl, ol, none⟩) (l.flatMap SentA.row), rdA at_ (ivT tv)]); (· exact rfl); (· decide +kernel))|(apply kp;iterate 2 exact rfl)|apply jJ|(apply jE;exact rfl)|(apply jp;exact rfl)|(apply jc;kernel_rfl)|((first|apply kf|apply kn|apply ke|apply kx|apply kc|apply kb);iterate 2 exact rfl)|((first|apply kz|apply ky);(·exact rfl);(·repeat(first|exact iO|exact iR rfl|apply iT));iterate 2 exact rfl)|(apply kg;iterate 2 exact rfl)|(apply kG;iterate 3 exact rfl)|(apply kB;(iterate 2 exact rfl);intro _)|(apply kA;exact rfl;intro _)|(apply kK;(iterate 4 exact rfl);intro _)|(apply kU;(iterate 2 exact rfl);(·repeat(first|exact sH _ _ _|apply sT));(first|exact nfL_eq rfl|exact rfl);exact rfl)|((first|apply kh|apply kl);(iterate 2 exact rfl);(first|decide|omega);exact rfl)|((first|(apply kR;iterate 2 exact rfl)|(apply kQ;exact rfl));all_goals(intro hc;try simp only[hcs]at hc;try(exfalso;first|contradiction|omega))))
    all_goals (
      apply DW.quiet [0, 1, 2, 3, 4]
      · decide +kernel
      · first | exact fun _ h => h | exact fun _ h => St.sub h (by repeat (first | exact List.Sublist.refl _ | apply List.Sublist.cons_cons | apply List.Sublist.cons))
      repeat'(first|(apply yp;iterate 3 exact rfl)|(apply QL.ev;(·exact rfl);(·first|((first|apply Ez|apply Ey);(·exact rfl);(·repeat(first|exact iO|exact iR rfl|apply iT));exact rfl)|((first|apply Ev.fieldAddr|apply Ev.len|apply EqOf.eq|apply EqOf.ne|apply Ev.conv|apply Ev.buildN);exact rfl)|((first|apply Ev.shr|apply Ev.shl);(iterate 2 exact rfl);first|decide|omega));·exact rfl)|(apply QL.ev; (· exact rfl); (· first | (apply Ev.indexArr; (· exact rfl); (· exact rfl); (· omega); (· omega)) | (apply Ev.load; (· exact rfl); (· intro w' hw'; refine cell_mem (b := b6) (i := k) (v := ss[k].wv) hw' (by (repeat (first | exact mH _ _ | apply mT))) ?_ hcw; (· simp; done)))); (· exact rfl))|(apply yq;iterate 5 exact rfl)|(apply QL.evg;(iterate 3 exact rfl);(·first|((first|apply Ez|apply Ey);(·exact rfl);(·repeat(first|exact iO|exact iR rfl|apply iT));exact rfl)|((first|apply Ev.fieldAddr|apply Ev.len|apply EqOf.eq|apply EqOf.ne|apply Ev.conv|apply Ev.buildN);exact rfl)|((first|apply Ev.shr|apply Ev.shl);(iterate 2 exact rfl);first|decide|omega));·exact rfl)|(apply yn;iterate 4 exact rfl)|((apply QL.split;iterate 3 exact rfl);all_goals(intro hc;try simp only[hcs]at hc;try(exfalso;first|contradiction|omega)))|apply QL.nil)
      all_goals (show DW _ _ _ _ _ _ _ _))
    all_goals (
      apply DW.loud 5
      · exact rfl
      · decide +kernel
      repeat'(first|(apply kg;iterate 2 exact rfl)|(apply kG;iterate 3 exact rfl)|apply kM|(apply kp;iterate 2 exact rfl)|((first|apply kz|apply ky);(·exact rfl);(·repeat(first|exact iO|exact iR rfl|apply iT));iterate 2 exact rfl)|(apply kK;(iterate 4 exact rfl);intro _)|(apply kU;(iterate 2 exact rfl);(·repeat(first|exact sH _ _ _|apply sT));(first|exact nfL_eq rfl|exact rfl);exact rfl)|(apply kB;(iterate 2 exact rfl);intro _)|(apply kA;exact rfl;intro _)|(apply LR.call; (· exact rfl); (intro w1 h1; refine CallsTo.mono (show CallsTo Try.prog 13 _ w1 _ from c22 l[i].a l[i].c (l[i].p.take 200) w1 (Rd.btake 200 (h1.oldRd hx.hr)) hx.hz (by omega)) ?_; rintro v w2 ⟨a15, c15', rfl, hn⟩; refine LR.back (h1.newSl hn) ?_; clear h1 hn; apply kM))|(apply LR.append (xs := ss[k].wl.map BA.val) (news := [Value.slice a15 (l[i].p.take 200).length c15']) (m := 1); (· exact rfl); (· exact rfl); (· intro a' c'; (repeat (first | exact sH _ _ _ | apply sT))); (· exact fun w' hw' => hw'.rd_of_blk (mH _ _)); (· exact fun hx => by cases hx); (· exact rfl); (· exact rfl); (· omega); (· unfold maxLen; omega); (· exact rfl); (intro a16 c16; apply kM)))
      all_goals (refine At.stage_same (fun _ h => St.sub h (by repeat (first | exact List.Sublist.refl _ | apply List.Sublist.cons_cons | apply List.Sublist.cons))) ?_))
    all_goals (
      apply DW.loud 6
      · exact rfl
      · decide +kernel
      repeat'(first|(apply kg;iterate 2 exact rfl)|(apply kG;iterate 3 exact rfl)|apply kM|(apply kp;iterate 2 exact rfl)|((first|apply kz|apply ky);(·exact rfl);(·repeat(first|exact iO|exact iR rfl|apply iT));iterate 2 exact rfl)|(apply kK;(iterate 4 exact rfl);intro _)|(apply kU;(iterate 2 exact rfl);(·repeat(first|exact sH _ _ _|apply sT));(first|exact nfL_eq rfl|exact rfl);exact rfl)|(apply kB;(iterate 2 exact rfl);intro _)|(apply kA;exact rfl;intro _)|(apply LR.call; (· exact rfl); (intro w1 h1; refine CallsTo.mono (show CallsTo Try.prog 13 _ w1 _ from c22 l[i].a l[i].c (l[i].p.take 200) w1 (Rd.btake 200 (h1.oldRd hx.hr)) hx.hz (by omega)) ?_; rintro v w2 ⟨a15, c15', rfl, hn⟩; refine LR.back (h1.newSl hn) ?_; clear h1 hn; apply kM))|(apply LR.append (xs := ss[k].wl.map BA.val) (news := [Value.slice a15 (l[i].p.take 200).length c15']) (m := 1); (· exact rfl); (· exact rfl); (· intro a' c'; (repeat (first | exact sH _ _ _ | apply sT))); (· exact fun w' hw' => hw'.rd_of_blk (mH _ _)); (· exact fun hx => by cases hx); (· exact rfl); (· exact rfl); (· omega); (· unfold maxLen; omega); (· exact rfl); (intro a16 c16; apply kM)))
      all_goals (refine At.stage_same (fun _ h => St.sub h (by repeat (first | exact List.Sublist.refl _ | apply List.Sublist.cons_cons | apply List.Sublist.cons))) ?_))
    all_goals (
      apply DW.loud 7
      · exact rfl
      · decide +kernel
      repeat'(first|(apply kg;iterate 2 exact rfl)|(apply kG;iterate 3 exact rfl)|apply kM|(apply kp;iterate 2 exact rfl)|((first|apply kz|apply ky);(·exact rfl);(·repeat(first|exact iO|exact iR rfl|apply iT));iterate 2 exact rfl)|(apply kK;(iterate 4 exact rfl);intro _)|(apply kU;(iterate 2 exact rfl);(·repeat(first|exact sH _ _ _|apply sT));(first|exact nfL_eq rfl|exact rfl);exact rfl)|(apply kB;(iterate 2 exact rfl);intro _)|(apply kA;exact rfl;intro _)|(apply LR.call; (· exact rfl); (intro w1 h1; refine CallsTo.mono (show CallsTo Try.prog 13 _ w1 _ from c22 l[i].a l[i].c (l[i].p.take 200) w1 (Rd.btake 200 (h1.oldRd hx.hr)) hx.hz (by omega)) ?_; rintro v w2 ⟨a15, c15', rfl, hn⟩; refine LR.back (h1.newSl hn) ?_; clear h1 hn; apply kM))|(apply LR.append (xs := ss[k].wl.map BA.val) (news := [Value.slice a15 (l[i].p.take 200).length c15']) (m := 1); (· exact rfl); (· exact rfl); (· intro a' c'; (repeat (first | exact sH _ _ _ | apply sT))); (· exact fun w' hw' => hw'.rd_of_blk (mH _ _)); (· exact fun hx => by cases hx); (· exact rfl); (· exact rfl); (· omega); (· unfold maxLen; omega); (· exact rfl); (intro a16 c16; apply kM)))
      all_goals (refine At.stage_same (fun _ h => St.sub h (by repeat (first | exact List.Sublist.refl _ | apply List.Sublist.cons_cons | apply List.Sublist.cons))) ?_))
    all_goals (
      apply DW.quiet [8]
      · decide +kernel
      · first | exact fun _ h => h | exact fun _ h => St.sub h (by repeat (first | exact List.Sublist.refl _ | apply List.Sublist.cons_cons | apply List.Sublist.cons))
      repeat'(first|(apply yp;iterate 3 exact rfl)|(apply QL.ev;(·exact rfl);(·first|((first|apply Ez|apply Ey);(·exact rfl);(·repeat(first|exact iO|exact iR rfl|apply iT));exact rfl)|((first|apply Ev.fieldAddr|apply Ev.len|apply EqOf.eq|apply EqOf.ne|apply Ev.conv|apply Ev.buildN);exact rfl)|((first|apply Ev.shr|apply Ev.shl);(iterate 2 exact rfl);first|decide|omega));·exact rfl)|(apply QL.ev; (· exact rfl); (· first | (apply Ev.indexArr; (· exact rfl); (· exact rfl); (· omega); (· omega)) | (apply Ev.load; (· exact rfl); (· intro w' hw'; refine cell_mem (b := b6) (i := k) (v := ss[k].wv) hw' (by (repeat (first | exact mH _ _ | apply mT))) ?_ hcw; (· simp; done)))); (· exact rfl))|(apply yq;iterate 5 exact rfl)|(apply QL.evg;(iterate 3 exact rfl);(·first|((first|apply Ez|apply Ey);(·exact rfl);(·repeat(first|exact iO|exact iR rfl|apply iT));exact rfl)|((first|apply Ev.fieldAddr|apply Ev.len|apply EqOf.eq|apply EqOf.ne|apply Ev.conv|apply Ev.buildN);exact rfl)|((first|apply Ev.shr|apply Ev.shl);(iterate 2 exact rfl);first|decide|omega));·exact rfl)|(apply yn;iterate 4 exact rfl)|((apply QL.split;iterate 3 exact rfl);all_goals(intro hc;try simp only[hcs]at hc;try(exfalso;first|contradiction|omega)))|apply QL.nil)
      all_goals (show DW _ _ _ _ _ _ _ _))
    all_goals (apply DW.done; (· decide +kernel))
    all_goals apply At.sink
    refine LR.store_obj (v := .slice a16 (ss[k].wl.length + 1) c16) (z := .own b6 (.cells (ss.map Snd.wv).toArray 52 (0, 0))) (z' := .own b6 (.cells ((ss.map Snd.wv).set k (.slice a16 (ss[k].wl.length + 1) c16)).toArray 52 (0, 0))) rfl rfl (by (repeat (first | exact sH _ _ _ | apply sT))) rfl (Stores.arr inferInstance rfl rfl (by simp) (by simp; omega)) (Asrt.dep_own _ _) ?_
    repeat'(first|(apply kp;iterate 2 exact rfl)|apply jJ|(apply jE;exact rfl)|(apply jp;exact rfl)|(apply jc;kernel_rfl)|((first|apply kf|apply kn|apply ke|apply kx|apply kc|apply kb);iterate 2 exact rfl)|((first|apply kz|apply ky);(·exact rfl);(·repeat(first|exact iO|exact iR rfl|apply iT));iterate 2 exact rfl)|(apply kg;iterate 2 exact rfl)|(apply kG;iterate 3 exact rfl)|(apply kB;(iterate 2 exact rfl);intro _)|(apply kA;exact rfl;intro _)|(apply kK;(iterate 4 exact rfl);intro _)|(apply kU;(iterate 2 exact rfl);(·repeat(first|exact sH _ _ _|apply sT));(first|exact nfL_eq rfl|exact rfl);exact rfl)|((first|apply kh|apply kl);(iterate 2 exact rfl);(first|decide|omega);exact rfl)|(apply addX;(iterate 2 exact rfl);(iterate 2(first|omega|(dsimp only;omega)));exact rfl)|((first|(apply kR;iterate 2 exact rfl)|(apply kQ;exact rfl));all_goals(intro hc;try simp only[hcs]at hc;try(exfalso;first|contradiction|omega))))
    have e5 : (ss.map Snd.pv).set k (.slice a14 (ss[k].pl.length + l2.length) c14) = (ss.set k (Snd.mk a14 c14 (ss[k].pl ++ l2) a16 c16 (ss[k].wl ++ [⟨l[i].p.take 200, a15, c15'⟩]) (ss[k].js ++ [⟨sentM k i l[i], l[i].p.take 200⟩]))).map Snd.pv := by rw [List.map_set]; simp [Snd.pv]
    have e6 : (ss.map Snd.wv).set k (.slice a16 (ss[k].wl.length + 1) c16) = (ss.set k (Snd.mk a14 c14 (ss[k].pl ++ l2) a16 c16 (ss[k].wl ++ [⟨l[i].p.take 200, a15, c15'⟩]) (ss[k].js ++ [⟨sentM k i l[i], l[i].p.take 200⟩]))).map Snd.wv := by rw [List.map_set]; simp [Snd.wv]
    have hsn := sum_set (fun x : Snd => x.pl.length) (z := Snd.mk a14 c14 (ss[k].pl ++ l2) a16 c16 (ss[k].wl ++ [⟨l[i].p.take 200, a15, c15'⟩]) (ss[k].js ++ [⟨sentM k i l[i], l[i].p.take 200⟩])) hkg
    simp only [List.length_append] at hsn
    apply At.again (i + 1, ss.set k (Snd.mk a14 c14 (ss[k].pl ++ l2) a16 c16 (ss[k].wl ++ [⟨l[i].p.take 200, a15, c15'⟩]) (ss[k].js ++ [⟨sentM k i l[i], l[i].p.take 200⟩])))
    · refine ⟨hlt, hlt40, by simpa using hsl, ?_, by dsimp only; omega⟩
      intro k' x' hx'
      rw [List.getElem?_set] at hx'
      split at hx'
      · rename_i e
        subst e
        · cases hx'
          refine ⟨⟨?_, ?_, ?_, ?_⟩, by show (ss[k].js ++ [_]).length ≤ i + 1; rw [List.length_append, List.length_singleton]; omega⟩
          · show (ss[k].pl ++ l2).map MsgA.m = (ss[k].js ++ [Job.mk (sentM k i l[i]) (l[i].p.take 200)]).flatMap Job.ms
            rw [List.map_append, List.flatMap_append, hold.1.ms, hl2]
            simp [Job.ms]
          · show (ss[k].wl ++ [BA.mk (l[i].p.take 200) a15 c15']).map BA.b = (ss[k].js ++ [Job.mk (sentM k i l[i]) (l[i].p.take 200)]).map Job.p
            rw [List.map_append, List.map_append, hold.1.ws]
            rfl
          · intro y hy
            rcases List.mem_append.1 hy with hy | hy
            · exact hold.1.ok y hy
            · simp at hy; subst hy; exact ⟨hok2, rfl, hq48⟩
          · intro y hy
            rcases List.mem_append.1 hy with hy | hy
            · exact hold.1.byt y hy
            · simp at hy; subst hy; exact fun b hb => hx.hb b (List.mem_of_mem_take hb)
      · have := hso k' x' hx'
        exact ⟨this.1, by show x'.js.length ≤ i + 1; omega⟩
    · (repeat (first | exact Out.refl _ _ | exact Out.mix | (apply Out.upd; (· exact rfl)) | (apply Out.updL; (· exact rfl)) | (apply Out.mixs; (· exact rfl))))
    · exact ⟨rfl, trivial⟩
    · intro w' hw'
      have k1 := St.bun_append MsgA.dep (front (front hw' 8 rfl rfl) 4 rfl rfl)
      have k2 := St.bun_snoc (f := BA.body) (x := ⟨l[i].p.take 200, a15, c15'⟩) (l := ss[k].wl) BA.dep BA.ex (front (front k1 5 rfl rfl) 3 rfl rfl)
      have k3 := front (front (front (front (front k2 5 rfl rfl) 1 rfl rfl) 5 rfl rfl) 3 rfl rfl) 5 rfl rfl
      rw [mS_app, wS_snoc, e5, e6] at k3
      have k4 := St.snd_shut (Snd.mk a14 c14 (ss[k].pl ++ l2) a16 c16 (ss[k].wl ++ [⟨l[i].p.take 200, a15, c15'⟩]) (ss[k].js ++ [⟨sentM k i l[i], l[i].p.take 200⟩])) k3
      have k5 := St.bun_shut (f := Snd.body) (k := k) Snd.dep Snd.ex hks k4
      exact k5.sub (by repeat (first | exact List.Sublist.refl _ | apply List.Sublist.cons_cons | apply List.Sublist.cons))
    · show l.length - (i + 1) < l.length - i
      omega
  · have hZc : ∀ w', St w NoF [bunS ss, .own b6 (.cells (ss.map Snd.wv).toArray 52 (0, 0)), .own b5 (.cells (ss.map Snd.pv).toArray 50 (0, 0)), rdA al (l.flatMap SentA.row), rdA at_ (ivT tv)] w' → True := fun _ _ => trivial
    have ep : (ss.map Snd.rm).map Rm.pv = ss.map Snd.pv := by rw [List.map_map]; rfl
    have ew : (ss.map Snd.rm).map Rm.wv = ss.map Snd.wv := by rw [List.map_map]; rfl
    have hN0 : total (ss.map Snd.rm) ≤ 200 := by
      unfold total
      rw [List.map_map]
      exact Nat.le_trans hsum (by omega)
    generalize hN : total (ss.map Snd.rm) = N0 at *
    have hcas : ¬ i < l.length ∨ (i < l.length ∧ ¬ i < 40) := by omega
    rcases hcas with hi1 | ⟨hi1, hi2⟩
    all_goals (
      repeat'(first|(apply kp;iterate 2 exact rfl)|apply jJ|(apply jE;exact rfl)|(apply jp;exact rfl)|(apply jc;kernel_rfl)|((first|apply kf|apply kn|apply ke|apply kx|apply kc|apply kb);iterate 2 exact rfl)|((first|apply kz|apply ky);(·exact rfl);(·repeat(first|exact iO|exact iR rfl|apply iT));iterate 2 exact rfl)|(apply kg;iterate 2 exact rfl)|(apply kG;iterate 3 exact rfl)|(apply kB;(iterate 2 exact rfl);intro _)|(apply kA;exact rfl;intro _)|(apply kK;(iterate 4 exact rfl);intro _)|(apply kU;(iterate 2 exact rfl);(·repeat(first|exact sH _ _ _|apply sT));(first|exact nfL_eq rfl|exact rfl);exact rfl)|((first|apply kh|apply kl);(iterate 2 exact rfl);(first|decide|omega);exact rfl)|((first|(apply kR;iterate 2 exact rfl)|(apply kQ;exact rfl));all_goals(intro hc;try simp only[hcs]at hc;try(exfalso;first|contradiction|omega))))
      apply LR.call
      · exact rfl
      intro w1 h1
      refine (g20 w1).mono ?_
      rintro v w2 ⟨bj, rj, rfl, st⟩
      refine LR.back (h1.pushL st (fun x hx => by simp at hx; subst hx; rfl)) ?_
      clear h1 st
      repeat'(first|(apply kp;iterate 2 exact rfl)|apply jJ|(apply jE;exact rfl)|(apply jp;exact rfl)|(apply jc;kernel_rfl)|((first|apply kf|apply kn|apply ke|apply kx|apply kc|apply kb);iterate 2 exact rfl)|((first|apply kz|apply ky);(·exact rfl);(·repeat(first|exact iO|exact iR rfl|apply iT));iterate 2 exact rfl)|(apply kg;iterate 2 exact rfl)|(apply kG;iterate 3 exact rfl)|(apply kB;(iterate 2 exact rfl);intro _)|(apply kA;exact rfl;intro _)|(apply kK;(iterate 4 exact rfl);intro _)|(apply kU;(iterate 2 exact rfl);(·repeat(first|exact sH _ _ _|apply sT));(first|exact nfL_eq rfl|exact rfl);exact rfl)|((first|apply kh|apply kl);(iterate 2 exact rfl);(first|decide|omega);exact rfl)|((first|(apply kR;iterate 2 exact rfl)|(apply kQ;exact rfl));all_goals(intro hc;try simp only[hcs]at hc;try(exfalso;first|contradiction|omega))))
      apply CW.loop [4, 14, 15, 16, 17, 18, 19, 20, 21, 116, 117, 118, 119, 120, 121, 122, 123, 124, 125, 126, 127, 128, 129, 130, 131, 132, 133, 134, 135, 136, 137, 138, 139, 140, 141, 142, 143, 144, 145, 146, 147, 148, 149, 150, 151, 152, 153, 154, 155, 156, 157, 158, 159, 160, 161, 162, 163, 164, 165, 166, 167, 168, 169, 170, 171, 172, 173, 174, 175, 176, 177, 178, 179, 180, 181, 182, 183, 184, 185, 186, 187, 188, 189, 190, 191, 192, 193, 194, 195, 196, 197] (fun s : Nat × Bool × List Rm × List WayA => AllR (bunS ss).holds (bunS ss).foot s.2.2.1 (s.2.2.2.map WayA.kl) ∧ WsOk s.2.2.2 ∧ total s.2.2.1 ≤ N0 ∧ (s.2.1 = true → s.1 ≤ 16 * (N0 - total s.2.2.1)) ∧ (s.2.1 = false → ∀ (k : Nat) (x : Rm), s.2.2.1[k]? = some x → x.pl = [])) (fun s => [(14, Value.int .i64 (s.1 : Int)), (15, Value.bool s.2.1)])
        (fun s => St w NoF [jO bj rj s.2.2.2, bunS ss, .own b6 (.cells (s.2.2.1.map Rm.wv).toArray 52 (0, 0)), .own b5 (.cells (s.2.2.1.map Rm.pv).toArray 50 (0, 0)), rdA al (l.flatMap SentA.row), rdA at_ (ivT tv)]) (fun s => if s.2.1 = true then total s.2.2.1 + 1 else 0)
      · intro w' hw'
        have hb := hw'.holds (bunS ss) (by (repeat (first | exact mH _ _ | apply mT)))
        refine ⟨(0, true, ss.map Snd.rm, []), ⟨all_start hsl (fun k x hx => (hso k x hx).1) (caps_of hb), WsOk.nil, Nat.le_of_eq hN, fun _ => Nat.zero_le _, fun h => by cases h⟩, ⟨rfl, rfl, trivial⟩, ?_⟩
        show St w NoF [jO bj rj [], bunS ss, .own b6 (.cells ((ss.map Snd.rm).map Rm.wv).toArray 52 (0, 0)), .own b5 (.cells ((ss.map Snd.rm).map Rm.pv).toArray 50 (0, 0)), rdA al (l.flatMap SentA.row), rdA at_ (ivT tv)] w'
        rw [ep, ew]
        exact hw'
      rintro ⟨at0, left, rs, ws⟩ g2 ⟨hall, hws, htot, hat, hnone⟩
      simp only at hall hws htot hat hnone ⊢
      cases left with
      | false =>
        have hA := hall.none (hnone rfl)
        have hw0 : ws = [] := List.map_eq_nil_iff.1 hA
        subst hw0
        repeat'(first|(apply kp;iterate 2 exact rfl)|apply jJ|(apply jE;exact rfl)|(apply jp;exact rfl)|(apply jc;kernel_rfl)|((first|apply kf|apply kn|apply ke|apply kx|apply kc|apply kb);iterate 2 exact rfl)|((first|apply kz|apply ky);(·exact rfl);(·repeat(first|exact iO|exact iR rfl|apply iT));iterate 2 exact rfl)|(apply kg;iterate 2 exact rfl)|(apply kG;iterate 3 exact rfl)|(apply kB;(iterate 2 exact rfl);intro _)|(apply kA;exact rfl;intro _)|(apply kK;(iterate 4 exact rfl);intro _)|(apply kU;(iterate 2 exact rfl);(·repeat(first|exact sH _ _ _|apply sT));(first|exact nfL_eq rfl|exact rfl);exact rfl)|((first|apply kh|apply kl);(iterate 2 exact rfl);(first|decide|omega);exact rfl)|(apply kq; (· exact rfl); (· intro w1 h1; have hj := jO_rd (h1.holds (jO bj rj []) (by (repeat (first | exact mH _ _ | apply mT)))); exact CallsTo.q (g24 bj rj [] w1 hj.1 hj.2) h1))|((first|(apply kR;iterate 2 exact rfl)|(apply kQ;exact rfl));all_goals(intro hc;try simp only[hcs]at hc;try(exfalso;first|contradiction|omega))))
        (apply ret1; (· exact rfl); intro w' hS)
        exact ⟨by show Value.bool _ = .bool true; simp, hS.toKeep⟩
      | true =>
        have hat := hat rfl
        repeat'(first|(apply kp;iterate 2 exact rfl)|apply jJ|(apply jE;exact rfl)|(apply jp;exact rfl)|(apply jc;kernel_rfl)|((first|apply kf|apply kn|apply ke|apply kx|apply kc|apply kb);iterate 2 exact rfl)|((first|apply kz|apply ky);(·exact rfl);(·repeat(first|exact iO|exact iR rfl|apply iT));iterate 2 exact rfl)|(apply kg;iterate 2 exact rfl)|(apply kG;iterate 3 exact rfl)|(apply kB;(iterate 2 exact rfl);intro _)|(apply kA;exact rfl;intro _)|(apply kK;(iterate 4 exact rfl);intro _)|(apply kU;(iterate 2 exact rfl);(·repeat(first|exact sH _ _ _|apply sT));(first|exact nfL_eq rfl|exact rfl);exact rfl)|((first|apply kh|apply kl);(iterate 2 exact rfl);(first|decide|omega);exact rfl)|((first|(apply kR;iterate 2 exact rfl)|(apply kQ;exact rfl));all_goals(intro hc;try simp only[hcs]at hc;try(exfalso;first|contradiction|omega))))
        apply CW.loop [4, 14, 15, 16, 17, 18, 19, 20, 21, 117, 118, 119, 120, 121, 122, 123, 124, 125, 126, 127, 128, 129, 130, 131, 132, 133, 134, 135, 136, 137, 138, 139, 140, 141, 142, 143, 144, 145, 146, 147, 148, 149, 150, 151, 152, 153, 154, 155, 156, 157, 158, 159, 160, 161, 162, 163, 164, 165, 166, 167, 168, 169, 170, 171, 172, 173, 174, 175, 176, 177, 178, 179, 180, 181, 182, 183, 184, 185, 186, 187, 188, 189, 190, 191, 192, 193, 194, 195, 196, 197] (fun s : Nat × Bool × List Rm × List WayA => s.1 ≤ 16 ∧ AllR (bunS ss).holds (bunS ss).foot s.2.2.1 (s.2.2.2.map WayA.kl) ∧ WsOk s.2.2.2 ∧ total s.2.2.1 ≤ total rs ∧ (s.2.1 = true → total s.2.2.1 < total rs) ∧ (s.2.1 = false → ∀ (k : Nat) (x : Rm), k < s.1 → s.2.2.1[k]? = some x → x.pl = [])) (fun s => [(14, Value.int .i64 ((at0 + s.1 : Nat) : Int)), (15, Value.bool s.2.1), (16, Value.int .i64 (s.1 : Int))])
          (fun s => St w NoF [jO bj rj s.2.2.2, bunS ss, .own b6 (.cells (s.2.2.1.map Rm.wv).toArray 52 (0, 0)), .own b5 (.cells (s.2.2.1.map Rm.pv).toArray 50 (0, 0)), rdA al (l.flatMap SentA.row), rdA at_ (ivT tv)]) (fun s => 16 - s.1)
        · exact fun w' hw' => ⟨(0, false, rs, ws), ⟨Nat.zero_le _, hall, hws, Nat.le_refl _, fun h => by (cases h), fun _ k x hk => absurd hk (Nat.not_lt_zero _)⟩, ⟨rfl, rfl, rfl, trivial⟩, hw'⟩
        rintro ⟨n, left, rs', ws'⟩ g3 ⟨hn16, hall', hws', htot', hl1, hl0⟩
        simp only at hn16 hall' hws' htot' hl1 hl0 ⊢
        by_cases hnl : n < 16
        · refine LR_cls_cw (fun w1 h1 => ?_)
          have hZ : (bunS ss).holds w1 := h1.holds (bunS ss) (by (repeat (first | exact mH _ _ | apply mT)))
          refine CW.back1 h1 ?_
          clear h1
          have hlr : rs'.length = 16 := hall'.len
          obtain ⟨x, hx⟩ : ∃ x, rs'[n]? = some x := ⟨_, List.getElem?_eq_getElem (by omega)⟩
          have hcx : (rs'.map Rm.pv)[n]? = some (.slice x.pa x.pl.length x.pc) := by rw [List.getElem?_map, hx]; rfl
          have ha16 : at0 + n ≤ 3216 := by omega
          by_cases htv : tv.length = 0
          · obtain ⟨k0, x0, hx0, hk0, hk0n⟩ : ∃ k0 x0, rs'[k0]? = some x0 ∧ k0 < 16 ∧ k0 = n := ⟨n, x, hx, hnl, rfl⟩
            repeat'(first|(apply kp;iterate 2 exact rfl)|apply jJ|(apply jE;exact rfl)|(apply jp;exact rfl)|(apply jc;kernel_rfl)|((first|apply kf|apply kn|apply ke|apply kx|apply kc|apply kb);iterate 2 exact rfl)|((first|apply kz|apply ky);(·exact rfl);(·repeat(first|exact iO|exact iR rfl|apply iT));iterate 2 exact rfl)|(apply kg;iterate 2 exact rfl)|(apply kG;iterate 3 exact rfl)|(apply kB;(iterate 2 exact rfl);intro _)|(apply kA;exact rfl;intro _)|(apply kK;(iterate 4 exact rfl);intro _)|(apply kU;(iterate 2 exact rfl);(·repeat(first|exact sH _ _ _|apply sT));(first|exact nfL_eq rfl|exact rfl);exact rfl)|((first|apply kh|apply kl);(iterate 2 exact rfl);(first|decide|omega);exact rfl)|(apply addX;(iterate 2 exact rfl);(iterate 2(first|omega|(dsimp only;omega)));exact rfl)|((first|(apply kR;iterate 2 exact rfl)|(apply kQ;exact rfl));all_goals(intro hc;try simp only[hcs]at hc;try(exfalso;first|contradiction|omega))))
            have hc0 : (rs'.map Rm.pv)[k0]? = some (.slice x0.pa x0.pl.length x0.pc) := by rw [List.getElem?_map, hx0]; rfl
            by_cases hp0 : x0.pl.length = 0
            · by_cases hp : x.pl.length = 0
              · repeat'(first|(apply kp;iterate 2 exact rfl)|apply jJ|(apply jE;exact rfl)|(apply jp;exact rfl)|(apply jc;kernel_rfl)|((first|apply kf|apply kn|apply ke|apply kx|apply kc|apply kb);iterate 2 exact rfl)|((first|apply kz|apply ky);(·exact rfl);(·repeat(first|exact iO|exact iR rfl|apply iT));iterate 2 exact rfl)|(apply kg;iterate 2 exact rfl)|(apply kG;iterate 3 exact rfl)|(apply kB;(iterate 2 exact rfl);intro _)|(apply kA;exact rfl;intro _)|(apply kK;(iterate 4 exact rfl);intro _)|(apply kU;(iterate 2 exact rfl);(·repeat(first|exact sH _ _ _|apply sT));(first|exact nfL_eq rfl|exact rfl);exact rfl)|((first|apply kh|apply kl);(iterate 2 exact rfl);(first|decide|omega);exact rfl)|(apply LR.ev; (· apply Ev.indexArr; (· exact rfl); (· exact rfl); (· first | decide | omega | (dsimp only; omega)); (· first | decide | omega | (dsimp only; omega))); (· exact rfl))|(apply addX;(iterate 2 exact rfl);(iterate 2(first|omega|(dsimp only;omega)));exact rfl)|(apply LR.ev; (· apply Ev.load; (· exact rfl); (· intro w' hw'; first | (refine cell_mem (b := b5) (i := n) hw' (by (repeat (first | exact mH _ _ | apply mT))) ?_ hcx; (· simp [hk0n]; done)) | (refine cell_mem (b := b5) (i := k0) hw' (by (repeat (first | exact mH _ _ | apply mT))) ?_ hc0; (· simp [hk0n]; done)))); (· exact rfl))|((first|(apply kR;iterate 2 exact rfl)|(apply kQ;exact rfl));all_goals(intro hc;try simp only[hcs]at hc;try(exfalso;first|contradiction|omega))))
                apply At.again (n + 1, left, rs', ws')
                · refine ⟨hnl, hall', hws', htot', hl1, fun hl k y hk hy => ?_⟩
                  rcases Nat.lt_or_ge k n with hlt | hge
                  · exact hl0 hl k y hlt hy
                  · have hk : k < n + 1 := hk
                    have : k = n := by omega
                    subst this
                    rw [hx] at hy
                    cases hy
                    exact List.eq_nil_of_length_eq_zero hp
                · (repeat (first | exact Out.refl _ _ | exact Out.mix | (apply Out.upd; (· exact rfl)) | (apply Out.updL; (· exact rfl)) | (apply Out.mixs; (· exact rfl))))
                · refine ⟨?_, rfl, ?_, trivial⟩
                  · show Value.int .i64 (((at0 + n : Nat) : Int) + 1) = .int .i64 ((at0 + (n + 1) : Nat) : Int)
                    simp; omega
                  · show Value.int .i64 ((n : Int) + 1) = .int .i64 ((n + 1 : Nat) : Int)
                    simp
                · exact fun w' hw' => hw'
                · show 16 - (n + 1) < 16 - n
                  omega
              · obtain ⟨y, r, hpl⟩ : ∃ y r, x.pl = y :: r := by
                  cases hq : x.pl with
                  | nil => exfalso; revert hp; rw [hq]; simp
                  | cons y r => exact ⟨y, r, rfl⟩
                obtain ⟨st1, st2, st3, st4, st5, ⟨v, vr, hwl, hvl, hcase⟩, st7, st8⟩ := hall'.step hx hpl
                have hZo := hall'.ok _ _ hx
                obtain ⟨bq, oq, hpa⟩ := (hZo.rp w1 hZ).form (by rw [hpl]; exact rows_ne MsgA.row_len (i := 0) (l := y :: r) (by omega) (by simp))
                obtain ⟨bw, ow, hwa⟩ := (hZo.rw_ w1 hZ).form (by rw [hwl]; simp)
                have hcP : (rs'.map Rm.pv)[n]? = some (.slice (some ⟨bq, oq, none⟩) (r.length + 1) x.pc) := by rw [List.getElem?_map, hx]; simp only [Option.map_some, Rm.pv, hpa, hpl, List.length_cons]
                have hcW : (rs'.map Rm.wv)[n]? = some (.slice (some ⟨bw, ow, none⟩) (vr.length + 1) x.wc) := by rw [List.getElem?_map, hx]; simp only [Option.map_some, Rm.wv, hwa, hwl, List.length_cons]
                have hrp : ∀ w', (bunS ss).holds w' → Rd w' (some ⟨bq, oq, none⟩) ((y :: r).flatMap MsgA.row) := fun w' h => by have := hZo.rp w' h; rwa [hpa, hpl] at this
                have hrw : ∀ w', (bunS ss).holds w' → Rd w' (some ⟨bw, ow, none⟩) ((v :: vr).map BA.val) := fun w' h => by have := hZo.rw_ w' h; rwa [hwa, hwl] at this
                have hcp1 : r.length + 1 ≤ x.pc := by have := hZo.cp; rw [hpl] at this; simpa using this
                have hcw1 : vr.length + 1 ≤ x.wc := by have := hZo.cw; rw [hwl] at this; simpa using this
                have hym : y ∈ x.pl := by rw [hpl]; exact List.mem_cons_self
                repeat'(first|(apply kA; (· exact rfl); intro b18)|(apply kp;iterate 2 exact rfl)|apply jJ|(apply jE;exact rfl)|(apply jp;exact rfl)|(apply jc;kernel_rfl)|((first|apply kf|apply kn|apply ke|apply kx|apply kc|apply kb);iterate 2 exact rfl)|((first|apply kz|apply ky);(·exact rfl);(·repeat(first|exact iO|exact iR rfl|apply iT));iterate 2 exact rfl)|(apply kg;iterate 2 exact rfl)|(apply kG;iterate 3 exact rfl)|(apply kB;(iterate 2 exact rfl);intro _)|(apply kA;exact rfl;intro _)|(apply kK;(iterate 4 exact rfl);intro _)|(apply kU;(iterate 2 exact rfl);(·repeat(first|exact sH _ _ _|apply sT));(first|exact nfL_eq rfl|exact rfl);exact rfl)|((first|apply kh|apply kl);(iterate 2 exact rfl);(first|decide|omega);exact rfl)|(apply addX;(iterate 2 exact rfl);(iterate 2(first|omega|(dsimp only;omega)));exact rfl)|(apply idxX;(iterate 2 exact rfl);(iterate 2(first|omega|(dsimp only;omega)));exact rfl)|(apply LR.ev; (· apply Ev.indexArr; (· exact rfl); (· exact rfl); (· first | decide | omega | (dsimp only; omega)); (· first | decide | omega | (dsimp only; omega))); (· exact rfl))|(apply LR.ev; (· apply Ev.load; (· exact rfl); (· intro w' hw'; first | (refine cell_mem (b := b5) (i := n) hw' (by (repeat (first | exact mH _ _ | apply mT))) ?_ hcP; (· simp [hk0n]; done)) | (refine cell_mem (b := b5) (i := k0) hw' (by (repeat (first | exact mH _ _ | apply mT))) ?_ hc0; (· simp [hk0n]; done)) | (refine cell_mem (b := b6) (i := n) hw' (by (repeat (first | exact mH _ _ | apply mT))) ?_ hcW; (· simp [hk0n]; done)))); (· exact rfl))|(apply LR.ev; (· apply Ev.load_agg_at (cs := y.row); (· exact rfl); (· exact rfl); (· intro w' hw'; refine rd_row (l := y :: r) (i := 0) MsgA.row_len (hrp w' (hw'.holds (bunS ss) (by (repeat (first | exact mH _ _ | apply mT))))) ?_ ?_; (· simp; done); (· simp; done))); (· exact rfl))|(apply LR.ev; (· apply sliceLo (j := 1); (· exact rfl); (· exact rfl); (· omega)); (· exact rfl))|((first|(apply kR;iterate 2 exact rfl)|(apply kQ;exact rfl));all_goals(intro hc;try simp only[hcs]at hc;try(exfalso;first|contradiction|omega))))
                refine LR.store_obj (v := .slice (subA (some ⟨bq, oq, none⟩) x.pc 1 13) r.length (x.pc - 1)) (z := .own b5 (.cells (rs'.map Rm.pv).toArray 50 (0, 0))) (z' := .own b5 (.cells ((rs'.map Rm.pv).set  n  (.slice (subA (some ⟨bq, oq, none⟩) x.pc 1 13) r.length (x.pc - 1))).toArray 50 (0, 0))) rfl rfl (by (repeat (first | exact sH _ _ _ | apply sT))) rfl (Stores.arr inferInstance rfl rfl (by simp [hk0n]) (by simp; omega)) (Asrt.dep_own _ _) ?_
                repeat'(first|(apply kp;iterate 2 exact rfl)|apply jJ|(apply jE;exact rfl)|(apply jp;exact rfl)|(apply jc;kernel_rfl)|((first|apply kf|apply kn|apply ke|apply kx|apply kc|apply kb);iterate 2 exact rfl)|((first|apply kz|apply ky);(·exact rfl);(·repeat(first|exact iO|exact iR rfl|apply iT));iterate 2 exact rfl)|(apply kg;iterate 2 exact rfl)|(apply kG;iterate 3 exact rfl)|(apply kB;(iterate 2 exact rfl);intro _)|(apply kA;exact rfl;intro _)|(apply kK;(iterate 4 exact rfl);intro _)|(apply kU;(iterate 2 exact rfl);(·repeat(first|exact sH _ _ _|apply sT));(first|exact nfL_eq rfl|exact rfl);exact rfl)|((first|apply kh|apply kl);(iterate 2 exact rfl);(first|decide|omega);exact rfl)|((first|(apply kR;iterate 2 exact rfl)|(apply kQ;exact rfl));all_goals(intro hc;try simp only[hcs]at hc;try(exfalso;first|contradiction|omega))))
                apply LR.call
                · exact rfl
                intro w1' h1
                have hZ1 := h1.holds (bunS ss) (by (repeat (first | exact mH _ _ | apply mT)))
                have hh := g22 bj rj ws' y.m y.a y.c w1' (h1.holds (jO bj rj ws') (by (repeat (first | exact mH _ _ | apply mT)))) hws' (hZo.rb w1' hZ1 y hym).1 (hZo.rb w1' hZ1 y hym).2 (by omega) st4 (fun q hq => (front h1 2 rfl rfl).apart (y := jO bj rj ws') (by (repeat (first | exact mH _ _ | apply mT))) rfl q (hZo.ft y hym q hq))
                refine CallsTo.mono (show CallsTo Try.prog 22 _ w1' _ from hh) ?_
                rintro _ w2' ⟨px, pcx, ws1, rfl, hA1, hws1, stp⟩
                have h2 := h1.two stp rfl rfl rfl (by (repeat (first | exact sH _ _ _ | apply sT)))
                refine LR.back h2 ?_
                clear h2 h1 stp hh hZ1
                rw [← hA1] at st3
                rw [st1]
                rcases hcase with ⟨q1, q2, q3, q4⟩ | ⟨q1, q3, q4⟩
                · rw [q1, q2]
                  rw [q1] at st2
                  repeat'(first|(apply LR.ev; (· apply neBool st2; (· exact rfl); (· exact rfl)); (· exact rfl))|(apply kp;iterate 2 exact rfl)|apply jJ|(apply jE;exact rfl)|(apply jp;exact rfl)|(apply jc;kernel_rfl)|((first|apply kf|apply kn|apply ke|apply kx|apply kc|apply kb);iterate 2 exact rfl)|((first|apply kz|apply ky);(·exact rfl);(·repeat(first|exact iO|exact iR rfl|apply iT));iterate 2 exact rfl)|(apply kg;iterate 2 exact rfl)|(apply kG;iterate 3 exact rfl)|(apply kB;(iterate 2 exact rfl);intro _)|(apply kA;exact rfl;intro _)|(apply kK;(iterate 4 exact rfl);intro _)|(apply kU;(iterate 2 exact rfl);(·repeat(first|exact sH _ _ _|apply sT));(first|exact nfL_eq rfl|exact rfl);exact rfl)|((first|apply kh|apply kl);(iterate 2 exact rfl);(first|decide|omega);exact rfl)|(apply subX;(iterate 2 exact rfl);(iterate 2(first|omega|(dsimp only;omega)));exact rfl)|(apply idxX;(iterate 2 exact rfl);(iterate 2(first|omega|(dsimp only;omega)));exact rfl)|(apply LR.ev; (· apply Ev.indexArr; (· exact rfl); (· exact rfl); (· first | decide | omega | (dsimp only; omega)); (· first | decide | omega | (dsimp only; omega))); (· exact rfl))|(apply LR.ev; (· apply Ev.load; (· exact rfl); (· intro w' hw'; first | (refine cell_mem (b := b6) (i := n) hw' (by (repeat (first | exact mH _ _ | apply mT))) ?_ hcW; (· simp [hk0n]; done)))); (· exact rfl))|(apply LR.ev; (· apply Ev.load; (· exact rfl); (· intro w' hw'; refine rd_at (j := 0) (hrw w' (hw'.holds (bunS ss) (by (repeat (first | exact mH _ _ | apply mT))))) rfl ?_; (· simp; done))); (· exact rfl))|(apply LR.ev; (· apply sliceLo (j := 1); (· exact rfl); (· exact rfl); (· omega)); (· exact rfl))|(apply kq; (· exact rfl); (· intro w3 h3; have hq := CallsTo.q (c19 px v.a pcx v.c v.b v.b w3 (h3.rd_of_own (by (repeat (first | exact mH _ _ | apply mT)))) (hZo.rv w3 (h3.holds (bunS ss) (by (repeat (first | exact mH _ _ | apply mT)))) v (by rw [hwl]; exact List.mem_cons_self)) (by omega)) h3; rw [show decide (v.b = v.b) = true by simp] at hq; show CallsTo Try.prog 18 [.slice px v.b.length pcx, .slice v.a v.b.length v.c] w3 _; exact hq))|((first|(apply kR;iterate 2 exact rfl)|(apply kQ;exact rfl));all_goals(intro hc;try simp only[hcs]at hc;try(exfalso;first|contradiction|omega))))
                  refine LR.store_obj (v := .slice (subA (some ⟨bw, ow, none⟩) x.wc 1 1) vr.length (x.wc - 1)) (z := .own b6 (.cells (rs'.map Rm.wv).toArray 52 (0, 0))) (z' := .own b6 (.cells ((rs'.map Rm.wv).set  n  (.slice (subA (some ⟨bw, ow, none⟩) x.wc 1 1) vr.length (x.wc - 1))).toArray 52 (0, 0))) rfl rfl (by (repeat (first | exact sH _ _ _ | apply sT))) rfl (Stores.arr inferInstance rfl rfl (by simp [hk0n]) (by simp; omega)) (Asrt.dep_own _ _) ?_
                  repeat'(first|(apply kp;iterate 2 exact rfl)|apply jJ|(apply jE;exact rfl)|(apply jp;exact rfl)|(apply jc;kernel_rfl)|((first|apply kf|apply kn|apply ke|apply kx|apply kc|apply kb);iterate 2 exact rfl)|((first|apply kz|apply ky);(·exact rfl);(·repeat(first|exact iO|exact iR rfl|apply iT));iterate 2 exact rfl)|(apply kg;iterate 2 exact rfl)|(apply kG;iterate 3 exact rfl)|(apply kB;(iterate 2 exact rfl);intro _)|(apply kA;exact rfl;intro _)|(apply kK;(iterate 4 exact rfl);intro _)|(apply kU;(iterate 2 exact rfl);(·repeat(first|exact sH _ _ _|apply sT));(first|exact nfL_eq rfl|exact rfl);exact rfl)|((first|apply kh|apply kl);(iterate 2 exact rfl);(first|decide|omega);exact rfl)|(apply addX;(iterate 2 exact rfl);(iterate 2(first|omega|(dsimp only;omega)));exact rfl)|((first|(apply kR;iterate 2 exact rfl)|(apply kQ;exact rfl));all_goals(intro hc;try simp only[hcs]at hc;try(exfalso;first|contradiction|omega))))
                  have hts := total_set (z := x.next) hx
                  rw [st7, hpl] at hts
                  simp only [List.length_cons] at hts
                  have e5 : (rs'.map Rm.pv).set  n  (.slice (subA (some ⟨bq, oq, none⟩) x.pc 1 13) r.length (x.pc - 1)) = (rs'.set  n  x.next).map Rm.pv := by rw [List.map_set, q3, hpa]
                  have e6 : (rs'.map Rm.wv).set  n  (.slice (subA (some ⟨bw, ow, none⟩) x.wc 1 1) vr.length (x.wc - 1)) = (rs'.set  n  x.next).map Rm.wv := by rw [List.map_set, q4, hwa]
                  apply At.again (n + 1, true, rs'.set  n  x.next, ws1)
                  · exact ⟨hnl, st3, hws1, by dsimp only; omega, fun _ => by dsimp only; omega, fun h => by cases h⟩
                  · (repeat (first | exact Out.refl _ _ | exact Out.mix | (apply Out.upd; (· exact rfl)) | (apply Out.updL; (· exact rfl)) | (apply Out.mixs; (· exact rfl))))
                  · refine ⟨?_, rfl, ?_, trivial⟩
                    · show Value.int .i64 (((at0 + n : Nat) : Int) + 1) = .int .i64 ((at0 + (n + 1) : Nat) : Int)
                      simp; omega
                    · show Value.int .i64 ((n : Int) + 1) = .int .i64 ((n + 1 : Nat) : Int)
                      simp
                  · intro w' hw'
                    rw [e5, e6] at hw'
                    exact hw'.sub (by repeat (first | exact List.Sublist.refl _ | apply List.Sublist.cons_cons | apply List.Sublist.cons))
                  · show 16 - (n + 1) < 16 - n
                    omega
                · rw [q1]
                  rw [q1] at st2
                  repeat'(first|(apply LR.ev; (· apply neBool st2; (· exact rfl); (· exact rfl)); (· exact rfl))|(apply kp;iterate 2 exact rfl)|apply jJ|(apply jE;exact rfl)|(apply jp;exact rfl)|(apply jc;kernel_rfl)|((first|apply kf|apply kn|apply ke|apply kx|apply kc|apply kb);iterate 2 exact rfl)|((first|apply kz|apply ky);(·exact rfl);(·repeat(first|exact iO|exact iR rfl|apply iT));iterate 2 exact rfl)|(apply kg;iterate 2 exact rfl)|(apply kG;iterate 3 exact rfl)|(apply kB;(iterate 2 exact rfl);intro _)|(apply kA;exact rfl;intro _)|(apply kK;(iterate 4 exact rfl);intro _)|(apply kU;(iterate 2 exact rfl);(·repeat(first|exact sH _ _ _|apply sT));(first|exact nfL_eq rfl|exact rfl);exact rfl)|((first|apply kh|apply kl);(iterate 2 exact rfl);(first|decide|omega);exact rfl)|(apply subX;(iterate 2 exact rfl);(iterate 2(first|omega|(dsimp only;omega)));exact rfl)|(apply idxX;(iterate 2 exact rfl);(iterate 2(first|omega|(dsimp only;omega)));exact rfl)|(apply LR.ev; (· apply Ev.indexArr; (· exact rfl); (· exact rfl); (· first | decide | omega | (dsimp only; omega)); (· first | decide | omega | (dsimp only; omega))); (· exact rfl))|(apply LR.ev; (· apply Ev.load; (· exact rfl); (· intro w' hw'; first | (refine cell_mem (b := b6) (i := n) hw' (by (repeat (first | exact mH _ _ | apply mT))) ?_ hcW; (· simp [hk0n]; done)))); (· exact rfl))|(apply addX;(iterate 2 exact rfl);(iterate 2(first|omega|(dsimp only;omega)));exact rfl)|((first|(apply kR;iterate 2 exact rfl)|(apply kQ;exact rfl));all_goals(intro hc;try simp only[hcs]at hc;try(exfalso;first|contradiction|omega))))
                  have hts := total_set (z := x.next) hx
                  rw [st7, hpl] at hts
                  simp only [List.length_cons] at hts
                  have e5 : (rs'.map Rm.pv).set  n  (.slice (subA (some ⟨bq, oq, none⟩) x.pc 1 13) r.length (x.pc - 1)) = (rs'.set  n  x.next).map Rm.pv := by rw [List.map_set, q3, hpa]
                  have e6 : rs'.map Rm.wv = (rs'.set  n  x.next).map Rm.wv := (map_set_same hx q4).symm
                  apply At.again (n + 1, true, rs'.set  n  x.next, ws1)
                  · exact ⟨hnl, st3, hws1, by dsimp only; omega, fun _ => by dsimp only; omega, fun h => by cases h⟩
                  · (repeat (first | exact Out.refl _ _ | exact Out.mix | (apply Out.upd; (· exact rfl)) | (apply Out.updL; (· exact rfl)) | (apply Out.mixs; (· exact rfl))))
                  · refine ⟨?_, rfl, ?_, trivial⟩
                    · show Value.int .i64 (((at0 + n : Nat) : Int) + 1) = .int .i64 ((at0 + (n + 1) : Nat) : Int)
                      simp; omega
                    · show Value.int .i64 ((n : Int) + 1) = .int .i64 ((n + 1 : Nat) : Int)
                      simp
                  · intro w' hw'
                    rw [e5, e6] at hw'
                    exact hw'.sub (by repeat (first | exact List.Sublist.refl _ | apply List.Sublist.cons_cons | apply List.Sublist.cons))
                  · show 16 - (n + 1) < 16 - n
                    omega
            · obtain ⟨y, r, hpl⟩ : ∃ y r, x0.pl = y :: r := by
                cases hq : x0.pl with
                | nil => exfalso; revert hp0; rw [hq]; simp
                | cons y r => exact ⟨y, r, rfl⟩
              obtain ⟨st1, st2, st3, st4, st5, ⟨v, vr, hwl, hvl, hcase⟩, st7, st8⟩ := hall'.step hx0 hpl
              have hZo := hall'.ok _ _ hx0
              obtain ⟨bq, oq, hpa⟩ := (hZo.rp w1 hZ).form (by rw [hpl]; exact rows_ne MsgA.row_len (i := 0) (l := y :: r) (by omega) (by simp))
              obtain ⟨bw, ow, hwa⟩ := (hZo.rw_ w1 hZ).form (by rw [hwl]; simp)
              have hcP : (rs'.map Rm.pv)[k0]? = some (.slice (some ⟨bq, oq, none⟩) (r.length + 1) x0.pc) := by rw [List.getElem?_map, hx0]; simp only [Option.map_some, Rm.pv, hpa, hpl, List.length_cons]
              have hcW : (rs'.map Rm.wv)[k0]? = some (.slice (some ⟨bw, ow, none⟩) (vr.length + 1) x0.wc) := by rw [List.getElem?_map, hx0]; simp only [Option.map_some, Rm.wv, hwa, hwl, List.length_cons]
              have hrp : ∀ w', (bunS ss).holds w' → Rd w' (some ⟨bq, oq, none⟩) ((y :: r).flatMap MsgA.row) := fun w' h => by have := hZo.rp w' h; rwa [hpa, hpl] at this
              have hrw : ∀ w', (bunS ss).holds w' → Rd w' (some ⟨bw, ow, none⟩) ((v :: vr).map BA.val) := fun w' h => by have := hZo.rw_ w' h; rwa [hwa, hwl] at this
              have hcp1 : r.length + 1 ≤ x0.pc := by have := hZo.cp; rw [hpl] at this; simpa using this
              have hcw1 : vr.length + 1 ≤ x0.wc := by have := hZo.cw; rw [hwl] at this; simpa using this
              have hym : y ∈ x0.pl := by rw [hpl]; exact List.mem_cons_self
              repeat'(first|(apply kA; (· exact rfl); intro b18)|(apply kp;iterate 2 exact rfl)|apply jJ|(apply jE;exact rfl)|(apply jp;exact rfl)|(apply jc;kernel_rfl)|((first|apply kf|apply kn|apply ke|apply kx|apply kc|apply kb);iterate 2 exact rfl)|((first|apply kz|apply ky);(·exact rfl);(·repeat(first|exact iO|exact iR rfl|apply iT));iterate 2 exact rfl)|(apply kg;iterate 2 exact rfl)|(apply kG;iterate 3 exact rfl)|(apply kB;(iterate 2 exact rfl);intro _)|(apply kA;exact rfl;intro _)|(apply kK;(iterate 4 exact rfl);intro _)|(apply kU;(iterate 2 exact rfl);(·repeat(first|exact sH _ _ _|apply sT));(first|exact nfL_eq rfl|exact rfl);exact rfl)|((first|apply kh|apply kl);(iterate 2 exact rfl);(first|decide|omega);exact rfl)|(apply addX;(iterate 2 exact rfl);(iterate 2(first|omega|(dsimp only;omega)));exact rfl)|(apply idxX;(iterate 2 exact rfl);(iterate 2(first|omega|(dsimp only;omega)));exact rfl)|(apply LR.ev; (· apply Ev.indexArr; (· exact rfl); (· exact rfl); (· first | decide | omega | (dsimp only; omega)); (· first | decide | omega | (dsimp only; omega))); (· exact rfl))|(apply LR.ev; (· apply Ev.load; (· exact rfl); (· intro w' hw'; first | (refine cell_mem (b := b5) (i := k0) hw' (by (repeat (first | exact mH _ _ | apply mT))) ?_ hcP; (· simp [hk0n]; done)) | (refine cell_mem (b := b6) (i := k0) hw' (by (repeat (first | exact mH _ _ | apply mT))) ?_ hcW; (· simp [hk0n]; done)))); (· exact rfl))|(apply LR.ev; (· apply Ev.load_agg_at (cs := y.row); (· exact rfl); (· exact rfl); (· intro w' hw'; refine rd_row (l := y :: r) (i := 0) MsgA.row_len (hrp w' (hw'.holds (bunS ss) (by (repeat (first | exact mH _ _ | apply mT))))) ?_ ?_; (· simp; done); (· simp; done))); (· exact rfl))|(apply LR.ev; (· apply sliceLo (j := 1); (· exact rfl); (· exact rfl); (· omega)); (· exact rfl))|((first|(apply kR;iterate 2 exact rfl)|(apply kQ;exact rfl));all_goals(intro hc;try simp only[hcs]at hc;try(exfalso;first|contradiction|omega))))
              refine LR.store_obj (v := .slice (subA (some ⟨bq, oq, none⟩) x0.pc 1 13) r.length (x0.pc - 1)) (z := .own b5 (.cells (rs'.map Rm.pv).toArray 50 (0, 0))) (z' := .own b5 (.cells ((rs'.map Rm.pv).set  k0  (.slice (subA (some ⟨bq, oq, none⟩) x0.pc 1 13) r.length (x0.pc - 1))).toArray 50 (0, 0))) rfl rfl (by (repeat (first | exact sH _ _ _ | apply sT))) rfl (Stores.arr inferInstance rfl rfl (by simp [hk0n]) (by simp; omega)) (Asrt.dep_own _ _) ?_
              repeat'(first|(apply kp;iterate 2 exact rfl)|apply jJ|(apply jE;exact rfl)|(apply jp;exact rfl)|(apply jc;kernel_rfl)|((first|apply kf|apply kn|apply ke|apply kx|apply kc|apply kb);iterate 2 exact rfl)|((first|apply kz|apply ky);(·exact rfl);(·repeat(first|exact iO|exact iR rfl|apply iT));iterate 2 exact rfl)|(apply kg;iterate 2 exact rfl)|(apply kG;iterate 3 exact rfl)|(apply kB;(iterate 2 exact rfl);intro _)|(apply kA;exact rfl;intro _)|(apply kK;(iterate 4 exact rfl);intro _)|(apply kU;(iterate 2 exact rfl);(·repeat(first|exact sH _ _ _|apply sT));(first|exact nfL_eq rfl|exact rfl);exact rfl)|((first|apply kh|apply kl);(iterate 2 exact rfl);(first|decide|omega);exact rfl)|((first|(apply kR;iterate 2 exact rfl)|(apply kQ;exact rfl));all_goals(intro hc;try simp only[hcs]at hc;try(exfalso;first|contradiction|omega))))
              apply LR.call
              · exact rfl
              intro w1' h1
              have hZ1 := h1.holds (bunS ss) (by (repeat (first | exact mH _ _ | apply mT)))
              have hh := g22 bj rj ws' y.m y.a y.c w1' (h1.holds (jO bj rj ws') (by (repeat (first | exact mH _ _ | apply mT)))) hws' (hZo.rb w1' hZ1 y hym).1 (hZo.rb w1' hZ1 y hym).2 (by omega) st4 (fun q hq => (front h1 2 rfl rfl).apart (y := jO bj rj ws') (by (repeat (first | exact mH _ _ | apply mT))) rfl q (hZo.ft y hym q hq))
              refine CallsTo.mono (show CallsTo Try.prog 22 _ w1' _ from hh) ?_
              rintro _ w2' ⟨px, pcx, ws1, rfl, hA1, hws1, stp⟩
              have h2 := h1.two stp rfl rfl rfl (by (repeat (first | exact sH _ _ _ | apply sT)))
              refine LR.back h2 ?_
              clear h2 h1 stp hh hZ1
              rw [← hA1] at st3
              rw [st1]
              rcases hcase with ⟨q1, q2, q3, q4⟩ | ⟨q1, q3, q4⟩
              · rw [q1, q2]
                rw [q1] at st2
                repeat'(first|(apply LR.ev; (· apply neBool st2; (· exact rfl); (· exact rfl)); (· exact rfl))|(apply kp;iterate 2 exact rfl)|apply jJ|(apply jE;exact rfl)|(apply jp;exact rfl)|(apply jc;kernel_rfl)|((first|apply kf|apply kn|apply ke|apply kx|apply kc|apply kb);iterate 2 exact rfl)|((first|apply kz|apply ky);(·exact rfl);(·repeat(first|exact iO|exact iR rfl|apply iT));iterate 2 exact rfl)|(apply kg;iterate 2 exact rfl)|(apply kG;iterate 3 exact rfl)|(apply kB;(iterate 2 exact rfl);intro _)|(apply kA;exact rfl;intro _)|(apply kK;(iterate 4 exact rfl);intro _)|(apply kU;(iterate 2 exact rfl);(·repeat(first|exact sH _ _ _|apply sT));(first|exact nfL_eq rfl|exact rfl);exact rfl)|((first|apply kh|apply kl);(iterate 2 exact rfl);(first|decide|omega);exact rfl)|(apply subX;(iterate 2 exact rfl);(iterate 2(first|omega|(dsimp only;omega)));exact rfl)|(apply idxX;(iterate 2 exact rfl);(iterate 2(first|omega|(dsimp only;omega)));exact rfl)|(apply LR.ev; (· apply Ev.indexArr; (· exact rfl); (· exact rfl); (· first | decide | omega | (dsimp only; omega)); (· first | decide | omega | (dsimp only; omega))); (· exact rfl))|(apply LR.ev; (· apply Ev.load; (· exact rfl); (· intro w' hw'; first | (refine cell_mem (b := b6) (i := k0) hw' (by (repeat (first | exact mH _ _ | apply mT))) ?_ hcW; (· simp [hk0n]; done)))); (· exact rfl))|(apply LR.ev; (· apply Ev.load; (· exact rfl); (· intro w' hw'; refine rd_at (j := 0) (hrw w' (hw'.holds (bunS ss) (by (repeat (first | exact mH _ _ | apply mT))))) rfl ?_; (· simp; done))); (· exact rfl))|(apply LR.ev; (· apply sliceLo (j := 1); (· exact rfl); (· exact rfl); (· omega)); (· exact rfl))|(apply kq; (· exact rfl); (· intro w3 h3; have hq := CallsTo.q (c19 px v.a pcx v.c v.b v.b w3 (h3.rd_of_own (by (repeat (first | exact mH _ _ | apply mT)))) (hZo.rv w3 (h3.holds (bunS ss) (by (repeat (first | exact mH _ _ | apply mT)))) v (by rw [hwl]; exact List.mem_cons_self)) (by omega)) h3; rw [show decide (v.b = v.b) = true by simp] at hq; show CallsTo Try.prog 18 [.slice px v.b.length pcx, .slice v.a v.b.length v.c] w3 _; exact hq))|((first|(apply kR;iterate 2 exact rfl)|(apply kQ;exact rfl));all_goals(intro hc;try simp only[hcs]at hc;try(exfalso;first|contradiction|omega))))
                refine LR.store_obj (v := .slice (subA (some ⟨bw, ow, none⟩) x0.wc 1 1) vr.length (x0.wc - 1)) (z := .own b6 (.cells (rs'.map Rm.wv).toArray 52 (0, 0))) (z' := .own b6 (.cells ((rs'.map Rm.wv).set  k0  (.slice (subA (some ⟨bw, ow, none⟩) x0.wc 1 1) vr.length (x0.wc - 1))).toArray 52 (0, 0))) rfl rfl (by (repeat (first | exact sH _ _ _ | apply sT))) rfl (Stores.arr inferInstance rfl rfl (by simp [hk0n]) (by simp; omega)) (Asrt.dep_own _ _) ?_
                repeat'(first|(apply kp;iterate 2 exact rfl)|apply jJ|(apply jE;exact rfl)|(apply jp;exact rfl)|(apply jc;kernel_rfl)|((first|apply kf|apply kn|apply ke|apply kx|apply kc|apply kb);iterate 2 exact rfl)|((first|apply kz|apply ky);(·exact rfl);(·repeat(first|exact iO|exact iR rfl|apply iT));iterate 2 exact rfl)|(apply kg;iterate 2 exact rfl)|(apply kG;iterate 3 exact rfl)|(apply kB;(iterate 2 exact rfl);intro _)|(apply kA;exact rfl;intro _)|(apply kK;(iterate 4 exact rfl);intro _)|(apply kU;(iterate 2 exact rfl);(·repeat(first|exact sH _ _ _|apply sT));(first|exact nfL_eq rfl|exact rfl);exact rfl)|((first|apply kh|apply kl);(iterate 2 exact rfl);(first|decide|omega);exact rfl)|(apply addX;(iterate 2 exact rfl);(iterate 2(first|omega|(dsimp only;omega)));exact rfl)|((first|(apply kR;iterate 2 exact rfl)|(apply kQ;exact rfl));all_goals(intro hc;try simp only[hcs]at hc;try(exfalso;first|contradiction|omega))))
                have hts := total_set (z := x0.next) hx0
                rw [st7, hpl] at hts
                simp only [List.length_cons] at hts
                have e5 : (rs'.map Rm.pv).set  k0  (.slice (subA (some ⟨bq, oq, none⟩) x0.pc 1 13) r.length (x0.pc - 1)) = (rs'.set  k0  x0.next).map Rm.pv := by rw [List.map_set, q3, hpa]
                have e6 : (rs'.map Rm.wv).set  k0  (.slice (subA (some ⟨bw, ow, none⟩) x0.wc 1 1) vr.length (x0.wc - 1)) = (rs'.set  k0  x0.next).map Rm.wv := by rw [List.map_set, q4, hwa]
                apply At.again (n + 1, true, rs'.set  k0  x0.next, ws1)
                · exact ⟨hnl, st3, hws1, by dsimp only; omega, fun _ => by dsimp only; omega, fun h => by cases h⟩
                · (repeat (first | exact Out.refl _ _ | exact Out.mix | (apply Out.upd; (· exact rfl)) | (apply Out.updL; (· exact rfl)) | (apply Out.mixs; (· exact rfl))))
                · refine ⟨?_, rfl, ?_, trivial⟩
                  · show Value.int .i64 (((at0 + n : Nat) : Int) + 1) = .int .i64 ((at0 + (n + 1) : Nat) : Int)
                    simp; omega
                  · show Value.int .i64 ((n : Int) + 1) = .int .i64 ((n + 1 : Nat) : Int)
                    simp
                · intro w' hw'
                  rw [e5, e6] at hw'
                  exact hw'.sub (by repeat (first | exact List.Sublist.refl _ | apply List.Sublist.cons_cons | apply List.Sublist.cons))
                · show 16 - (n + 1) < 16 - n
                  omega
              · rw [q1]
                rw [q1] at st2
                repeat'(first|(apply LR.ev; (· apply neBool st2; (· exact rfl); (· exact rfl)); (· exact rfl))|(apply kp;iterate 2 exact rfl)|apply jJ|(apply jE;exact rfl)|(apply jp;exact rfl)|(apply jc;kernel_rfl)|((first|apply kf|apply kn|apply ke|apply kx|apply kc|apply kb);iterate 2 exact rfl)|((first|apply kz|apply ky);(·exact rfl);(·repeat(first|exact iO|exact iR rfl|apply iT));iterate 2 exact rfl)|(apply kg;iterate 2 exact rfl)|(apply kG;iterate 3 exact rfl)|(apply kB;(iterate 2 exact rfl);intro _)|(apply kA;exact rfl;intro _)|(apply kK;(iterate 4 exact rfl);intro _)|(apply kU;(iterate 2 exact rfl);(·repeat(first|exact sH _ _ _|apply sT));(first|exact nfL_eq rfl|exact rfl);exact rfl)|((first|apply kh|apply kl);(iterate 2 exact rfl);(first|decide|omega);exact rfl)|(apply subX;(iterate 2 exact rfl);(iterate 2(first|omega|(dsimp only;omega)));exact rfl)|(apply idxX;(iterate 2 exact rfl);(iterate 2(first|omega|(dsimp only;omega)));exact rfl)|(apply LR.ev; (· apply Ev.indexArr; (· exact rfl); (· exact rfl); (· first | decide | omega | (dsimp only; omega)); (· first | decide | omega | (dsimp only; omega))); (· exact rfl))|(apply LR.ev; (· apply Ev.load; (· exact rfl); (· intro w' hw'; first | (refine cell_mem (b := b6) (i := k0) hw' (by (repeat (first | exact mH _ _ | apply mT))) ?_ hcW; (· simp [hk0n]; done)))); (· exact rfl))|(apply addX;(iterate 2 exact rfl);(iterate 2(first|omega|(dsimp only;omega)));exact rfl)|((first|(apply kR;iterate 2 exact rfl)|(apply kQ;exact rfl));all_goals(intro hc;try simp only[hcs]at hc;try(exfalso;first|contradiction|omega))))
                have hts := total_set (z := x0.next) hx0
                rw [st7, hpl] at hts
                simp only [List.length_cons] at hts
                have e5 : (rs'.map Rm.pv).set  k0  (.slice (subA (some ⟨bq, oq, none⟩) x0.pc 1 13) r.length (x0.pc - 1)) = (rs'.set  k0  x0.next).map Rm.pv := by rw [List.map_set, q3, hpa]
                have e6 : rs'.map Rm.wv = (rs'.set  k0  x0.next).map Rm.wv := (map_set_same hx0 q4).symm
                apply At.again (n + 1, true, rs'.set  k0  x0.next, ws1)
                · exact ⟨hnl, st3, hws1, by dsimp only; omega, fun _ => by dsimp only; omega, fun h => by cases h⟩
                · (repeat (first | exact Out.refl _ _ | exact Out.mix | (apply Out.upd; (· exact rfl)) | (apply Out.updL; (· exact rfl)) | (apply Out.mixs; (· exact rfl))))
                · refine ⟨?_, rfl, ?_, trivial⟩
                  · show Value.int .i64 (((at0 + n : Nat) : Int) + 1) = .int .i64 ((at0 + (n + 1) : Nat) : Int)
                    simp; omega
                  · show Value.int .i64 ((n : Int) + 1) = .int .i64 ((n + 1 : Nat) : Int)
                    simp
                · intro w' hw'
                  rw [e5, e6] at hw'
                  exact hw'.sub (by repeat (first | exact List.Sublist.refl _ | apply List.Sublist.cons_cons | apply List.Sublist.cons))
                · show 16 - (n + 1) < 16 - n
                  omega
          · obtain ⟨d, hd, hdl⟩ : ∃ d, (at0 + n) % tv.length = d ∧ d < tv.length := ⟨_, rfl, Nat.mod_lt _ (by omega)⟩
            obtain ⟨bt, ot, rfl⟩ := htr.form (fun e => by have e' : tv = [] := List.map_eq_nil_iff.1 e; subst e'; exact htv rfl)
            have hdv : (ivT tv)[d]? = some (.int .i64 tv[d]) := by simp [hdl]
            have hbt := bring_bd tv[d] 16 (by omega)
            obtain ⟨k0, hk0e⟩ := Int.eq_ofNat_of_zero_le hbt.1
            have hk0 : k0 < 16 := by omega
            have hk0n : True := trivial
            obtain ⟨x0, hx0⟩ : ∃ x0, rs'[k0]? = some x0 := ⟨_, List.getElem?_eq_getElem (by omega)⟩
            repeat'(first|(apply kp;iterate 2 exact rfl)|apply jJ|(apply jE;exact rfl)|(apply jp;exact rfl)|(apply jc;kernel_rfl)|((first|apply kf|apply kn|apply ke|apply kx|apply kc|apply kb);iterate 2 exact rfl)|((first|apply kz|apply ky);(·exact rfl);(·repeat(first|exact iO|exact iR rfl|apply iT));iterate 2 exact rfl)|(apply kg;iterate 2 exact rfl)|(apply kG;iterate 3 exact rfl)|(apply kB;(iterate 2 exact rfl);intro _)|(apply kA;exact rfl;intro _)|(apply kK;(iterate 4 exact rfl);intro _)|(apply kU;(iterate 2 exact rfl);(·repeat(first|exact sH _ _ _|apply sT));(first|exact nfL_eq rfl|exact rfl);exact rfl)|((first|apply kh|apply kl);(iterate 2 exact rfl);(first|decide|omega);exact rfl)|(apply addX;(iterate 2 exact rfl);(iterate 2(first|omega|(dsimp only;omega)));exact rfl)|(apply idxX;(iterate 2 exact rfl);(iterate 2(first|omega|(dsimp only;omega)));exact rfl)|(apply LR.ev; (· first | (apply remQ hd; (· exact rfl); (· exact rfl); (· omega)) | (apply Ev.load; (· exact rfl); (· intro w' hw'; refine rd_at (hw'.rd_of (by (repeat (first | exact mH _ _ | apply mT)))) hdv ?_; (· simp; done)))); (· exact rfl))|(apply kq; (· exact rfl); (· intro w3 h3; have hq := CallsTo.q (c31 tv[d] 16 w3 (by omega)) h3; rw [hk0e] at hq; show CallsTo Try.prog 26 [.int .i64 tv[d], .int .i64 16] w3 _; exact hq))|((first|(apply kR;iterate 2 exact rfl)|(apply kQ;exact rfl));all_goals(intro hc;try simp only[hcs]at hc;try(exfalso;first|contradiction|omega))))
            have hc0 : (rs'.map Rm.pv)[k0]? = some (.slice x0.pa x0.pl.length x0.pc) := by rw [List.getElem?_map, hx0]; rfl
            by_cases hp0 : x0.pl.length = 0
            · by_cases hp : x.pl.length = 0
              · repeat'(first|(apply kp;iterate 2 exact rfl)|apply jJ|(apply jE;exact rfl)|(apply jp;exact rfl)|(apply jc;kernel_rfl)|((first|apply kf|apply kn|apply ke|apply kx|apply kc|apply kb);iterate 2 exact rfl)|((first|apply kz|apply ky);(·exact rfl);(·repeat(first|exact iO|exact iR rfl|apply iT));iterate 2 exact rfl)|(apply kg;iterate 2 exact rfl)|(apply kG;iterate 3 exact rfl)|(apply kB;(iterate 2 exact rfl);intro _)|(apply kA;exact rfl;intro _)|(apply kK;(iterate 4 exact rfl);intro _)|(apply kU;(iterate 2 exact rfl);(·repeat(first|exact sH _ _ _|apply sT));(first|exact nfL_eq rfl|exact rfl);exact rfl)|((first|apply kh|apply kl);(iterate 2 exact rfl);(first|decide|omega);exact rfl)|(apply LR.ev; (· apply Ev.indexArr; (· exact rfl); (· exact rfl); (· first | decide | omega | (dsimp only; omega)); (· first | decide | omega | (dsimp only; omega))); (· exact rfl))|(apply addX;(iterate 2 exact rfl);(iterate 2(first|omega|(dsimp only;omega)));exact rfl)|(apply LR.ev; (· apply Ev.load; (· exact rfl); (· intro w' hw'; first | (refine cell_mem (b := b5) (i := n) hw' (by (repeat (first | exact mH _ _ | apply mT))) ?_ hcx; (· simp [hk0n]; done)) | (refine cell_mem (b := b5) (i := k0) hw' (by (repeat (first | exact mH _ _ | apply mT))) ?_ hc0; (· simp [hk0n]; done)))); (· exact rfl))|((first|(apply kR;iterate 2 exact rfl)|(apply kQ;exact rfl));all_goals(intro hc;try simp only[hcs]at hc;try(exfalso;first|contradiction|omega))))
                apply At.again (n + 1, left, rs', ws')
                · refine ⟨hnl, hall', hws', htot', hl1, fun hl k y hk hy => ?_⟩
                  rcases Nat.lt_or_ge k n with hlt | hge
                  · exact hl0 hl k y hlt hy
                  · have hk : k < n + 1 := hk
                    have : k = n := by omega
                    subst this
                    rw [hx] at hy
                    cases hy
                    exact List.eq_nil_of_length_eq_zero hp
                · (repeat (first | exact Out.refl _ _ | exact Out.mix | (apply Out.upd; (· exact rfl)) | (apply Out.updL; (· exact rfl)) | (apply Out.mixs; (· exact rfl))))
                · refine ⟨?_, rfl, ?_, trivial⟩
                  · show Value.int .i64 (((at0 + n : Nat) : Int) + 1) = .int .i64 ((at0 + (n + 1) : Nat) : Int)
                    simp; omega
                  · show Value.int .i64 ((n : Int) + 1) = .int .i64 ((n + 1 : Nat) : Int)
                    simp
                · exact fun w' hw' => hw'
                · show 16 - (n + 1) < 16 - n
                  omega
              · obtain ⟨y, r, hpl⟩ : ∃ y r, x.pl = y :: r := by
                  cases hq : x.pl with
                  | nil => exfalso; revert hp; rw [hq]; simp
                  | cons y r => exact ⟨y, r, rfl⟩
                obtain ⟨st1, st2, st3, st4, st5, ⟨v, vr, hwl, hvl, hcase⟩, st7, st8⟩ := hall'.step hx hpl
                have hZo := hall'.ok _ _ hx
                obtain ⟨bq, oq, hpa⟩ := (hZo.rp w1 hZ).form (by rw [hpl]; exact rows_ne MsgA.row_len (i := 0) (l := y :: r) (by omega) (by simp))
                obtain ⟨bw, ow, hwa⟩ := (hZo.rw_ w1 hZ).form (by rw [hwl]; simp)
                have hcP : (rs'.map Rm.pv)[n]? = some (.slice (some ⟨bq, oq, none⟩) (r.length + 1) x.pc) := by rw [List.getElem?_map, hx]; simp only [Option.map_some, Rm.pv, hpa, hpl, List.length_cons]
                have hcW : (rs'.map Rm.wv)[n]? = some (.slice (some ⟨bw, ow, none⟩) (vr.length + 1) x.wc) := by rw [List.getElem?_map, hx]; simp only [Option.map_some, Rm.wv, hwa, hwl, List.length_cons]
                have hrp : ∀ w', (bunS ss).holds w' → Rd w' (some ⟨bq, oq, none⟩) ((y :: r).flatMap MsgA.row) := fun w' h => by have := hZo.rp w' h; rwa [hpa, hpl] at this
                have hrw : ∀ w', (bunS ss).holds w' → Rd w' (some ⟨bw, ow, none⟩) ((v :: vr).map BA.val) := fun w' h => by have := hZo.rw_ w' h; rwa [hwa, hwl] at this
                have hcp1 : r.length + 1 ≤ x.pc := by have := hZo.cp; rw [hpl] at this; simpa using this
                have hcw1 : vr.length + 1 ≤ x.wc := by have := hZo.cw; rw [hwl] at this; simpa using this
                have hym : y ∈ x.pl := by rw [hpl]; exact List.mem_cons_self
                repeat'(first|(apply kA; (· exact rfl); intro b18)|(apply kp;iterate 2 exact rfl)|apply jJ|(apply jE;exact rfl)|(apply jp;exact rfl)|(apply jc;kernel_rfl)|((first|apply kf|apply kn|apply ke|apply kx|apply kc|apply kb);iterate 2 exact rfl)|((first|apply kz|apply ky);(·exact rfl);(·repeat(first|exact iO|exact iR rfl|apply iT));iterate 2 exact rfl)|(apply kg;iterate 2 exact rfl)|(apply kG;iterate 3 exact rfl)|(apply kB;(iterate 2 exact rfl);intro _)|(apply kA;exact rfl;intro _)|(apply kK;(iterate 4 exact rfl);intro _)|(apply kU;(iterate 2 exact rfl);(·repeat(first|exact sH _ _ _|apply sT));(first|exact nfL_eq rfl|exact rfl);exact rfl)|((first|apply kh|apply kl);(iterate 2 exact rfl);(first|decide|omega);exact rfl)|(apply addX;(iterate 2 exact rfl);(iterate 2(first|omega|(dsimp only;omega)));exact rfl)|(apply idxX;(iterate 2 exact rfl);(iterate 2(first|omega|(dsimp only;omega)));exact rfl)|(apply LR.ev; (· apply Ev.indexArr; (· exact rfl); (· exact rfl); (· first | decide | omega | (dsimp only; omega)); (· first | decide | omega | (dsimp only; omega))); (· exact rfl))|(apply LR.ev; (· apply Ev.load; (· exact rfl); (· intro w' hw'; first | (refine cell_mem (b := b5) (i := n) hw' (by (repeat (first | exact mH _ _ | apply mT))) ?_ hcP; (· simp [hk0n]; done)) | (refine cell_mem (b := b5) (i := k0) hw' (by (repeat (first | exact mH _ _ | apply mT))) ?_ hc0; (· simp [hk0n]; done)) | (refine cell_mem (b := b6) (i := n) hw' (by (repeat (first | exact mH _ _ | apply mT))) ?_ hcW; (· simp [hk0n]; done)))); (· exact rfl))|(apply LR.ev; (· apply Ev.load_agg_at (cs := y.row); (· exact rfl); (· exact rfl); (· intro w' hw'; refine rd_row (l := y :: r) (i := 0) MsgA.row_len (hrp w' (hw'.holds (bunS ss) (by (repeat (first | exact mH _ _ | apply mT))))) ?_ ?_; (· simp; done); (· simp; done))); (· exact rfl))|(apply LR.ev; (· apply sliceLo (j := 1); (· exact rfl); (· exact rfl); (· omega)); (· exact rfl))|((first|(apply kR;iterate 2 exact rfl)|(apply kQ;exact rfl));all_goals(intro hc;try simp only[hcs]at hc;try(exfalso;first|contradiction|omega))))
                refine LR.store_obj (v := .slice (subA (some ⟨bq, oq, none⟩) x.pc 1 13) r.length (x.pc - 1)) (z := .own b5 (.cells (rs'.map Rm.pv).toArray 50 (0, 0))) (z' := .own b5 (.cells ((rs'.map Rm.pv).set  n  (.slice (subA (some ⟨bq, oq, none⟩) x.pc 1 13) r.length (x.pc - 1))).toArray 50 (0, 0))) rfl rfl (by (repeat (first | exact sH _ _ _ | apply sT))) rfl (Stores.arr inferInstance rfl rfl (by simp [hk0n]) (by simp; omega)) (Asrt.dep_own _ _) ?_
                repeat'(first|(apply kp;iterate 2 exact rfl)|apply jJ|(apply jE;exact rfl)|(apply jp;exact rfl)|(apply jc;kernel_rfl)|((first|apply kf|apply kn|apply ke|apply kx|apply kc|apply kb);iterate 2 exact rfl)|((first|apply kz|apply ky);(·exact rfl);(·repeat(first|exact iO|exact iR rfl|apply iT));iterate 2 exact rfl)|(apply kg;iterate 2 exact rfl)|(apply kG;iterate 3 exact rfl)|(apply kB;(iterate 2 exact rfl);intro _)|(apply kA;exact rfl;intro _)|(apply kK;(iterate 4 exact rfl);intro _)|(apply kU;(iterate 2 exact rfl);(·repeat(first|exact sH _ _ _|apply sT));(first|exact nfL_eq rfl|exact rfl);exact rfl)|((first|apply kh|apply kl);(iterate 2 exact rfl);(first|decide|omega);exact rfl)|((first|(apply kR;iterate 2 exact rfl)|(apply kQ;exact rfl));all_goals(intro hc;try simp only[hcs]at hc;try(exfalso;first|contradiction|omega))))
                apply LR.call
                · exact rfl
                intro w1' h1
                have hZ1 := h1.holds (bunS ss) (by (repeat (first | exact mH _ _ | apply mT)))
                have hh := g22 bj rj ws' y.m y.a y.c w1' (h1.holds (jO bj rj ws') (by (repeat (first | exact mH _ _ | apply mT)))) hws' (hZo.rb w1' hZ1 y hym).1 (hZo.rb w1' hZ1 y hym).2 (by omega) st4 (fun q hq => (front h1 2 rfl rfl).apart (y := jO bj rj ws') (by (repeat (first | exact mH _ _ | apply mT))) rfl q (hZo.ft y hym q hq))
                refine CallsTo.mono (show CallsTo Try.prog 22 _ w1' _ from hh) ?_
                rintro _ w2' ⟨px, pcx, ws1, rfl, hA1, hws1, stp⟩
                have h2 := h1.two stp rfl rfl rfl (by (repeat (first | exact sH _ _ _ | apply sT)))
                refine LR.back h2 ?_
                clear h2 h1 stp hh hZ1
                rw [← hA1] at st3
                rw [st1]
                rcases hcase with ⟨q1, q2, q3, q4⟩ | ⟨q1, q3, q4⟩
                · rw [q1, q2]
                  rw [q1] at st2
                  repeat'(first|(apply LR.ev; (· apply neBool st2; (· exact rfl); (· exact rfl)); (· exact rfl))|(apply kp;iterate 2 exact rfl)|apply jJ|(apply jE;exact rfl)|(apply jp;exact rfl)|(apply jc;kernel_rfl)|((first|apply kf|apply kn|apply ke|apply kx|apply kc|apply kb);iterate 2 exact rfl)|((first|apply kz|apply ky);(·exact rfl);(·repeat(first|exact iO|exact iR rfl|apply iT));iterate 2 exact rfl)|(apply kg;iterate 2 exact rfl)|(apply kG;iterate 3 exact rfl)|(apply kB;(iterate 2 exact rfl);intro _)|(apply kA;exact rfl;intro _)|(apply kK;(iterate 4 exact rfl);intro _)|(apply kU;(iterate 2 exact rfl);(·repeat(first|exact sH _ _ _|apply sT));(first|exact nfL_eq rfl|exact rfl);exact rfl)|((first|apply kh|apply kl);(iterate 2 exact rfl);(first|decide|omega);exact rfl)|(apply subX;(iterate 2 exact rfl);(iterate 2(first|omega|(dsimp only;omega)));exact rfl)|(apply idxX;(iterate 2 exact rfl);(iterate 2(first|omega|(dsimp only;omega)));exact rfl)|(apply LR.ev; (· apply Ev.indexArr; (· exact rfl); (· exact rfl); (· first | decide | omega | (dsimp only; omega)); (· first | decide | omega | (dsimp only; omega))); (· exact rfl))|(apply LR.ev; (· apply Ev.load; (· exact rfl); (· intro w' hw'; first | (refine cell_mem (b := b6) (i := n) hw' (by (repeat (first | exact mH _ _ | apply mT))) ?_ hcW; (· simp [hk0n]; done)))); (· exact rfl))|(apply LR.ev; (· apply Ev.load; (· exact rfl); (· intro w' hw'; refine rd_at (j := 0) (hrw w' (hw'.holds (bunS ss) (by (repeat (first | exact mH _ _ | apply mT))))) rfl ?_; (· simp; done))); (· exact rfl))|(apply LR.ev; (· apply sliceLo (j := 1); (· exact rfl); (· exact rfl); (· omega)); (· exact rfl))|(apply kq; (· exact rfl); (· intro w3 h3; have hq := CallsTo.q (c19 px v.a pcx v.c v.b v.b w3 (h3.rd_of_own (by (repeat (first | exact mH _ _ | apply mT)))) (hZo.rv w3 (h3.holds (bunS ss) (by (repeat (first | exact mH _ _ | apply mT)))) v (by rw [hwl]; exact List.mem_cons_self)) (by omega)) h3; rw [show decide (v.b = v.b) = true by simp] at hq; show CallsTo Try.prog 18 [.slice px v.b.length pcx, .slice v.a v.b.length v.c] w3 _; exact hq))|((first|(apply kR;iterate 2 exact rfl)|(apply kQ;exact rfl));all_goals(intro hc;try simp only[hcs]at hc;try(exfalso;first|contradiction|omega))))
                  refine LR.store_obj (v := .slice (subA (some ⟨bw, ow, none⟩) x.wc 1 1) vr.length (x.wc - 1)) (z := .own b6 (.cells (rs'.map Rm.wv).toArray 52 (0, 0))) (z' := .own b6 (.cells ((rs'.map Rm.wv).set  n  (.slice (subA (some ⟨bw, ow, none⟩) x.wc 1 1) vr.length (x.wc - 1))).toArray 52 (0, 0))) rfl rfl (by (repeat (first | exact sH _ _ _ | apply sT))) rfl (Stores.arr inferInstance rfl rfl (by simp [hk0n]) (by simp; omega)) (Asrt.dep_own _ _) ?_
                  repeat'(first|(apply kp;iterate 2 exact rfl)|apply jJ|(apply jE;exact rfl)|(apply jp;exact rfl)|(apply jc;kernel_rfl)|((first|apply kf|apply kn|apply ke|apply kx|apply kc|apply kb);iterate 2 exact rfl)|((first|apply kz|apply ky);(·exact rfl);(·repeat(first|exact iO|exact iR rfl|apply iT));iterate 2 exact rfl)|(apply kg;iterate 2 exact rfl)|(apply kG;iterate 3 exact rfl)|(apply kB;(iterate 2 exact rfl);intro _)|(apply kA;exact rfl;intro _)|(apply kK;(iterate 4 exact rfl);intro _)|(apply kU;(iterate 2 exact rfl);(·repeat(first|exact sH _ _ _|apply sT));(first|exact nfL_eq rfl|exact rfl);exact rfl)|((first|apply kh|apply kl);(iterate 2 exact rfl);(first|decide|omega);exact rfl)|(apply addX;(iterate 2 exact rfl);(iterate 2(first|omega|(dsimp only;omega)));exact rfl)|((first|(apply kR;iterate 2 exact rfl)|(apply kQ;exact rfl));all_goals(intro hc;try simp only[hcs]at hc;try(exfalso;first|contradiction|omega))))
                  have hts := total_set (z := x.next) hx
                  rw [st7, hpl] at hts
                  simp only [List.length_cons] at hts
                  have e5 : (rs'.map Rm.pv).set  n  (.slice (subA (some ⟨bq, oq, none⟩) x.pc 1 13) r.length (x.pc - 1)) = (rs'.set  n  x.next).map Rm.pv := by rw [List.map_set, q3, hpa]
                  have e6 : (rs'.map Rm.wv).set  n  (.slice (subA (some ⟨bw, ow, none⟩) x.wc 1 1) vr.length (x.wc - 1)) = (rs'.set  n  x.next).map Rm.wv := by rw [List.map_set, q4, hwa]
                  apply At.again (n + 1, true, rs'.set  n  x.next, ws1)
                  · exact ⟨hnl, st3, hws1, by dsimp only; omega, fun _ => by dsimp only; omega, fun h => by cases h⟩
                  · (repeat (first | exact Out.refl _ _ | exact Out.mix | (apply Out.upd; (· exact rfl)) | (apply Out.updL; (· exact rfl)) | (apply Out.mixs; (· exact rfl))))
                  · refine ⟨?_, rfl, ?_, trivial⟩
                    · show Value.int .i64 (((at0 + n : Nat) : Int) + 1) = .int .i64 ((at0 + (n + 1) : Nat) : Int)
                      simp; omega
                    · show Value.int .i64 ((n : Int) + 1) = .int .i64 ((n + 1 : Nat) : Int)
                      simp
                  · intro w' hw'
                    rw [e5, e6] at hw'
                    exact hw'.sub (by repeat (first | exact List.Sublist.refl _ | apply List.Sublist.cons_cons | apply List.Sublist.cons))
                  · show 16 - (n + 1) < 16 - n
                    omega
                · rw [q1]
                  rw [q1] at st2
                  repeat'(first|(apply LR.ev; (· apply neBool st2; (· exact rfl); (· exact rfl)); (· exact rfl))|(apply kp;iterate 2 exact rfl)|apply jJ|(apply jE;exact rfl)|(apply jp;exact rfl)|(apply jc;kernel_rfl)|((first|apply kf|apply kn|apply ke|apply kx|apply kc|apply kb);iterate 2 exact rfl)|((first|apply kz|apply ky);(·exact rfl);(·repeat(first|exact iO|exact iR rfl|apply iT));iterate 2 exact rfl)|(apply kg;iterate 2 exact rfl)|(apply kG;iterate 3 exact rfl)|(apply kB;(iterate 2 exact rfl);intro _)|(apply kA;exact rfl;intro _)|(apply kK;(iterate 4 exact rfl);intro _)|(apply kU;(iterate 2 exact rfl);(·repeat(first|exact sH _ _ _|apply sT));(first|exact nfL_eq rfl|exact rfl);exact rfl)|((first|apply kh|apply kl);(iterate 2 exact rfl);(first|decide|omega);exact rfl)|(apply subX;(iterate 2 exact rfl);(iterate 2(first|omega|(dsimp only;omega)));exact rfl)|(apply idxX;(iterate 2 exact rfl);(iterate 2(first|omega|(dsimp only;omega)));exact rfl)|(apply LR.ev; (· apply Ev.indexArr; (· exact rfl); (· exact rfl); (· first | decide | omega | (dsimp only; omega)); (· first | decide | omega | (dsimp only; omega))); (· exact rfl))|(apply LR.ev; (· apply Ev.load; (· exact rfl); (· intro w' hw'; first | (refine cell_mem (b := b6) (i := n) hw' (by (repeat (first | exact mH _ _ | apply mT))) ?_ hcW; (· simp [hk0n]; done)))); (· exact rfl))|(apply addX;(iterate 2 exact rfl);(iterate 2(first|omega|(dsimp only;omega)));exact rfl)|((first|(apply kR;iterate 2 exact rfl)|(apply kQ;exact rfl));all_goals(intro hc;try simp only[hcs]at hc;try(exfalso;first|contradiction|omega))))
                  have hts := total_set (z := x.next) hx
                  rw [st7, hpl] at hts
                  simp only [List.length_cons] at hts
                  have e5 : (rs'.map Rm.pv).set  n  (.slice (subA (some ⟨bq, oq, none⟩) x.pc 1 13) r.length (x.pc - 1)) = (rs'.set  n  x.next).map Rm.pv := by rw [List.map_set, q3, hpa]
                  have e6 : rs'.map Rm.wv = (rs'.set  n  x.next).map Rm.wv := (map_set_same hx q4).symm
                  apply At.again (n + 1, true, rs'.set  n  x.next, ws1)
                  · exact ⟨hnl, st3, hws1, by dsimp only; omega, fun _ => by dsimp only; omega, fun h => by cases h⟩
                  · (repeat (first | exact Out.refl _ _ | exact Out.mix | (apply Out.upd; (· exact rfl)) | (apply Out.updL; (· exact rfl)) | (apply Out.mixs; (· exact rfl))))
                  · refine ⟨?_, rfl, ?_, trivial⟩
                    · show Value.int .i64 (((at0 + n : Nat) : Int) + 1) = .int .i64 ((at0 + (n + 1) : Nat) : Int)
                      simp; omega
                    · show Value.int .i64 ((n : Int) + 1) = .int .i64 ((n + 1 : Nat) : Int)
                      simp
                  · intro w' hw'
                    rw [e5, e6] at hw'
                    exact hw'.sub (by repeat (first | exact List.Sublist.refl _ | apply List.Sublist.cons_cons | apply List.Sublist.cons))
                  · show 16 - (n + 1) < 16 - n
                    omega
            · obtain ⟨y, r, hpl⟩ : ∃ y r, x0.pl = y :: r := by
                cases hq : x0.pl with
                | nil => exfalso; revert hp0; rw [hq]; simp
                | cons y r => exact ⟨y, r, rfl⟩
              obtain ⟨st1, st2, st3, st4, st5, ⟨v, vr, hwl, hvl, hcase⟩, st7, st8⟩ := hall'.step hx0 hpl
              have hZo := hall'.ok _ _ hx0
              obtain ⟨bq, oq, hpa⟩ := (hZo.rp w1 hZ).form (by rw [hpl]; exact rows_ne MsgA.row_len (i := 0) (l := y :: r) (by omega) (by simp))
              obtain ⟨bw, ow, hwa⟩ := (hZo.rw_ w1 hZ).form (by rw [hwl]; simp)
              have hcP : (rs'.map Rm.pv)[k0]? = some (.slice (some ⟨bq, oq, none⟩) (r.length + 1) x0.pc) := by rw [List.getElem?_map, hx0]; simp only [Option.map_some, Rm.pv, hpa, hpl, List.length_cons]
              have hcW : (rs'.map Rm.wv)[k0]? = some (.slice (some ⟨bw, ow, none⟩) (vr.length + 1) x0.wc) := by rw [List.getElem?_map, hx0]; simp only [Option.map_some, Rm.wv, hwa, hwl, List.length_cons]
              have hrp : ∀ w', (bunS ss).holds w' → Rd w' (some ⟨bq, oq, none⟩) ((y :: r).flatMap MsgA.row) := fun w' h => by have := hZo.rp w' h; rwa [hpa, hpl] at this
              have hrw : ∀ w', (bunS ss).holds w' → Rd w' (some ⟨bw, ow, none⟩) ((v :: vr).map BA.val) := fun w' h => by have := hZo.rw_ w' h; rwa [hwa, hwl] at this
              have hcp1 : r.length + 1 ≤ x0.pc := by have := hZo.cp; rw [hpl] at this; simpa using this
              have hcw1 : vr.length + 1 ≤ x0.wc := by have := hZo.cw; rw [hwl] at this; simpa using this
              have hym : y ∈ x0.pl := by rw [hpl]; exact List.mem_cons_self
              repeat'(first|(apply kA; (· exact rfl); intro b18)|(apply kp;iterate 2 exact rfl)|apply jJ|(apply jE;exact rfl)|(apply jp;exact rfl)|(apply jc;kernel_rfl)|((first|apply kf|apply kn|apply ke|apply kx|apply kc|apply kb);iterate 2 exact rfl)|((first|apply kz|apply ky);(·exact rfl);(·repeat(first|exact iO|exact iR rfl|apply iT));iterate 2 exact rfl)|(apply kg;iterate 2 exact rfl)|(apply kG;iterate 3 exact rfl)|(apply kB;(iterate 2 exact rfl);intro _)|(apply kA;exact rfl;intro _)|(apply kK;(iterate 4 exact rfl);intro _)|(apply kU;(iterate 2 exact rfl);(·repeat(first|exact sH _ _ _|apply sT));(first|exact nfL_eq rfl|exact rfl);exact rfl)|((first|apply kh|apply kl);(iterate 2 exact rfl);(first|decide|omega);exact rfl)|(apply addX;(iterate 2 exact rfl);(iterate 2(first|omega|(dsimp only;omega)));exact rfl)|(apply idxX;(iterate 2 exact rfl);(iterate 2(first|omega|(dsimp only;omega)));exact rfl)|(apply LR.ev; (· apply Ev.indexArr; (· exact rfl); (· exact rfl); (· first | decide | omega | (dsimp only; omega)); (· first | decide | omega | (dsimp only; omega))); (· exact rfl))|(apply LR.ev; (· apply Ev.load; (· exact rfl); (· intro w' hw'; first | (refine cell_mem (b := b5) (i := k0) hw' (by (repeat (first | exact mH _ _ | apply mT))) ?_ hcP; (· simp [hk0n]; done)) | (refine cell_mem (b := b6) (i := k0) hw' (by (repeat (first | exact mH _ _ | apply mT))) ?_ hcW; (· simp [hk0n]; done)))); (· exact rfl))|(apply LR.ev; (· apply Ev.load_agg_at (cs := y.row); (· exact rfl); (· exact rfl); (· intro w' hw'; refine rd_row (l := y :: r) (i := 0) MsgA.row_len (hrp w' (hw'.holds (bunS ss) (by (repeat (first | exact mH _ _ | apply mT))))) ?_ ?_; (· simp; done); (· simp; done))); (· exact rfl))|(apply LR.ev; (· apply sliceLo (j := 1); (· exact rfl); (· exact rfl); (· omega)); (· exact rfl))|((first|(apply kR;iterate 2 exact rfl)|(apply kQ;exact rfl));all_goals(intro hc;try simp only[hcs]at hc;try(exfalso;first|contradiction|omega))))
              refine LR.store_obj (v := .slice (subA (some ⟨bq, oq, none⟩) x0.pc 1 13) r.length (x0.pc - 1)) (z := .own b5 (.cells (rs'.map Rm.pv).toArray 50 (0, 0))) (z' := .own b5 (.cells ((rs'.map Rm.pv).set  k0  (.slice (subA (some ⟨bq, oq, none⟩) x0.pc 1 13) r.length (x0.pc - 1))).toArray 50 (0, 0))) rfl rfl (by (repeat (first | exact sH _ _ _ | apply sT))) rfl (Stores.arr inferInstance rfl rfl (by simp [hk0n]) (by simp; omega)) (Asrt.dep_own _ _) ?_
              repeat'(first|(apply kp;iterate 2 exact rfl)|apply jJ|(apply jE;exact rfl)|(apply jp;exact rfl)|(apply jc;kernel_rfl)|((first|apply kf|apply kn|apply ke|apply kx|apply kc|apply kb);iterate 2 exact rfl)|((first|apply kz|apply ky);(·exact rfl);(·repeat(first|exact iO|exact iR rfl|apply iT));iterate 2 exact rfl)|(apply kg;iterate 2 exact rfl)|(apply kG;iterate 3 exact rfl)|(apply kB;(iterate 2 exact rfl);intro _)|(apply kA;exact rfl;intro _)|(apply kK;(iterate 4 exact rfl);intro _)|(apply kU;(iterate 2 exact rfl);(·repeat(first|exact sH _ _ _|apply sT));(first|exact nfL_eq rfl|exact rfl);exact rfl)|((first|apply kh|apply kl);(iterate 2 exact rfl);(first|decide|omega);exact rfl)|((first|(apply kR;iterate 2 exact rfl)|(apply kQ;exact rfl));all_goals(intro hc;try simp only[hcs]at hc;try(exfalso;first|contradiction|omega))))
              apply LR.call
              · exact rfl
              intro w1' h1
              have hZ1 := h1.holds (bunS ss) (by (repeat (first | exact mH _ _ | apply mT)))
              have hh := g22 bj rj ws' y.m y.a y.c w1' (h1.holds (jO bj rj ws') (by (repeat (first | exact mH _ _ | apply mT)))) hws' (hZo.rb w1' hZ1 y hym).1 (hZo.rb w1' hZ1 y hym).2 (by omega) st4 (fun q hq => (front h1 2 rfl rfl).apart (y := jO bj rj ws') (by (repeat (first | exact mH _ _ | apply mT))) rfl q (hZo.ft y hym q hq))
              refine CallsTo.mono (show CallsTo Try.prog 22 _ w1' _ from hh) ?_
              rintro _ w2' ⟨px, pcx, ws1, rfl, hA1, hws1, stp⟩
              have h2 := h1.two stp rfl rfl rfl (by (repeat (first | exact sH _ _ _ | apply sT)))
              refine LR.back h2 ?_
              clear h2 h1 stp hh hZ1
              rw [← hA1] at st3
              rw [st1]
              rcases hcase with ⟨q1, q2, q3, q4⟩ | ⟨q1, q3, q4⟩
              · rw [q1, q2]
                rw [q1] at st2
                repeat'(first|(apply LR.ev; (· apply neBool st2; (· exact rfl); (· exact rfl)); (· exact rfl))|(apply kp;iterate 2 exact rfl)|apply jJ|(apply jE;exact rfl)|(apply jp;exact rfl)|(apply jc;kernel_rfl)|((first|apply kf|apply kn|apply ke|apply kx|apply kc|apply kb);iterate 2 exact rfl)|((first|apply kz|apply ky);(·exact rfl);(·repeat(first|exact iO|exact iR rfl|apply iT));iterate 2 exact rfl)|(apply kg;iterate 2 exact rfl)|(apply kG;iterate 3 exact rfl)|(apply kB;(iterate 2 exact rfl);intro _)|(apply kA;exact rfl;intro _)|(apply kK;(iterate 4 exact rfl);intro _)|(apply kU;(iterate 2 exact rfl);(·repeat(first|exact sH _ _ _|apply sT));(first|exact nfL_eq rfl|exact rfl);exact rfl)|((first|apply kh|apply kl);(iterate 2 exact rfl);(first|decide|omega);exact rfl)|(apply subX;(iterate 2 exact rfl);(iterate 2(first|omega|(dsimp only;omega)));exact rfl)|(apply idxX;(iterate 2 exact rfl);(iterate 2(first|omega|(dsimp only;omega)));exact rfl)|(apply LR.ev; (· apply Ev.indexArr; (· exact rfl); (· exact rfl); (· first | decide | omega | (dsimp only; omega)); (· first | decide | omega | (dsimp only; omega))); (· exact rfl))|(apply LR.ev; (· apply Ev.load; (· exact rfl); (· intro w' hw'; first | (refine cell_mem (b := b6) (i := k0) hw' (by (repeat (first | exact mH _ _ | apply mT))) ?_ hcW; (· simp [hk0n]; done)))); (· exact rfl))|(apply LR.ev; (· apply Ev.load; (· exact rfl); (· intro w' hw'; refine rd_at (j := 0) (hrw w' (hw'.holds (bunS ss) (by (repeat (first | exact mH _ _ | apply mT))))) rfl ?_; (· simp; done))); (· exact rfl))|(apply LR.ev; (· apply sliceLo (j := 1); (· exact rfl); (· exact rfl); (· omega)); (· exact rfl))|(apply kq; (· exact rfl); (· intro w3 h3; have hq := CallsTo.q (c19 px v.a pcx v.c v.b v.b w3 (h3.rd_of_own (by (repeat (first | exact mH _ _ | apply mT)))) (hZo.rv w3 (h3.holds (bunS ss) (by (repeat (first | exact mH _ _ | apply mT)))) v (by rw [hwl]; exact List.mem_cons_self)) (by omega)) h3; rw [show decide (v.b = v.b) = true by simp] at hq; show CallsTo Try.prog 18 [.slice px v.b.length pcx, .slice v.a v.b.length v.c] w3 _; exact hq))|((first|(apply kR;iterate 2 exact rfl)|(apply kQ;exact rfl));all_goals(intro hc;try simp only[hcs]at hc;try(exfalso;first|contradiction|omega))))
                refine LR.store_obj (v := .slice (subA (some ⟨bw, ow, none⟩) x0.wc 1 1) vr.length (x0.wc - 1)) (z := .own b6 (.cells (rs'.map Rm.wv).toArray 52 (0, 0))) (z' := .own b6 (.cells ((rs'.map Rm.wv).set  k0  (.slice (subA (some ⟨bw, ow, none⟩) x0.wc 1 1) vr.length (x0.wc - 1))).toArray 52 (0, 0))) rfl rfl (by (repeat (first | exact sH _ _ _ | apply sT))) rfl (Stores.arr inferInstance rfl rfl (by simp [hk0n]) (by simp; omega)) (Asrt.dep_own _ _) ?_
                repeat'(first|(apply kp;iterate 2 exact rfl)|apply jJ|(apply jE;exact rfl)|(apply jp;exact rfl)|(apply jc;kernel_rfl)|((first|apply kf|apply kn|apply ke|apply kx|apply kc|apply kb);iterate 2 exact rfl)|((first|apply kz|apply ky);(·exact rfl);(·repeat(first|exact iO|exact iR rfl|apply iT));iterate 2 exact rfl)|(apply kg;iterate 2 exact rfl)|(apply kG;iterate 3 exact rfl)|(apply kB;(iterate 2 exact rfl);intro _)|(apply kA;exact rfl;intro _)|(apply kK;(iterate 4 exact rfl);intro _)|(apply kU;(iterate 2 exact rfl);(·repeat(first|exact sH _ _ _|apply sT));(first|exact nfL_eq rfl|exact rfl);exact rfl)|((first|apply kh|apply kl);(iterate 2 exact rfl);(first|decide|omega);exact rfl)|(apply addX;(iterate 2 exact rfl);(iterate 2(first|omega|(dsimp only;omega)));exact rfl)|((first|(apply kR;iterate 2 exact rfl)|(apply kQ;exact rfl));all_goals(intro hc;try simp only[hcs]at hc;try(exfalso;first|contradiction|omega))))
                have hts := total_set (z := x0.next) hx0
                rw [st7, hpl] at hts
                simp only [List.length_cons] at hts
                have e5 : (rs'.map Rm.pv).set  k0  (.slice (subA (some ⟨bq, oq, none⟩) x0.pc 1 13) r.length (x0.pc - 1)) = (rs'.set  k0  x0.next).map Rm.pv := by rw [List.map_set, q3, hpa]
                have e6 : (rs'.map Rm.wv).set  k0  (.slice (subA (some ⟨bw, ow, none⟩) x0.wc 1 1) vr.length (x0.wc - 1)) = (rs'.set  k0  x0.next).map Rm.wv := by rw [List.map_set, q4, hwa]
                apply At.again (n + 1, true, rs'.set  k0  x0.next, ws1)
                · exact ⟨hnl, st3, hws1, by dsimp only; omega, fun _ => by dsimp only; omega, fun h => by cases h⟩
                · (repeat (first | exact Out.refl _ _ | exact Out.mix | (apply Out.upd; (· exact rfl)) | (apply Out.updL; (· exact rfl)) | (apply Out.mixs; (· exact rfl))))
                · refine ⟨?_, rfl, ?_, trivial⟩
                  · show Value.int .i64 (((at0 + n : Nat) : Int) + 1) = .int .i64 ((at0 + (n + 1) : Nat) : Int)
                    simp; omega
                  · show Value.int .i64 ((n : Int) + 1) = .int .i64 ((n + 1 : Nat) : Int)
                    simp
                · intro w' hw'
                  rw [e5, e6] at hw'
                  exact hw'.sub (by repeat (first | exact List.Sublist.refl _ | apply List.Sublist.cons_cons | apply List.Sublist.cons))
                · show 16 - (n + 1) < 16 - n
                  omega
              · rw [q1]
                rw [q1] at st2
                repeat'(first|(apply LR.ev; (· apply neBool st2; (· exact rfl); (· exact rfl)); (· exact rfl))|(apply kp;iterate 2 exact rfl)|apply jJ|(apply jE;exact rfl)|(apply jp;exact rfl)|(apply jc;kernel_rfl)|((first|apply kf|apply kn|apply ke|apply kx|apply kc|apply kb);iterate 2 exact rfl)|((first|apply kz|apply ky);(·exact rfl);(·repeat(first|exact iO|exact iR rfl|apply iT));iterate 2 exact rfl)|(apply kg;iterate 2 exact rfl)|(apply kG;iterate 3 exact rfl)|(apply kB;(iterate 2 exact rfl);intro _)|(apply kA;exact rfl;intro _)|(apply kK;(iterate 4 exact rfl);intro _)|(apply kU;(iterate 2 exact rfl);(·repeat(first|exact sH _ _ _|apply sT));(first|exact nfL_eq rfl|exact rfl);exact rfl)|((first|apply kh|apply kl);(iterate 2 exact rfl);(first|decide|omega);exact rfl)|(apply subX;(iterate 2 exact rfl);(iterate 2(first|omega|(dsimp only;omega)));exact rfl)|(apply idxX;(iterate 2 exact rfl);(iterate 2(first|omega|(dsimp only;omega)));exact rfl)|(apply LR.ev; (· apply Ev.indexArr; (· exact rfl); (· exact rfl); (· first | decide | omega | (dsimp only; omega)); (· first | decide | omega | (dsimp only; omega))); (· exact rfl))|(apply LR.ev; (· apply Ev.load; (· exact rfl); (· intro w' hw'; first | (refine cell_mem (b := b6) (i := k0) hw' (by (repeat (first | exact mH _ _ | apply mT))) ?_ hcW; (· simp [hk0n]; done)))); (· exact rfl))|(apply addX;(iterate 2 exact rfl);(iterate 2(first|omega|(dsimp only;omega)));exact rfl)|((first|(apply kR;iterate 2 exact rfl)|(apply kQ;exact rfl));all_goals(intro hc;try simp only[hcs]at hc;try(exfalso;first|contradiction|omega))))
                have hts := total_set (z := x0.next) hx0
                rw [st7, hpl] at hts
                simp only [List.length_cons] at hts
                have e5 : (rs'.map Rm.pv).set  k0  (.slice (subA (some ⟨bq, oq, none⟩) x0.pc 1 13) r.length (x0.pc - 1)) = (rs'.set  k0  x0.next).map Rm.pv := by rw [List.map_set, q3, hpa]
                have e6 : rs'.map Rm.wv = (rs'.set  k0  x0.next).map Rm.wv := (map_set_same hx0 q4).symm
                apply At.again (n + 1, true, rs'.set  k0  x0.next, ws1)
                · exact ⟨hnl, st3, hws1, by dsimp only; omega, fun _ => by dsimp only; omega, fun h => by cases h⟩
                · (repeat (first | exact Out.refl _ _ | exact Out.mix | (apply Out.upd; (· exact rfl)) | (apply Out.updL; (· exact rfl)) | (apply Out.mixs; (· exact rfl))))
                · refine ⟨?_, rfl, ?_, trivial⟩
                  · show Value.int .i64 (((at0 + n : Nat) : Int) + 1) = .int .i64 ((at0 + (n + 1) : Nat) : Int)
                    simp; omega
                  · show Value.int .i64 ((n : Int) + 1) = .int .i64 ((n + 1 : Nat) : Int)
                    simp
                · intro w' hw'
                  rw [e5, e6] at hw'
                  exact hw'.sub (by repeat (first | exact List.Sublist.refl _ | apply List.Sublist.cons_cons | apply List.Sublist.cons))
                · show 16 - (n + 1) < 16 - n
                  omega
        · have hn : n = 16 := by omega
          subst hn
          repeat'(first|(apply kp;iterate 2 exact rfl)|apply jJ|(apply jE;exact rfl)|(apply jp;exact rfl)|(apply jc;kernel_rfl)|((first|apply kf|apply kn|apply ke|apply kx|apply kc|apply kb);iterate 2 exact rfl)|((first|apply kz|apply ky);(·exact rfl);(·repeat(first|exact iO|exact iR rfl|apply iT));iterate 2 exact rfl)|(apply kg;iterate 2 exact rfl)|(apply kG;iterate 3 exact rfl)|(apply kB;(iterate 2 exact rfl);intro _)|(apply kA;exact rfl;intro _)|(apply kK;(iterate 4 exact rfl);intro _)|(apply kU;(iterate 2 exact rfl);(·repeat(first|exact sH _ _ _|apply sT));(first|exact nfL_eq rfl|exact rfl);exact rfl)|((first|apply kh|apply kl);(iterate 2 exact rfl);(first|decide|omega);exact rfl)|((first|(apply kR;iterate 2 exact rfl)|(apply kQ;exact rfl));all_goals(intro hc;try simp only[hcs]at hc;try(exfalso;first|contradiction|omega))))
          apply At.again (at0 + 16, left, rs', ws')
          · refine ⟨hall', hws', by dsimp only; omega, fun h => by have := hl1 h; dsimp only; omega, fun h k x hk => hl0 h k x (by have := (List.getElem?_eq_some_iff.1 hk).1; rw [hall'.len] at this; exact this) hk⟩
          · (repeat (first | exact Out.refl _ _ | exact Out.mix | (apply Out.upd; (· exact rfl)) | (apply Out.updL; (· exact rfl)) | (apply Out.mixs; (· exact rfl))))
          · exact ⟨rfl, rfl, trivial⟩
          · exact fun w' hw' => hw'
          · cases left with
            | true => have := hl1 rfl; simp; omega
            | false => simp)
end Go.Proofs.Ytphcnaafhcfakaa

namespace Go.Proofs.Ytphcnaafhcfakaa
open Go.Hb
attribute [local irreducible] LR CW At Ev thn blk finK noG again CallsTo DW QL dnext TW DP
set_option linter.unusedSimpArgs false
set_option linter.unusedVariables false
set_option maxRecDepth 100000

theorem g29 (a b : Option Addr) (ca cb : Nat) (la lb : List Int) (w : World) (ha : Rd w a (iv la)) (hb : Rd w b (iv lb)) (hm : la.length ≤ 140737488355328) :
    CallsTo Try.prog 29 [.slice a la.length ca, .slice b lb.length cb] w fun v w' => v = .bool (decide (la = lb)) ∧ Grew w w' := by
  refine go_in (n := 26) (St.rd2 ha hb) Try.func29 rfl rfl ?_
  repeat'(first|(apply kp;iterate 2 exact rfl)|apply jJ|(apply jE;exact rfl)|(apply jp;exact rfl)|(apply jc;kernel_rfl)|((first|apply kf|apply kn|apply ke|apply kx|apply kc|apply kb);iterate 2 exact rfl)|((first|apply kz|apply ky);(·exact rfl);(·repeat(first|exact iO|exact iR rfl|apply iT));iterate 2 exact rfl)|(apply kg;iterate 2 exact rfl)|(apply kG;iterate 3 exact rfl)|(apply kB;(iterate 2 exact rfl);intro _)|(apply kA;exact rfl;intro _)|(apply kK;(iterate 4 exact rfl);intro _)|(apply kU;(iterate 2 exact rfl);(·repeat(first|exact sH _ _ _|apply sT));(first|exact nfL_eq rfl|exact rfl);exact rfl)|((first|apply kh|apply kl);(iterate 2 exact rfl);(first|decide|omega);exact rfl)|((first|(apply kR;iterate 2 exact rfl)|(apply kQ;exact rfl));all_goals(intro hc;try simp only[hcs]at hc;try(exfalso;first|contradiction|omega))))
  · (apply ret1; (· exact rfl); intro w' hS)
    refine ⟨congrArg Value.bool ?_, hS.toKeep⟩
    have : la ≠ lb := fun e => by subst e; simp at hc
    simp [this]
  · apply CW.loop [4, 5, 11, 12, 13, 14, 15, 16, 17, 18, 19, 20, 21, 22, 23, 24, 25] (fun i : Nat => i ≤ la.length ∧ la.take i = lb.take i) (fun i : Nat => [(5, Value.int .i64 i)]) (fun i => St w NoF [rdA a (iv la), rdA b (iv lb)]) (fun i => la.length - i)
    · exact fun w' hw' => ⟨0, ⟨by omega, by simp⟩, ⟨rfl, trivial⟩, hw'⟩
    intro i g ⟨hi, heq⟩
    by_cases hlt : i < la.length
    · obtain ⟨ba, oa, rfl⟩ := ha.form (fun e => by have := congrArg List.length e; simp at this; subst this; simp at hlt)
      obtain ⟨bb, ob, rfl⟩ := hb.form (fun e => by have := congrArg List.length e; simp at this; subst this; simp at hc; simp [hc] at hlt)
      have hlb : i < lb.length := by omega
      repeat'(first|(apply kp;iterate 2 exact rfl)|apply jJ|(apply jE;exact rfl)|(apply jp;exact rfl)|(apply jc;kernel_rfl)|((first|apply kf|apply kn|apply ke|apply kx|apply kc|apply kb);iterate 2 exact rfl)|((first|apply kz|apply ky);(·exact rfl);(·repeat(first|exact iO|exact iR rfl|apply iT));iterate 2 exact rfl)|(apply kg;iterate 2 exact rfl)|(apply kG;iterate 3 exact rfl)|(apply kB;(iterate 2 exact rfl);intro _)|(apply kA;exact rfl;intro _)|(apply kK;(iterate 4 exact rfl);intro _)|(apply kU;(iterate 2 exact rfl);(·repeat(first|exact sH _ _ _|apply sT));(first|exact nfL_eq rfl|exact rfl);exact rfl)|((first|apply kh|apply kl);(iterate 2 exact rfl);(first|decide|omega);exact rfl)|(apply idxX;(iterate 2 exact rfl);(iterate 2(first|omega|(dsimp only;omega)));exact rfl)|(apply LR.ev; (· apply Ev.load_rd; (· exact rfl); (· repeat (first | exact mH _ _ | apply mT)); (· exact iv_at (i := i) (by simp) (by omega))); (· exact rfl))|(apply addX;(iterate 2 exact rfl);(iterate 2(first|omega|(dsimp only;omega)));exact rfl)|((first|(apply kR;iterate 2 exact rfl)|(apply kQ;exact rfl));all_goals(intro hc;try simp only[hcs]at hc;try(exfalso;first|contradiction|omega))))
      · (apply ret1; (· exact rfl); intro w' hS)
        refine ⟨congrArg Value.bool ?_, hS.toKeep⟩
        have : la ≠ lb := fun e => by subst e; simp_all
        simp [this]
      · apply At.again (i + 1) ⟨by omega, take_succ_eq hlt hlb heq (by simpa using ‹_›)⟩
        · (repeat (first | exact Out.refl _ _ | exact Out.mix | (apply Out.upd; (· exact rfl)) | (apply Out.updL; (· exact rfl)) | (apply Out.mixs; (· exact rfl))))
        · exact ⟨rfl, trivial⟩
        · exact fun w' hw' => hw'
        · omega
    · repeat'(first|(apply kp;iterate 2 exact rfl)|apply jJ|(apply jE;exact rfl)|(apply jp;exact rfl)|(apply jc;kernel_rfl)|((first|apply kf|apply kn|apply ke|apply kx|apply kc|apply kb);iterate 2 exact rfl)|((first|apply kz|apply ky);(·exact rfl);(·repeat(first|exact iO|exact iR rfl|apply iT));iterate 2 exact rfl)|(apply kg;iterate 2 exact rfl)|(apply kG;iterate 3 exact rfl)|(apply kB;(iterate 2 exact rfl);intro _)|(apply kA;exact rfl;intro _)|(apply kK;(iterate 4 exact rfl);intro _)|(apply kU;(iterate 2 exact rfl);(·repeat(first|exact sH _ _ _|apply sT));(first|exact nfL_eq rfl|exact rfl);exact rfl)|((first|apply kh|apply kl);(iterate 2 exact rfl);(first|decide|omega);exact rfl)|((first|(apply kR;iterate 2 exact rfl)|(apply kQ;exact rfl));all_goals(intro hc;try simp only[hcs]at hc;try(exfalso;first|contradiction|omega))))
      (apply ret1; (· exact rfl); intro w' hS)
      refine ⟨congrArg Value.bool ?_, hS.toKeep⟩
      have e1 : la.take i = la := List.take_of_length_le (by omega)
      have e2 : lb.take i = lb := List.take_of_length_le (by omega)
      rw [e1, e2] at heq
      simp [heq]
/-- A joiner that is none. -/
def noneJ (w : World) (p : Option Addr) : Prop := p = none ∨ ∃ b, p = some ⟨b, 0, none⟩ ∧ Rd w (some ⟨b, 0, none⟩) [.map none]
theorem g48n (p : Option Addr) (w : World) (h : noneJ w p) : CallsTo Try.prog 48 [.pointer p] w fun v w' => v = .bool true ∧ Grew w w' := by
  rcases h with rfl | ⟨b, rfl, hr⟩
  · refine go_in (n := 12) (St.refl _ NoF) Try.func48 rfl rfl ?_
    repeat'(first|(apply kp;iterate 2 exact rfl)|apply jJ|(apply jE;exact rfl)|(apply jp;exact rfl)|(apply jc;kernel_rfl)|((first|apply kf|apply kn|apply ke|apply kx|apply kc|apply kb);iterate 2 exact rfl)|((first|apply kz|apply ky);(·exact rfl);(·repeat(first|exact iO|exact iR rfl|apply iT));iterate 2 exact rfl)|(apply kg;iterate 2 exact rfl)|(apply kG;iterate 3 exact rfl)|(apply kB;(iterate 2 exact rfl);intro _)|(apply kA;exact rfl;intro _)|(apply kK;(iterate 4 exact rfl);intro _)|(apply kU;(iterate 2 exact rfl);(·repeat(first|exact sH _ _ _|apply sT));(first|exact nfL_eq rfl|exact rfl);exact rfl)|((first|apply kh|apply kl);(iterate 2 exact rfl);(first|decide|omega);exact rfl)|((first|(apply kR;iterate 2 exact rfl)|(apply kQ;exact rfl));all_goals(intro hc;try simp only[hcs]at hc;try(exfalso;first|contradiction|omega))))
    all_goals (
      (apply ret1; (· exact rfl); intro w' hS)
      exact ⟨rfl, hS.toKeep⟩)
  · refine go_in (n := 12) (St.rd1 hr) Try.func48 rfl rfl ?_
    repeat'(first|(apply kp;iterate 2 exact rfl)|apply jJ|(apply jE;exact rfl)|(apply jp;exact rfl)|(apply jc;kernel_rfl)|((first|apply kf|apply kn|apply ke|apply kx|apply kc|apply kb);iterate 2 exact rfl)|((first|apply kz|apply ky);(·exact rfl);(·repeat(first|exact iO|exact iR rfl|apply iT));iterate 2 exact rfl)|(apply kg;iterate 2 exact rfl)|(apply kG;iterate 3 exact rfl)|(apply kB;(iterate 2 exact rfl);intro _)|(apply kA;exact rfl;intro _)|(apply kK;(iterate 4 exact rfl);intro _)|(apply kU;(iterate 2 exact rfl);(·repeat(first|exact sH _ _ _|apply sT));(first|exact nfL_eq rfl|exact rfl);exact rfl)|((first|apply kh|apply kl);(iterate 2 exact rfl);(first|decide|omega);exact rfl)|(apply LR.ev; (· apply Ev.map_nil; (· exact rfl); (· exact rfl)); (· exact rfl))|((first|(apply kR;iterate 2 exact rfl)|(apply kQ;exact rfl));all_goals(intro hc;try simp only[hcs]at hc;try(exfalso;first|contradiction|omega))))
    all_goals (
      (apply ret1; (· exact rfl); intro w' hS)
      exact ⟨rfl, hS.toKeep⟩)
theorem g24n (p : Option Addr) (w : World) (h : noneJ w p) : CallsTo Try.prog 24 [.pointer p] w fun v w' => v = .int .i64 0 ∧ Grew w w' := by
  refine CallsTo.mono (show CallsTo Try.prog 24 [.pointer p] w fun v w' => v = .int .i64 0 ∧ Grew w w' from ?_) (fun _ _ h => h)
  rcases h with rfl | ⟨b, rfl, hr⟩
  · refine go_in (n := 10) (St.refl _ NoF) Try.func24 rfl rfl ?_
    repeat'(first|(apply kp;iterate 2 exact rfl)|apply jJ|(apply jE;exact rfl)|(apply jp;exact rfl)|(apply jc;kernel_rfl)|((first|apply kf|apply kn|apply ke|apply kx|apply kc|apply kb);iterate 2 exact rfl)|((first|apply kz|apply ky);(·exact rfl);(·repeat(first|exact iO|exact iR rfl|apply iT));iterate 2 exact rfl)|(apply kg;iterate 2 exact rfl)|(apply kG;iterate 3 exact rfl)|(apply kB;(iterate 2 exact rfl);intro _)|(apply kA;exact rfl;intro _)|(apply kK;(iterate 4 exact rfl);intro _)|(apply kU;(iterate 2 exact rfl);(·repeat(first|exact sH _ _ _|apply sT));(first|exact nfL_eq rfl|exact rfl);exact rfl)|((first|apply kh|apply kl);(iterate 2 exact rfl);(first|decide|omega);exact rfl)|(apply kq; (· exact rfl); (· intro w1 h1; exact CallsTo.q (g48n none w1 (Or.inl rfl)) h1))|((first|(apply kR;iterate 2 exact rfl)|(apply kQ;exact rfl));all_goals(intro hc;try simp only[hcs]at hc;try(exfalso;first|contradiction|omega))))
    (apply ret1; (· exact rfl); intro w' hS)
    exact ⟨rfl, hS.toKeep⟩
  · refine go_in (n := 10) (St.rd1 hr) Try.func24 rfl rfl ?_
    repeat'(first|(apply kp;iterate 2 exact rfl)|apply jJ|(apply jE;exact rfl)|(apply jp;exact rfl)|(apply jc;kernel_rfl)|((first|apply kf|apply kn|apply ke|apply kx|apply kc|apply kb);iterate 2 exact rfl)|((first|apply kz|apply ky);(·exact rfl);(·repeat(first|exact iO|exact iR rfl|apply iT));iterate 2 exact rfl)|(apply kg;iterate 2 exact rfl)|(apply kG;iterate 3 exact rfl)|(apply kB;(iterate 2 exact rfl);intro _)|(apply kA;exact rfl;intro _)|(apply kK;(iterate 4 exact rfl);intro _)|(apply kU;(iterate 2 exact rfl);(·repeat(first|exact sH _ _ _|apply sT));(first|exact nfL_eq rfl|exact rfl);exact rfl)|((first|apply kh|apply kl);(iterate 2 exact rfl);(first|decide|omega);exact rfl)|(apply kq; (· exact rfl); (· intro w1 h1; exact CallsTo.q (g48n (some ⟨b, 0, none⟩) w1 (Or.inr ⟨b, rfl, h1.rd_of (by (repeat (first | exact mH _ _ | apply mT)))⟩)) h1))|((first|(apply kR;iterate 2 exact rfl)|(apply kQ;exact rfl));all_goals(intro hc;try simp only[hcs]at hc;try(exfalso;first|contradiction|omega))))
    (apply ret1; (· exact rfl); intro w' hS)
    exact ⟨rfl, hS.toKeep⟩
theorem g22n (p : Option Addr) (m : Msg) (a : Option Addr) (c : Nat) (w : World) (h : noneJ w p) : CallsTo Try.prog 22 [.pointer p, m.val a c] w fun v w' => v = .tuple [.slice none 0 0, .bool false, .int .i64 1].toArray ∧ Grew w w' := by
  rcases h with rfl | ⟨b, rfl, hr⟩
  · refine go_in (n := 75) (St.refl _ NoF) Try.func22 rfl rfl ?_
    repeat'(first|(apply kp;iterate 2 exact rfl)|apply jJ|(apply jE;exact rfl)|(apply jp;exact rfl)|(apply jc;kernel_rfl)|((first|apply kf|apply kn|apply ke|apply kx|apply kc|apply kb);iterate 2 exact rfl)|((first|apply kz|apply ky);(·exact rfl);(·repeat(first|exact iO|exact iR rfl|apply iT));iterate 2 exact rfl)|(apply kg;iterate 2 exact rfl)|(apply kG;iterate 3 exact rfl)|(apply kB;(iterate 2 exact rfl);intro _)|(apply kA;exact rfl;intro _)|(apply kK;(iterate 4 exact rfl);intro _)|(apply kU;(iterate 2 exact rfl);(·repeat(first|exact sH _ _ _|apply sT));(first|exact nfL_eq rfl|exact rfl);exact rfl)|((first|apply kh|apply kl);(iterate 2 exact rfl);(first|decide|omega);exact rfl)|(apply kq; (· exact rfl); (· intro w1 h1; exact CallsTo.q (g48n none w1 (Or.inl rfl)) h1))|((first|(apply kR;iterate 2 exact rfl)|(apply kQ;exact rfl));all_goals(intro hc;try simp only[hcs]at hc;try(exfalso;first|contradiction|omega))))
    (apply ret3; (· exact rfl); intro w' hS)
    exact ⟨rfl, hS.toKeep⟩
  · refine go_in (n := 75) (St.rd1 hr) Try.func22 rfl rfl ?_
    repeat'(first|(apply kp;iterate 2 exact rfl)|apply jJ|(apply jE;exact rfl)|(apply jp;exact rfl)|(apply jc;kernel_rfl)|((first|apply kf|apply kn|apply ke|apply kx|apply kc|apply kb);iterate 2 exact rfl)|((first|apply kz|apply ky);(·exact rfl);(·repeat(first|exact iO|exact iR rfl|apply iT));iterate 2 exact rfl)|(apply kg;iterate 2 exact rfl)|(apply kG;iterate 3 exact rfl)|(apply kB;(iterate 2 exact rfl);intro _)|(apply kA;exact rfl;intro _)|(apply kK;(iterate 4 exact rfl);intro _)|(apply kU;(iterate 2 exact rfl);(·repeat(first|exact sH _ _ _|apply sT));(first|exact nfL_eq rfl|exact rfl);exact rfl)|((first|apply kh|apply kl);(iterate 2 exact rfl);(first|decide|omega);exact rfl)|(apply kq; (· exact rfl); (· intro w1 h1; exact CallsTo.q (g48n (some ⟨b, 0, none⟩) w1 (Or.inr ⟨b, rfl, h1.rd_of (by (repeat (first | exact mH _ _ | apply mT)))⟩)) h1))|((first|(apply kR;iterate 2 exact rfl)|(apply kQ;exact rfl));all_goals(intro hc;try simp only[hcs]at hc;try(exfalso;first|contradiction|omega))))
    (apply ret3; (· exact rfl); intro w' hS)
    exact ⟨rfl, hS.toKeep⟩
end Go.Proofs.Ytphcnaafhcfakaa

namespace Go.Proofs.Ytphcnaafhcfakaa
open Go.Hb
attribute [local irreducible] LR CW At Ev thn blk finK noG again CallsTo DW QL dnext TW DP
set_option linter.unusedSimpArgs false
set_option linter.unusedVariables false
set_option maxRecDepth 100000

theorem DW.sub {P : Program} {n : Nat} {ops : List Oper} {Q : Post} {done : List Nat} {S C D : World → Prop} {f : Frm} (h : DW P n ops Q done S f D) (hs : ∀ w, C w → D w) : DW P n ops Q done S f C := by
  unfold DW at h ⊢
  exact fun w hw => h w (hs w hw)
def tA (i : Nat) : Msg := partM (pieceT 1 1) 3 (bytesL 100 0) i
def tD (i : Nat) : Msg := partM (pieceT 1 2) 2 (bytesL 60 9) i
theorem ok21 : splitOk (pieceT 2 1) := by decide +kernel
theorem spA : splitE (pieceT 1 1) (bytesL 100 0).length = 0 ∧ splitR (pieceT 1 1) (bytesL 100 0) = [tA 0, tA 1, tA 2] := by
  have h := splitE_ok (m := pieceT 1 1) (n := (bytesL 100 0).length) (by decide +kernel) (by decide +kernel)
  refine ⟨h, ?_⟩
  rw [splitR, h, if_pos rfl]
  kernel_rfl
theorem spD : splitE (pieceT 1 2) (bytesL 60 9).length = 0 ∧ splitR (pieceT 1 2) (bytesL 60 9) = [tD 0, tD 1] := by
  have h := splitE_ok (m := pieceT 1 2) (n := (bytesL 60 9).length) (by decide +kernel) (by decide +kernel)
  refine ⟨h, ?_⟩
  rw [splitR, h, if_pos rfl]
  kernel_rfl
theorem sp201 : splitE (pieceT 2 1) 201 = 5 := splitE_big ok21 (by omega)
def badM (k o li pt ps gr sq : Int) (b : List Int) : Msg := ⟨k, o, li, 0, pt, ps, gr, false, 0, 0, 0, sq, b⟩
def bads (bb : Nat) : List MsgA := [⟨badM 0 0 0 0 0 0 0 [], none, 0⟩, ⟨badM 2 1 0 0 0 0 0 [], none, 0⟩, ⟨badM 1 1 1 0 1 1 0 [], none, 0⟩, ⟨badM 1 1 1 1 0 1 0 [], none, 0⟩, ⟨badM 1 1 1 0 0 1 0 [1], some ⟨bb, 0, none⟩, 1⟩, ⟨badM 1 1 1 0 0 1 1 [], none, 0⟩, ⟨badM 1 9 1 0 0 1 0 [], none, 0⟩, ⟨badM 1 1 0 0 0 1 0 [], none, 0⟩, ⟨badM 1 1 1 0 0 0 0 [], none, 0⟩]
theorem bads_rd {bb : Nat} {x : MsgA} (hx : x ∈ bads bb) : (∀ w : World, Rd w (some ⟨bb, 0, none⟩) [.int .u8 1] → Rd w x.a (bv x.m.body)) ∧ (x.a = none → x.c = 0) ∧ x.m.body.length ≤ 1 ∧ Byt x.m.body ∧ splitE x.m 300 = 2 := by
  have he : ∀ m : Msg, ¬ splitOk m → splitE m 300 = 2 := fun m h => splitE_bad h
  simp only [bads, List.mem_cons, List.not_mem_nil, or_false] at hx
  rcases hx with rfl | rfl | rfl | rfl | rfl | rfl | rfl | rfl | rfl
  all_goals (refine ⟨fun w h => ?_, fun e => ?_, by dsimp only; decide, by simp [Byt, badM], he _ (by dsimp only; decide +kernel)⟩ <;> first | exact h | exact Rd.nil _ _ | rfl | cases e)
theorem mk300 : (List.replicate 300 [Value.int .u8 0]).flatten = bv (List.replicate 300 0) := by rfl
def seqM : List Msg := [tA 0, tA 2, tA 1, tA 0, tD 0, tD 1, tD 0, { tD 0 with life := 2 }, tD 1, tD 0, { tD 1 with safe := true }, tD 1, tD 0, { tD 1 with groups := 7 }, tD 0, tD 0, tD 1, tA 0, tA 1, tA 1, tA 2]
def seqA (x0 x1 x2 y0 y1 : Option Addr × Nat) : List MsgA :=
  [⟨tA 0, x0.1, x0.2⟩, ⟨tA 2, x2.1, x2.2⟩, ⟨tA 1, x1.1, x1.2⟩, ⟨tA 0, x0.1, x0.2⟩, ⟨tD 0, y0.1, y0.2⟩, ⟨tD 1, y1.1, y1.2⟩, ⟨tD 0, y0.1, y0.2⟩, ⟨{ tD 0 with life := 2 }, y0.1, y0.2⟩, ⟨tD 1, y1.1, y1.2⟩, ⟨tD 0, y0.1, y0.2⟩, ⟨{ tD 1 with safe := true }, y1.1, y1.2⟩, ⟨tD 1, y1.1, y1.2⟩, ⟨tD 0, y0.1, y0.2⟩, ⟨{ tD 1 with groups := 7 }, y1.1, y1.2⟩, ⟨tD 0, y0.1, y0.2⟩, ⟨tD 0, y0.1, y0.2⟩, ⟨tD 1, y1.1, y1.2⟩, ⟨tA 0, x0.1, x0.2⟩, ⟨tA 1, x1.1, x1.2⟩, ⟨tA 1, x1.1, x1.2⟩, ⟨tA 2, x2.1, x2.2⟩]
def stA (j : Nat) : Jn := (seqM.take j).foldl (fun A m => (putJ A m).A) []
def wantL : List Int := [1, 0, 0, 1, 1, 10, 1, 2, 11, 2, 1, 1, 2, 1, 2, 2, 11, 2, 2, 1, 1]
theorem stA_succ {j : Nat} (h : j < 21) : stA (j + 1) = (putJ (stA j) (seqM.getD j zeroMsg)).A := by
  have h' : j < seqM.length := h
  rw [stA, stA, List.take_succ_eq_append_getElem h', List.foldl_append, List.getD_eq_getElem?_getD, List.getElem?_eq_getElem h']
  rfl
def seqOk (j : Nat) : Bool := decide ((putJ (stA j) (seqM.getD j zeroMsg)).e = 0 ∧ (((putJ (stA j) (seqM.getD j zeroMsg)).A.length : Nat) : Int) + (if (putJ (stA j) (seqM.getD j zeroMsg)).is = true then 10 else 0) = wantL.getD j 0 ∧ (putJ (stA j) (seqM.getD j zeroMsg)).A.length ≤ 21)
theorem seq_all : (List.range 21).all seqOk = true := by decide +kernel
theorem seq_at {j : Nat} (h : j < 21) : (putJ (stA j) (seqM.getD j zeroMsg)).e = 0 ∧ (((putJ (stA j) (seqM.getD j zeroMsg)).A.length : Nat) : Int) + (if (putJ (stA j) (seqM.getD j zeroMsg)).is = true then 10 else 0) = wantL.getD j 0 ∧ (putJ (stA j) (seqM.getD j zeroMsg)).A.length ≤ 21 :=
  of_decide_eq_true (List.all_eq_true.1 seq_all j (List.mem_range.2 h))
theorem part_byt (m : Msg) (P n q i : Nat) : Byt (partM m P (bytesL n q) i).body ∧ (partM m P (bytesL n q) i).body.length ≤ 48 := ⟨chunk_byt (bytesL_byt _ _) _, by show (chunk _ i).length ≤ 48; rw [chunk_len]; omega⟩
/-- A message like one of one's own, lent to a joiner. -/
theorem put_like {w0 w1 : World} {L R : List Asrt} {b r : Nat} {ws : List WayA} {l : List MsgA} (x y : MsgA) (h0 : St w0 NoF L w1) (hf : St w0 NoF L w1 → St w0 NoF (bunB l :: R) w1) (hj : jO b r ws ∈ R) (hok : WsOk ws) (hy : y ∈ l) (hb : Byt y.m.body ∧ y.m.body.length ≤ 48) (ea : x.a = y.a) (ec : x.c = y.c) (eb : x.m.body = y.m.body) :
    CallsTo Try.prog 22 [.pointer (some ⟨b, 0, none⟩), x.m.val x.a x.c] w1 fun v w' => ∃ pa pc ws', v = .tuple [.slice pa (putJ (ws.map WayA.kl) x.m).out.length pc, .bool (putJ (ws.map WayA.kl) x.m).is, .int .i64 (putJ (ws.map WayA.kl) x.m).e].toArray ∧ ws'.map WayA.kl = (putJ (ws.map WayA.kl) x.m).A ∧ WsOk ws' ∧
      St w1 (jO b r ws).foot [jO b r ws', osl (.slice pa (putJ (ws.map WayA.kl) x.m).out.length pc) 5 1 (putJ (ws.map WayA.kl) x.m).out.length (bv (putJ (ws.map WayA.kl) x.m).out)] w' := by
  have h1 := hf h0
  have hB := (h1.g0.1 y hy : y.body.holds w1)
  exact g22 b r ws x.m x.a x.c w1 (h1.holds _ (List.Mem.tail _ hj)) hok (by rw [ea, eb]; exact ownsRow_rd hB) (fun e => by rw [ec]; exact (ownsRow_some hB (by rw [← ea]; exact e)).2) (by rw [eb]; omega) (by rw [eb]; exact hb.1) (fun k hk => h1.apart hj rfl k (bun_foot hy (by rw [ea, eb] at hk; exact hk)))
theorem put_two {w0 w1 : World} {L R2 R3 : List Asrt} {b r : Nat} {ws : List WayA} {l2 l3 : List MsgA} (x y : MsgA) (h0 : St w0 NoF L w1) (hf2 : St w0 NoF L w1 → St w0 NoF (bunB l2 :: R2) w1) (hf3 : St w0 NoF L w1 → St w0 NoF (bunB l3 :: R3) w1) (hj2 : jO b r ws ∈ R2) (hj3 : jO b r ws ∈ R3) (hok : WsOk ws) (hy : y ∈ l2 ∨ y ∈ l3) (hb : Byt y.m.body ∧ y.m.body.length ≤ 48) (ea : x.a = y.a) (ec : x.c = y.c) (eb : x.m.body = y.m.body) :
    CallsTo Try.prog 22 [.pointer (some ⟨b, 0, none⟩), x.m.val x.a x.c] w1 fun v w' => ∃ pa pc ws', v = .tuple [.slice pa (putJ (ws.map WayA.kl) x.m).out.length pc, .bool (putJ (ws.map WayA.kl) x.m).is, .int .i64 (putJ (ws.map WayA.kl) x.m).e].toArray ∧ ws'.map WayA.kl = (putJ (ws.map WayA.kl) x.m).A ∧ WsOk ws' ∧
      St w1 (jO b r ws).foot [jO b r ws', osl (.slice pa (putJ (ws.map WayA.kl) x.m).out.length pc) 5 1 (putJ (ws.map WayA.kl) x.m).out.length (bv (putJ (ws.map WayA.kl) x.m).out)] w' := by
  rcases hy with hy | hy
  · exact put_like x y h0 hf2 hj2 hok hy hb ea ec eb
  · exact put_like x y h0 hf3 hj3 hok hy hb ea ec eb
theorem putX0 : putJ [] (tD 0) = ⟨[((1, 1), [tD 0])], [], false, 0⟩ := by kernel_rfl
theorem putX1 : putJ [((1, 1), [tD 0])] { tD 1 with id := 5 } = ⟨[], [], false, 0⟩ := by kernel_rfl
def oneP : Msg := ⟨1, 1, 1, 0, 0, 1, 1, false, 0, 0, 0, 0, []⟩
theorem putX2 : putJ [] oneP = ⟨[], [], true, 0⟩ := by kernel_rfl
end Go.Proofs.Ytphcnaafhcfakaa
