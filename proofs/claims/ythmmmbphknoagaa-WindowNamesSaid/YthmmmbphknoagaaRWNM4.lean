/-
  Windows beside the reference's.
-/
import Derived.Test.YthmmmbphknoagaaRWNM3
import Derived.Lib.SlKeysI

namespace Go.Proofs.Ythmmmbphknoagaa
open Go.Hb
attribute [local irreducible] LR CW At Ev thn blk finK noG again CallsTo DW QL dnext TW DP
set_option linter.unusedSimpArgs false
set_option linter.unusedVariables false
set_option maxRecDepth 100000

set_option maxHeartbeats 1000000 in
theorem t41 (a b : Option Addr) (c d : Nat) (l r : List DaA) (w : World) (hl : Rd w a (l.flatMap DaA.row)) (hr : Rd w b (r.flatMap DaA.row)) (hL : ∀ x ∈ l, Rd w x.a (bv x.d.msg.body) ∧ x.d.msg.body.length ≤ 140737488355328) (hR : ∀ x ∈ r, Rd w x.a (bv x.d.msg.body)) (he : dats l = dats r) (hm : l.length ≤ 140737488355328) :
    CallsTo Try.prog 41 [.slice a l.length c, .slice b r.length d] w fun v w' => v = .bool true ∧ Grew w w' := by
  have hn : l.length = r.length := by have := congrArg List.length he; simpa [dats] using this
  rw [← hn]
  refine go_in (n := 27) (St.rd2 hl hr) Try.func41 rfl rfl ?_
  repeat'(first|(apply kp;iterate 2 exact rfl)|apply jJ|(apply jE;exact rfl)|(apply jp;exact rfl)|(apply jc;kernel_rfl)|((first|apply kf|apply kn|apply ke|apply kx|apply kc|apply kb);iterate 2 exact rfl)|((first|apply kz|apply ky);(·exact rfl);(·repeat(first|exact iO|exact iR rfl|apply iT));iterate 2 exact rfl)|(apply kg;iterate 2 exact rfl)|(apply kG;iterate 3 exact rfl)|(apply kB;(iterate 2 exact rfl);intro _)|(apply kA;exact rfl;intro _)|(apply Go.Hb.kK;(iterate 4 exact rfl);intro _)|(apply kU;(iterate 2 exact rfl);(·repeat(first|exact sH _ _ _|apply sT));(first|exact nfL_eq rfl|exact rfl);exact rfl)|((first|apply kh|apply kl);(iterate 2 exact rfl);(first|decide|omega);exact rfl)|((first|(apply kR;iterate 2 exact rfl)|(apply kQ;exact rfl));all_goals(intro hc;try simp only[hcs]at hc;try(exfalso;first|contradiction|omega))))
  apply CW.loop [4, 5, 11, 12, 13, 14, 15, 16, 17, 18, 19, 20, 21, 22, 23, 24, 25, 26] (fun i : Nat => i ≤ l.length) (fun i => [(5, Value.int .i64 (i : Int))]) (fun i => St w NoF [rdA a (l.flatMap DaA.row), rdA b (r.flatMap DaA.row)]) (fun i => l.length - i)
  · exact fun w' hw' => ⟨0, by simp, ⟨rfl, trivial⟩, hw'⟩
  intro i g hi
  by_cases hlt : i < l.length
  · have hlr : i < r.length := by omega
    obtain ⟨ba, oa, rfl⟩ := hl.form (rows_ne DaA.row_len (by omega) hlt)
    obtain ⟨bb, ob, rfl⟩ := hr.form (rows_ne DaA.row_len (by omega) hlr)
    have hek : l[i].d = r[i].d := by
      have := congrArg (fun z => z[i]?) he
      simpa [dats, hlt, hlr] using this
    have hx := hL _ (List.getElem_mem hlt)
    have hy := hR _ (List.getElem_mem hlr)
    repeat'(first|(apply CW.reg_heldC)|(apply kp;iterate 2 exact rfl)|apply jJ|(apply jE;exact rfl)|(apply jp;exact rfl)|(apply jc;kernel_rfl)|((first|apply kf|apply kn|apply ke|apply kx|apply kc|apply kb);iterate 2 exact rfl)|((first|apply kz|apply ky);(·exact rfl);(·repeat(first|exact iO|exact iR rfl|apply iT));iterate 2 exact rfl)|(apply kg;iterate 2 exact rfl)|(apply kG;iterate 3 exact rfl)|(apply kB;(iterate 2 exact rfl);intro _)|(apply kA;exact rfl;intro _)|(apply Go.Hb.kK;(iterate 4 exact rfl);intro _)|(apply kU;(iterate 2 exact rfl);(·repeat(first|exact sH _ _ _|apply sT));(first|exact nfL_eq rfl|exact rfl);exact rfl)|((first|apply kh|apply kl);(iterate 2 exact rfl);(first|decide|omega);exact rfl)|((first|(apply kR;iterate 2 exact rfl)|(apply kQ;exact rfl));all_goals(intro hc;try simp only[hcs]at hc;try(exfalso;first|contradiction|omega))))
    all_goals (
      apply DW.quiet [0, 1, 2, 3, 4, 5, 6, 7]
      · decide +kernel
      · first | exact fun _ h => h | exact fun _ h => St.sub h (by repeat (first | exact List.Sublist.refl _ | apply List.Sublist.cons_cons | apply List.Sublist.cons))
      repeat'(first|(apply yp;iterate 3 exact rfl)|(apply QL.ev;(·exact rfl);(·first|((first|apply Ez|apply Ey);(·exact rfl);(·repeat(first|exact iO|exact iR rfl|apply iT));exact rfl)|((first|apply Ev.fieldAddr|apply Ev.len|apply EqOf.eq|apply EqOf.ne|apply Ev.conv|apply Ev.buildN);exact rfl)|((first|apply Ev.shr|apply Ev.shl);(iterate 2 exact rfl);first|decide|omega));·exact rfl)|(apply QL.ev; (· exact rfl); (· first | (apply Ev.indexAddr; (· exact rfl); (· exact rfl); (· omega); (· omega)) | (apply Ev.load_agg_at (cs := l[i].row); (· exact rfl); (· exact rfl); (· intro w' hw'; exact rd_row DaA.row_len (hw'.rd_of (mH _ _)) hlt (by simp))) | (apply Ev.load_agg_at (cs := r[i].row); (· exact rfl); (· exact rfl); (· intro w' hw'; exact rd_row DaA.row_len (hw'.rd_of (mT _ (mH _ _))) hlr (by simp)))); (· exact rfl))|(apply yq;iterate 5 exact rfl)|(apply QL.evg;(iterate 3 exact rfl);(·first|((first|apply Ez|apply Ey);(·exact rfl);(·repeat(first|exact iO|exact iR rfl|apply iT));exact rfl)|((first|apply Ev.fieldAddr|apply Ev.len|apply EqOf.eq|apply EqOf.ne|apply Ev.conv|apply Ev.buildN);exact rfl)|((first|apply Ev.shr|apply Ev.shl);(iterate 2 exact rfl);first|decide|omega));·exact rfl)|(apply yn;iterate 4 exact rfl)|((apply QL.split;iterate 3 exact rfl);all_goals(intro hc;try simp only[hcs]at hc;try(exfalso;first|contradiction|omega)))|apply QL.nil)
      all_goals (show DW _ _ _ _ _ _ _ _))
    all_goals (
      apply DW.loud 8
      · exact rfl
      · decide +kernel
      repeat'(first|(apply kg;iterate 2 exact rfl)|(apply kG;iterate 3 exact rfl)|apply kM|(apply kp;iterate 2 exact rfl)|((first|apply kz|apply ky);(·exact rfl);(·repeat(first|exact iO|exact iR rfl|apply iT));iterate 2 exact rfl)|(apply Go.Hb.kK;(iterate 4 exact rfl);intro _)|(apply kU;(iterate 2 exact rfl);(·repeat(first|exact sH _ _ _|apply sT));(first|exact nfL_eq rfl|exact rfl);exact rfl)|(apply kB;(iterate 2 exact rfl);intro _)|(apply kA;exact rfl;intro _)|(apply kq; (· exact rfl); (· intro w1 h1; have hq := CallsTo.q (c84 l[i].d r[i].d l[i].a r[i].a l[i].c r[i].c w1 (h1.oldRd hx.1) (h1.oldRd hy) hx.2) h1; rw [show sameD l[i].d r[i].d = true by rw [hek]; exact sameD_self _] at hq; show CallsTo Try.prog 31 [l[i].d.val l[i].a l[i].c, r[i].d.val r[i].a r[i].c] w1 _; exact hq)))
      all_goals (refine At.stage_same (fun _ h => St.sub h (by repeat (first | exact List.Sublist.refl _ | apply List.Sublist.cons_cons | apply List.Sublist.cons))) ?_))
    all_goals (
      apply DW.quiet [9]
      · decide +kernel
      · first | exact fun _ h => h | exact fun _ h => St.sub h (by repeat (first | exact List.Sublist.refl _ | apply List.Sublist.cons_cons | apply List.Sublist.cons))
      repeat'(first|(apply yp;iterate 3 exact rfl)|(apply QL.ev;(·exact rfl);(·first|((first|apply Ez|apply Ey);(·exact rfl);(·repeat(first|exact iO|exact iR rfl|apply iT));exact rfl)|((first|apply Ev.fieldAddr|apply Ev.len|apply EqOf.eq|apply EqOf.ne|apply Ev.conv|apply Ev.buildN);exact rfl)|((first|apply Ev.shr|apply Ev.shl);(iterate 2 exact rfl);first|decide|omega));·exact rfl)|(apply QL.ev; (· exact rfl); (· first | (apply Ev.indexAddr; (· exact rfl); (· exact rfl); (· omega); (· omega)) | (apply Ev.load_agg_at (cs := l[i].row); (· exact rfl); (· exact rfl); (· intro w' hw'; exact rd_row DaA.row_len (hw'.rd_of (mH _ _)) hlt (by simp))) | (apply Ev.load_agg_at (cs := r[i].row); (· exact rfl); (· exact rfl); (· intro w' hw'; exact rd_row DaA.row_len (hw'.rd_of (mT _ (mH _ _))) hlr (by simp)))); (· exact rfl))|(apply yq;iterate 5 exact rfl)|(apply QL.evg;(iterate 3 exact rfl);(·first|((first|apply Ez|apply Ey);(·exact rfl);(·repeat(first|exact iO|exact iR rfl|apply iT));exact rfl)|((first|apply Ev.fieldAddr|apply Ev.len|apply EqOf.eq|apply EqOf.ne|apply Ev.conv|apply Ev.buildN);exact rfl)|((first|apply Ev.shr|apply Ev.shl);(iterate 2 exact rfl);first|decide|omega));·exact rfl)|(apply yn;iterate 4 exact rfl)|((apply QL.split;iterate 3 exact rfl);all_goals(intro hc;try simp only[hcs]at hc;try(exfalso;first|contradiction|omega)))|apply QL.nil)
      all_goals (show DW _ _ _ _ _ _ _ _))
    all_goals (first | (apply DW.done_thn; (· decide +kernel)) | (apply DW.done; (· decide +kernel)))
    repeat'(first|(apply kp;iterate 2 exact rfl)|apply jJ|(apply jE;exact rfl)|(apply jp;exact rfl)|(apply jc;kernel_rfl)|((first|apply kf|apply kn|apply ke|apply kx|apply kc|apply kb);iterate 2 exact rfl)|((first|apply kz|apply ky);(·exact rfl);(·repeat(first|exact iO|exact iR rfl|apply iT));iterate 2 exact rfl)|(apply kg;iterate 2 exact rfl)|(apply kG;iterate 3 exact rfl)|(apply kB;(iterate 2 exact rfl);intro _)|(apply kA;exact rfl;intro _)|(apply Go.Hb.kK;(iterate 4 exact rfl);intro _)|(apply kU;(iterate 2 exact rfl);(·repeat(first|exact sH _ _ _|apply sT));(first|exact nfL_eq rfl|exact rfl);exact rfl)|((first|apply kh|apply kl);(iterate 2 exact rfl);(first|decide|omega);exact rfl)|(apply addX;(iterate 2 exact rfl);(iterate 2(first|omega|(dsimp only;omega)));exact rfl)|((first|(apply kR;iterate 2 exact rfl)|(apply kQ;exact rfl));all_goals(intro hc;try simp only[hcs]at hc;try(exfalso;first|contradiction|omega))))
    apply At.again (i + 1)
    · show i + 1 ≤ _
      omega
    · (repeat (first | exact Out.refl _ _ | exact Out.mix | (apply Out.upd; (· exact rfl)) | (apply Out.updL; (· exact rfl)) | (apply Out.mixs; (· exact rfl))))
    · exact ⟨rfl, trivial⟩
    · exact fun w' hw' => hw'
    · show l.length - (i + 1) < l.length - i
      omega
  · repeat'(first|(apply kp;iterate 2 exact rfl)|apply jJ|(apply jE;exact rfl)|(apply jp;exact rfl)|(apply jc;kernel_rfl)|((first|apply kf|apply kn|apply ke|apply kx|apply kc|apply kb);iterate 2 exact rfl)|((first|apply kz|apply ky);(·exact rfl);(·repeat(first|exact iO|exact iR rfl|apply iT));iterate 2 exact rfl)|(apply kg;iterate 2 exact rfl)|(apply kG;iterate 3 exact rfl)|(apply kB;(iterate 2 exact rfl);intro _)|(apply kA;exact rfl;intro _)|(apply Go.Hb.kK;(iterate 4 exact rfl);intro _)|(apply kU;(iterate 2 exact rfl);(·repeat(first|exact sH _ _ _|apply sT));(first|exact nfL_eq rfl|exact rfl);exact rfl)|((first|apply kh|apply kl);(iterate 2 exact rfl);(first|decide|omega);exact rfl)|((first|(apply kR;iterate 2 exact rfl)|(apply kQ;exact rfl));all_goals(intro hc;try simp only[hcs]at hc;try(exfalso;first|contradiction|omega))))
    (apply ret1; (· exact rfl); intro w' hS)
    exact ⟨rfl, hS.toKeep⟩
def oneD (n : Int) : Dat := ⟨1, 1, n, 1, 0, ⟨3, 1, 0, n, 0, 0, 0, false, 0, 0, 0, 0, []⟩⟩
theorem t44 (n : Int) (w : World) : CallsTo Try.prog 44 [.int .i64 n] w fun v w' => v = (oneD n).val none 0 ∧ Grew w w' := by
  refine go_in (n := 8) (St.refl _ NoF) Try.func44 rfl rfl ?_
  repeat'(first|(apply kp;iterate 2 exact rfl)|apply jJ|(apply jE;exact rfl)|(apply jp;exact rfl)|(apply jc;kernel_rfl)|((first|apply kf|apply kn|apply ke|apply kx|apply kc|apply kb);iterate 2 exact rfl)|((first|apply kz|apply ky);(·exact rfl);(·repeat(first|exact iO|exact iR rfl|apply iT));iterate 2 exact rfl)|(apply kg;iterate 2 exact rfl)|(apply kG;iterate 3 exact rfl)|(apply kB;(iterate 2 exact rfl);intro _)|(apply kA;exact rfl;intro _)|(apply Go.Hb.kK;(iterate 4 exact rfl);intro _)|(apply kU;(iterate 2 exact rfl);(·repeat(first|exact sH _ _ _|apply sT));(first|exact nfL_eq rfl|exact rfl);exact rfl)|((first|apply kh|apply kl);(iterate 2 exact rfl);(first|decide|omega);exact rfl)|((first|(apply kR;iterate 2 exact rfl)|(apply kQ;exact rfl));all_goals(intro hc;try simp only[hcs]at hc;try(exfalso;first|contradiction|omega))))
  (apply ret1c; (· exact rfl); (· exact inferInstance); (· exact rfl); (· (repeat (first | exact List.Mem.head _ | apply List.Mem.tail))); (· exact rfl); intro w' hS)
  exact ⟨rfl, hS.toKeep⟩
theorem t45 (a : Option Addr) (c : Nat) (l : List DaA) (w : World) (hr : Rd w a (l.flatMap DaA.row)) (hm : l.length ≤ 100000) :
    CallsTo Try.prog 45 [.slice a l.length c] w fun v w' => ∃ a' c', v = .slice a' ((dats l).map Dat.seq).length c' ∧ NewSl w w' (.slice a' ((dats l).map Dat.seq).length c') 3 1 ((dats l).map Dat.seq).length (iv ((dats l).map Dat.seq)) := by
  refine go_in (n := 20) (St.rd1 hr) Try.func45 rfl rfl ?_
  repeat'(first|(apply kp;iterate 2 exact rfl)|apply jJ|(apply jE;exact rfl)|(apply jp;exact rfl)|(apply jc;kernel_rfl)|((first|apply kf|apply kn|apply ke|apply kx|apply kc|apply kb);iterate 2 exact rfl)|((first|apply kz|apply ky);(·exact rfl);(·repeat(first|exact iO|exact iR rfl|apply iT));iterate 2 exact rfl)|(apply kg;iterate 2 exact rfl)|(apply kG;iterate 3 exact rfl)|(apply kB;(iterate 2 exact rfl);intro _)|(apply kA;exact rfl;intro _)|(apply Go.Hb.kK;(iterate 4 exact rfl);intro _)|(apply kU;(iterate 2 exact rfl);(·repeat(first|exact sH _ _ _|apply sT));(first|exact nfL_eq rfl|exact rfl);exact rfl)|((first|apply kh|apply kl);(iterate 2 exact rfl);(first|decide|omega);exact rfl)|((first|(apply kR;iterate 2 exact rfl)|(apply kQ;exact rfl));all_goals(intro hc;try simp only[hcs]at hc;try(exfalso;first|contradiction|omega))))
  apply CW.loop [3, 4, 5, 6, 7, 8, 9, 10, 11, 12, 13, 14, 15, 16, 17, 18] (fun s : Gst => s.k ≤ l.length) (fun s => [(3, .slice s.a ((dats (l.take s.k)).map Dat.seq).length s.c), (4, .int .i64 (s.k : Int))])
    (fun s => St w NoF [il s.a s.c ((dats (l.take s.k)).map Dat.seq), rdA a (l.flatMap DaA.row)]) (fun s => l.length - s.k)
  · intro w' hw'
    exact ⟨⟨0, none, 0⟩, by simp, ⟨rfl, rfl, trivial⟩, hw'.nilsl 3 1⟩
  rintro ⟨k, a2, c2⟩ g1 hk
  simp only at hk ⊢
  have hlen : ((dats (l.take k)).map Dat.seq).length = k := by simp [dats]; omega
  by_cases hlt : k < l.length
  · obtain ⟨bg, og, rfl⟩ := hr.form (rows_ne DaA.row_len (by omega) hlt)
    have hsucc : (dats (l.take (k + 1))).map Dat.seq = (dats (l.take k)).map Dat.seq ++ [l[k].d.seq] := by
      unfold dats
      rw [List.take_add_one, List.getElem?_eq_getElem hlt, List.map_append, List.map_append]
      rfl
    generalize (dats (l.take k)).map Dat.seq = L at hlen hsucc ⊢
    repeat'(first|(apply Go.Hb.kK;(iterate 4 exact rfl);intro bs)|(apply kp;iterate 2 exact rfl)|apply jJ|(apply jE;exact rfl)|(apply jp;exact rfl)|(apply jc;kernel_rfl)|((first|apply kf|apply kn|apply ke|apply kx|apply kc|apply kb);iterate 2 exact rfl)|((first|apply kz|apply ky);(·exact rfl);(·repeat(first|exact iO|exact iR rfl|apply iT));iterate 2 exact rfl)|(apply kg;iterate 2 exact rfl)|(apply kG;iterate 3 exact rfl)|(apply kB;(iterate 2 exact rfl);intro _)|(apply kA;exact rfl;intro _)|(apply Go.Hb.kK;(iterate 4 exact rfl);intro _)|(apply kU;(iterate 2 exact rfl);(·repeat(first|exact sH _ _ _|apply sT));(first|exact nfL_eq rfl|exact rfl);exact rfl)|((first|apply kh|apply kl);(iterate 2 exact rfl);(first|decide|omega);exact rfl)|(apply idxX;(iterate 2 exact rfl);(iterate 2(first|omega|(dsimp only;omega)));exact rfl)|(apply LR.ev; (· apply Ev.load; (· exact rfl); (· exact fun w' hw' => row_cell DaA.row_len (hw'.rd_of (by (repeat (first | exact mH _ _ | apply mT)))) hlt 2 rfl (by omega))); (· exact rfl))|(apply addX;(iterate 2 exact rfl);(iterate 2(first|omega|(dsimp only;omega)));exact rfl)|(apply LR.append (xs := iv L) (news := [Value.int .i64 l[k].d.seq]) (m := 1); (· exact rfl); (· exact rfl); (· intro a' c'; (repeat (first | exact sH _ _ _ | apply sT))); (· exact fun w' hw' => hw'.rd_of_blk (mH _ _)); (· exact fun hx => by cases hx); (· exact rfl); (· exact rfl); (· omega); (· unfold maxLen; omega); (· exact rfl); (intro a3 c3))|((first|(apply kR;iterate 2 exact rfl)|(apply kQ;exact rfl));all_goals(intro hc;try simp only[hcs]at hc;try(exfalso;first|contradiction|omega))))
    refine At.again (⟨k + 1, a3, c3⟩ : Gst) (by simp only; omega) ?_ ⟨?_, rfl, trivial⟩ ?_ (by simp only; omega)
    · (repeat (first | exact Out.refl _ _ | exact Out.mix | (apply Out.upd; (· exact rfl)) | (apply Out.updL; (· exact rfl)) | (apply Out.mixs; (· exact rfl))))
    · simp only
      rw [hsucc]
      simp only [List.length_append, List.length_cons, List.length_nil]
      rfl
    · intro w' hw'
      simp only
      rw [hsucc]
      have e : il a3 c3 (L ++ [l[k].d.seq]) = osl (.slice a3 (L.length + 1) c3) 3 1 (L.length + 1) (iv L ++ [Value.int .i64 l[k].d.seq]) := by simp [il, iv]
      rw [e]
      exact hw'.sub (by (repeat (first | exact List.Sublist.refl _ | apply List.Sublist.cons_cons | apply List.Sublist.cons)))
  · have hke : k = l.length := by omega
    subst hke
    rw [List.take_length] at hlen ⊢
    repeat'(first|(apply kp;iterate 2 exact rfl)|apply jJ|(apply jE;exact rfl)|(apply jp;exact rfl)|(apply jc;kernel_rfl)|((first|apply kf|apply kn|apply ke|apply kx|apply kc|apply kb);iterate 2 exact rfl)|((first|apply kz|apply ky);(·exact rfl);(·repeat(first|exact iO|exact iR rfl|apply iT));iterate 2 exact rfl)|(apply kg;iterate 2 exact rfl)|(apply kG;iterate 3 exact rfl)|(apply kB;(iterate 2 exact rfl);intro _)|(apply kA;exact rfl;intro _)|(apply Go.Hb.kK;(iterate 4 exact rfl);intro _)|(apply kU;(iterate 2 exact rfl);(·repeat(first|exact sH _ _ _|apply sT));(first|exact nfL_eq rfl|exact rfl);exact rfl)|((first|apply kh|apply kl);(iterate 2 exact rfl);(first|decide|omega);exact rfl)|((first|(apply kR;iterate 2 exact rfl)|(apply kQ;exact rfl));all_goals(intro hc;try simp only[hcs]at hc;try(exfalso;first|contradiction|omega))))
    (apply ret1; (· exact rfl); intro w' hS)
    exact ⟨a2, c2, rfl, hS.toNew (by (repeat (first | exact mH _ _ | apply mT)))⟩
end Go.Proofs.Ythmmmbphknoagaa

namespace Go.Proofs.Ythmmmbphknoagaa
open Go.Hb
attribute [local irreducible] LR CW At Ev thn blk finK noG again CallsTo DW QL dnext TW DP
set_option linter.unusedSimpArgs false
set_option linter.unusedVariables false
set_option maxRecDepth 100000

theorem WOk.nil : WOk [] := ⟨List.nodup_nil, fun _ h => (by cases h), fun _ h => (by cases h)⟩
theorem IsAru.nil : IsAru [] 0 := ⟨⟨by omega, fun s h1 h2 => by omega⟩, rfl⟩
theorem t29o (bw bm : Nat) (es : List DaA) (aru high n : Int) (w : World) (h : (wO bw bm es aru high).holds w) (hD : WOk (dats es)) (hA : IsAru (dats es) aru) :
    CallsTo Try.prog 29 [.pointer (some ⟨bw, 0, none⟩), (oneD n).val none 0] w fun v w' => ∃ es' aru', v = .tuple [.bool (wpNew (dats es) (oneD n)), .int .i64 (wpE (oneD n))].toArray ∧ dats es' = wpD (dats es) (oneD n) ∧ IsAru (wpD (dats es) (oneD n)) aru' ∧ Step (wO bw bm es aru high) (wO bw bm es' aru' (wpH (dats es) high (oneD n))) w w' :=
  t29 bw bm es aru high (oneD n) none 0 w h hD hA (Rd.nil _ _) (fun _ => rfl) (fun k hk => by obtain ⟨_, _, e, _⟩ := hk; cases e) (Nat.zero_le _)
set_option maxHeartbeats 2000000 in
theorem t43 (w : World) : CallsTo Try.prog 43 [] w fun v w' => v = .bool true ∧ Grew w w' := by
  refine go_in (n := 57) (St.refl _ NoF) Try.func43 rfl rfl ?_
  repeat'(first|(apply kp;iterate 2 exact rfl)|apply jJ|(apply jE;exact rfl)|(apply jp;exact rfl)|(apply jc;kernel_rfl)|((first|apply kf|apply kn|apply ke|apply kx|apply kc|apply kb);iterate 2 exact rfl)|((first|apply kz|apply ky);(·exact rfl);(·repeat(first|exact iO|exact iR rfl|apply iT));iterate 2 exact rfl)|(apply kg;iterate 2 exact rfl)|(apply kG;iterate 3 exact rfl)|(apply kB;(iterate 2 exact rfl);intro _)|(apply kA;exact rfl;intro _)|(apply Go.Hb.kK;(iterate 4 exact rfl);intro _)|(apply kU;(iterate 2 exact rfl);(·repeat(first|exact sH _ _ _|apply sT));(first|exact nfL_eq rfl|exact rfl);exact rfl)|((first|apply kh|apply kl);(iterate 2 exact rfl);(first|decide|omega);exact rfl)|((first|(apply kR;iterate 2 exact rfl)|(apply kQ;exact rfl));all_goals(intro hc;try simp only[hcs]at hc;try(exfalso;first|contradiction|omega))))
  apply LR.call
  · exact rfl
  intro w1 h1
  refine (t24 w1).mono ?_
  rintro v w2 ⟨bw, bm, rfl, hn⟩
  refine LR.back (h1.got hn (wO_dep _ _ _ _ _)) ?_
  clear hn h1
  repeat'(first|(apply kp;iterate 2 exact rfl)|apply jJ|(apply jE;exact rfl)|(apply jp;exact rfl)|(apply jc;kernel_rfl)|((first|apply kf|apply kn|apply ke|apply kx|apply kc|apply kb);iterate 2 exact rfl)|((first|apply kz|apply ky);(·exact rfl);(·repeat(first|exact iO|exact iR rfl|apply iT));iterate 2 exact rfl)|(apply kg;iterate 2 exact rfl)|(apply kG;iterate 3 exact rfl)|(apply kB;(iterate 2 exact rfl);intro _)|(apply kA;exact rfl;intro _)|(apply Go.Hb.kK;(iterate 4 exact rfl);intro _)|(apply kU;(iterate 2 exact rfl);(·repeat(first|exact sH _ _ _|apply sT));(first|exact nfL_eq rfl|exact rfl);exact rfl)|((first|apply kh|apply kl);(iterate 2 exact rfl);(first|decide|omega);exact rfl)|(apply kq; (· exact rfl); (· intro w1 h1; exact CallsTo.q (t44 2 w1) h1))|((first|(apply kR;iterate 2 exact rfl)|(apply kQ;exact rfl));all_goals(intro hc;try simp only[hcs]at hc;try(exfalso;first|contradiction|omega))))
  apply LR.call
  · exact rfl
  intro w1 h1
  have ht := t29o bw bm [] 0 0 2 w1 (h1.holds _ (by (repeat (first | exact mH _ _ | apply mT)))) WOk.nil IsAru.nil
  have e1 : wpNew (dats []) (oneD 2) = true := by decide
  have e2 : wpE (oneD 2) = 0 := by decide
  have e3 : wpD (dats []) (oneD 2) = [oneD 2] := by unfold wpD; rw [e1]; rfl
  have e4 : wpH (dats []) 0 (oneD 2) = 2 := by unfold wpH; rw [e1]; rfl
  rw [e1, e2, e3, e4] at ht
  refine ht.mono ?_
  clear ht e1 e4
  rintro v w2 ⟨es1, ar1, rfl, he1, ha1, hst⟩
  have hD1 : WOk (dats es1) := by rw [he1, ← e3]; exact wpD_ok WOk.nil (Nat.zero_le _)
  obtain rfl : ar1 = 0 := ha1.uniq ⟨⟨by omega, fun s h1 h2 => by omega⟩, rfl⟩
  have h2 := h1.did (L' := [wO bw bm es1 0 2]) (by (repeat (first | exact sH _ _ _ | apply sT))) rfl hst (wO_dep _ _ _ _ _)
  refine LR.back h2 ?_
  clear hst h1 h2 e3
  repeat'(first|(apply kp;iterate 2 exact rfl)|apply jJ|(apply jE;exact rfl)|(apply jp;exact rfl)|(apply jc;kernel_rfl)|((first|apply kf|apply kn|apply ke|apply kx|apply kc|apply kb);iterate 2 exact rfl)|((first|apply kz|apply ky);(·exact rfl);(·repeat(first|exact iO|exact iR rfl|apply iT));iterate 2 exact rfl)|(apply kg;iterate 2 exact rfl)|(apply kG;iterate 3 exact rfl)|(apply kB;(iterate 2 exact rfl);intro _)|(apply kA;exact rfl;intro _)|(apply Go.Hb.kK;(iterate 4 exact rfl);intro _)|(apply kU;(iterate 2 exact rfl);(·repeat(first|exact sH _ _ _|apply sT));(first|exact nfL_eq rfl|exact rfl);exact rfl)|((first|apply kh|apply kl);(iterate 2 exact rfl);(first|decide|omega);exact rfl)|(apply kq; (· exact rfl); (· intro w1 h1; exact CallsTo.q (t44 2 w1) h1))|((first|(apply kR;iterate 2 exact rfl)|(apply kQ;exact rfl));all_goals(intro hc;try simp only[hcs]at hc;try(exfalso;first|contradiction|omega))))
  apply LR.call
  · exact rfl
  intro w1 h1
  have ht := t29o bw bm es1 0 2 2 w1 (h1.holds _ (by (repeat (first | exact mH _ _ | apply mT)))) hD1 (by rw [he1]; exact ha1)
  rw [he1] at ht
  have e1 : wpNew [oneD 2] (oneD 2) = false := by decide
  have e3 : wpD [oneD 2] (oneD 2) = [oneD 2] := by unfold wpD; rw [e1]; rfl
  have e4 : wpH [oneD 2] 2 (oneD 2) = 2 := by unfold wpH; rw [e1]; rfl
  rw [e1, e2, e3, e4] at ht
  refine ht.mono ?_
  clear ht e1 e4
  rintro v w2 ⟨es2, ar2, rfl, he2, ha2, hst⟩
  obtain rfl : ar2 = 0 := ha2.uniq ha1
  have h2 := h1.did (L' := [wO bw bm es2 0 2]) (by (repeat (first | exact sH _ _ _ | apply sT))) rfl hst (wO_dep _ _ _ _ _)
  refine LR.back h2 ?_
  clear hst h1 h2 e3 hD1
  repeat'(first|(apply kp;iterate 2 exact rfl)|apply jJ|(apply jE;exact rfl)|(apply jp;exact rfl)|(apply jc;kernel_rfl)|((first|apply kf|apply kn|apply ke|apply kx|apply kc|apply kb);iterate 2 exact rfl)|((first|apply kz|apply ky);(·exact rfl);(·repeat(first|exact iO|exact iR rfl|apply iT));iterate 2 exact rfl)|(apply kg;iterate 2 exact rfl)|(apply kG;iterate 3 exact rfl)|(apply kB;(iterate 2 exact rfl);intro _)|(apply kA;exact rfl;intro _)|(apply Go.Hb.kK;(iterate 4 exact rfl);intro _)|(apply kU;(iterate 2 exact rfl);(·repeat(first|exact sH _ _ _|apply sT));(first|exact nfL_eq rfl|exact rfl);exact rfl)|((first|apply kh|apply kl);(iterate 2 exact rfl);(first|decide|omega);exact rfl)|((first|(apply kR;iterate 2 exact rfl)|(apply kQ;exact rfl));all_goals(intro hc;try simp only[hcs]at hc;try(exfalso;first|contradiction|omega))))
  apply LR.call
  · exact rfl
  intro w1 h1
  have ht := t26 bw bm es2 0 2 4 w1 (h1.holds _ (by (repeat (first | exact mH _ _ | apply mT))))
  have e1 : seeE 4 = 0 := by decide
  have e3 : seeH 2 4 = 4 := by decide
  rw [e1, e3] at ht
  refine ht.mono ?_
  rintro v w2 ⟨rfl, hst⟩
  have h2 := h1.did (L' := [wO bw bm es2 0 4]) (by (repeat (first | exact sH _ _ _ | apply sT))) rfl hst (wO_dep _ _ _ _ _)
  refine LR.back h2 ?_
  clear hst h1 h2 e1 e3 ht e2
  have hg : gapsT (dats es2) 4 9 = [1, 3, 4] := by rw [he2]; decide
  have hU : Upto (dats es2) 0 := ⟨by omega, fun s h1 h2 => by omega⟩
  repeat'(first|(apply Go.Hb.kK;(iterate 4 exact rfl);intro bs)|(apply kp;iterate 2 exact rfl)|apply jJ|(apply jE;exact rfl)|(apply jp;exact rfl)|(apply jc;kernel_rfl)|((first|apply kf|apply kn|apply ke|apply kx|apply kc|apply kb);iterate 2 exact rfl)|((first|apply kz|apply ky);(·exact rfl);(·repeat(first|exact iO|exact iR rfl|apply iT));iterate 2 exact rfl)|(apply kg;iterate 2 exact rfl)|(apply kG;iterate 3 exact rfl)|(apply kB;(iterate 2 exact rfl);intro _)|(apply kA;exact rfl;intro _)|(apply Go.Hb.kK;(iterate 4 exact rfl);intro _)|(apply kU;(iterate 2 exact rfl);(·repeat(first|exact sH _ _ _|apply sT));(first|exact nfL_eq rfl|exact rfl);exact rfl)|((first|apply kh|apply kl);(iterate 2 exact rfl);(first|decide|omega);exact rfl)|(apply kq; (· exact rfl); (· intro w1 h1; first | exact CallsTo.q (t35 bw bm es2 0 4 w1 (h1.holds _ (by (repeat (first | exact mH _ _ | apply mT))))) h1 | exact CallsTo.q (t37 bw bm es2 0 4 w1 (h1.holds _ (by (repeat (first | exact mH _ _ | apply mT))))) h1 | exact CallsTo.q (t19 _ (some ⟨_, 0, none⟩) _ 3 [1, 3, 4] [1, 3, 4] w1 (h1.rd_of_own (by (repeat (first | exact mH _ _ | apply mT)))) (h1.rd_of_blk (mH _ _)) (by decide)) h1))|(apply LR.call; (· exact rfl); (intro w1 h1; have ht := t39 bw bm es2 0 4 9 w1 (h1.holds _ (by (repeat (first | exact mH _ _ | apply mT)))) hU (by omega) (by omega); rw [hg] at ht; refine ht.mono ?_; rintro v w2 ⟨a3, c3, rfl, hn⟩; refine LR.back (h1.newSl hn) ?_; clear hn h1 ht))|((first|(apply kR;iterate 2 exact rfl)|(apply kQ;exact rfl));all_goals(intro hc;try simp only[hcs]at hc;try(exfalso;first|contradiction|omega))))
  (apply ret1; (· exact rfl); intro w' hS)
  exact ⟨rfl, hS.toKeep⟩
end Go.Proofs.Ythmmmbphknoagaa

namespace Go.Proofs.Ythmmmbphknoagaa
open Go.Hb
attribute [local irreducible] LR CW At Ev thn blk finK noG again CallsTo
set_option linter.unusedSimpArgs false
set_option linter.unusedVariables false
set_option maxRecDepth 100000

def gapsQ (q : Int) (g : List Int) : List Int := g.filter (fun x => withinB x 1 q)
def askV (t : Tk) (g : List Int) : List Int := (Lib.compact (sortI (t.ask ++ gapsQ t.seq g))).take 16
def aruV (t : Tk) (node aru : Int) : Int × Int := if aru < t.aru ∨ t.low = node ∨ t.low = 0 then (if t.seq < aru then t.seq else aru, if (if t.seq < aru then t.seq else aru) = t.seq then 0 else node) else (t.aru, t.low)
def mayV (t : Tk) (node aru : Int) : Bool := tokB t && !decide (t.hop = 9007199254740991) && withinB node 1 8 && decide (0 ≤ aru)
def visitT (t : Tk) (node aru : Int) (g : List Int) : Tk :=
  if mayV t node aru then ⟨t.r1, t.r2, t.hop + 1, t.seq, (aruV t node aru).1, (aruV t node aru).2, t.stamp, t.idle, askV t g⟩ else noTk
theorem tok_bd {t : Tk} (h : tokE t = 0) : 1 ≤ t.hop ∧ t.hop ≤ 9007199254740991 ∧ 0 ≤ t.seq ∧ t.seq ≤ 9007199254740991 ∧ 0 ≤ t.aru ∧ t.aru ≤ t.seq ∧ 0 ≤ t.low ∧ t.low ≤ 8 ∧ t.ask.length ≤ 16 := by
  unfold tokE at h
  split at h
  · rename_i hb
    unfold tokB Tk.headB withinB at hb
    simp only [Bool.and_eq_true, decide_eq_true_eq] at hb
    omega
  · cases h
theorem tok_b {t : Tk} (h : tokE t = 0) : tokB t = true := by
  unfold tokE at h
  split at h
  · assumption
  · cases h
theorem tok_nb {t : Tk} (h : ¬tokE t = 0) : tokB t = false := by
  unfold tokE at h
  split at h
  · exact absurd rfl h
  · rename_i hb; simpa using hb
def vis1 (t : Tk) (node aru : Int) : Tk := ⟨t.r1, t.r2, t.hop + 1, t.seq, (aruV t node aru).1, (aruV t node aru).2, t.stamp, t.idle, t.ask⟩
theorem gapsQ_succ {q : Int} {g : List Int} {i : Nat} (h : i < g.length) : gapsQ q (g.take (i + 1)) = gapsQ q (g.take i) ++ (if withinB g[i] 1 q then [g[i]] else []) := by
  unfold gapsQ
  rw [List.take_add_one, List.getElem?_eq_getElem h, Option.toList_some, List.filter_append]
  simp [List.filter_cons]
theorem gaps_yes {t : Tk} {g : List Int} {i : Nat} (h : i < g.length) (hy : withinB g[i] 1 t.seq = true) : t.ask ++ gapsQ t.seq (g.take (i + 1)) = (t.ask ++ gapsQ t.seq (g.take i)) ++ [g[i]] := by
  rw [gapsQ_succ h, if_pos hy, List.append_assoc]
theorem gaps_no {t : Tk} {g : List Int} {i : Nat} (h : i < g.length) (hy : withinB g[i] 1 t.seq = false) : t.ask ++ gapsQ t.seq (g.take (i + 1)) = t.ask ++ gapsQ t.seq (g.take i) := by
  rw [gapsQ_succ h, if_neg (by simp [hy]), List.append_nil]
theorem il_snoc (a : Option Addr) (c : Nat) (l : List Int) (x : Int) : osl (.slice a (l.length + 1) c) 3 1 (l.length + 1) (iv l ++ [.int .i64 x]) = il a c (l ++ [x]) := by simp [il, iv]
theorem ownsAt_lt {w : World} {E : TypeId} {sz n k : Nat} {v : Value} {xs : List Value} (h : ownsAt w E sz v n xs) (hk : v.ownBlock = some k) : k < w.heap.size := by
  rcases h.2 with ⟨rfl, _⟩ | ⟨g, o, cap, cur, rfl, hg, _⟩
  · cases hk
  · cases hk; exact (Array.getElem?_eq_some_iff.1 hg).1
theorem ownsRow_cap {w : World} {base E sz n c : Nat} {a : Option Addr} {xs : List Value} (h : w.ownsRow base E sz (.slice a n c) n xs) : n ≤ c := by
  rcases h.2 with ⟨he, hn⟩ | ⟨g, cap, cur, he, _, _, h1, _⟩
  · omega
  · simp only [Value.slice.injEq] at he
    obtain ⟨_, _, rfl⟩ := he
    exact h1
theorem aruV_a {t : Tk} {node aru : Int} (h : aru < t.aru ∨ t.low = node ∨ t.low = 0) (h2 : (if t.seq < aru then t.seq else aru) = t.seq) : aruV t node aru = (if t.seq < aru then t.seq else aru, 0) := by
  unfold aruV
  rw [if_pos h, if_pos h2]
theorem aruV_b {t : Tk} {node aru : Int} (h : aru < t.aru ∨ t.low = node ∨ t.low = 0) (h2 : ¬(if t.seq < aru then t.seq else aru) = t.seq) : aruV t node aru = (if t.seq < aru then t.seq else aru, node) := by
  unfold aruV
  rw [if_pos h, if_neg h2]
theorem aruV_c {t : Tk} {node aru : Int} (h : ¬(aru < t.aru ∨ t.low = node ∨ t.low = 0)) : aruV t node aru = (t.aru, t.low) := by
  unfold aruV
  rw [if_neg h]
theorem gapsQ_len (q : Int) (g : List Int) : (gapsQ q g).length ≤ g.length := List.length_filter_le _ _
set_option maxHeartbeats 1000000 in
theorem t14 (t : Tk) (a : Option Addr) (c : Nat) (node aru : Int) (ag : Option Addr) (cg : Nat) (g : List Int) (w : World) (hr : Rd w a (iv t.ask)) (hz : a = none → c = 0) (hm : t.ask.length ≤ 17592186043904) (hrg : Rd w ag (iv g)) (hmg : g.length ≤ 17592186043904) :
    CallsTo Try.prog 14 [t.val a c, .int .i64 node, .int .i64 aru, .slice ag g.length cg] w fun v w' => ∃ a' c', v = (visitT t node aru g).val a' c' ∧ NewOd w w' (.slice a' (visitT t node aru g).ask.length c') 3 1 (visitT t node aru g).ask.length (iv (visitT t node aru g).ask) := by
  refine go_in (n := 94) (St.rd2 hr hrg) Try.func14 rfl rfl ?_
  repeat'(first|(apply kB;(iterate 2 exact rfl);intro b0)|(apply kA;exact rfl;intro b8)|(apply kp;iterate 2 exact rfl)|apply jJ|(apply jE;exact rfl)|(apply jp;exact rfl)|(apply jc;kernel_rfl)|((first|apply kf|apply kn|apply ke|apply kx|apply kc|apply kb);iterate 2 exact rfl)|((first|apply kz|apply ky);(·exact rfl);(·repeat(first|exact iO|exact iR rfl|apply iT));iterate 2 exact rfl)|(apply kg;iterate 2 exact rfl)|(apply kG;iterate 3 exact rfl)|(apply kB;(iterate 2 exact rfl);intro _)|(apply kA;exact rfl;intro _)|(apply Go.Hb.kK;(iterate 4 exact rfl);intro _)|(apply kU;(iterate 2 exact rfl);(·repeat(first|exact sH _ _ _|apply sT));(first|exact nfL_eq rfl|exact rfl);exact rfl)|((first|apply kh|apply kl);(iterate 2 exact rfl);(first|decide|omega);exact rfl)|(apply kq; (· exact rfl); (· intro w1 h1; exact CallsTo.q (t16 t a c w1 (h1.rd_of (by (repeat (first | exact mH _ _ | apply mT)))) (by omega)) h1))|(apply kq;(·exact rfl);(·intro w1 h1;exact CallsTo.q (t51 _ _ _ w1) h1))|(apply addX;(iterate 2 exact rfl);(have := tok_bd (by assumption); omega);(have := tok_bd (by assumption); omega);exact rfl)|(apply LR.ev; (· apply Ev.min2; (· exact rfl); (· exact rfl)); (· exact rfl))|((first|(apply kR;iterate 2 exact rfl)|(apply kQ;exact rfl));all_goals(intro hc;try simp only[hcs]at hc;try(exfalso;first|contradiction|omega))))
  all_goals (
    first
    | ((apply ret1c; (· exact rfl); (· exact inferInstance); (· exact rfl); (· (repeat (first | exact List.Mem.head _ | apply List.Mem.tail))); (· exact rfl); intro w' hS)
       have e : visitT t node aru g = noTk := by unfold visitT mayV; rw [if_neg]; first | (rw [tok_nb (by assumption)]; simp; done) | (simp_all; done) | (simp_all; omega)
       rw [e]
       exact ⟨none, 0, rfl, hS.toKeep, ⟨rfl, .inl ⟨rfl, rfl⟩⟩, fun k hk => by cases hk⟩)
    | skip)
  all_goals (try (exfalso; have hbd := tok_bd (by assumption); omega))
  all_goals (
    have hE : tokE t = 0 := by assumption
    have hbd := tok_bd hE
    refine LR.sub (D := St w NoF [.own b8 (.cells (noTk.cells none 0).toArray 26 (0, 0)), .own b0 (.cells ((vis1 t node aru).cells a c).toArray 26 (0, 0)), rdA a (iv t.ask), rdA ag (iv g)]) ?_ ?_
    · intro w' h
      show St w NoF [.own b8 (.cells (noTk.cells none 0).toArray 26 (0, 0)), .own b0 (.cells #[.int .i64 t.r1, .int .i64 t.r2, .int .i64 (t.hop + 1), .int .i64 t.seq, .int .i64 (aruV t node aru).1, .int .i64 (aruV t node aru).2, .int .i64 t.stamp, .int .i64 t.idle, .slice a t.ask.length c] 26 (0, 0)), rdA a (iv t.ask), rdA ag (iv g)] w'
      first
      | (refine (fun (e : aruV t node aru = (if t.seq < aru then t.seq else aru, 0)) => ?_) (aruV_a ?_ ?_)
         · rw [e]; exact h
         · simp_all
         · assumption)
      | (refine (fun (e : aruV t node aru = (if t.seq < aru then t.seq else aru, node)) => ?_) (aruV_b ?_ ?_)
         · rw [e]; exact h
         · simp_all
         · assumption)
      | (refine (fun (e : aruV t node aru = (t.aru, t.low)) => ?_) (aruV_c ?_)
         · rw [e]; exact h
         · simp_all))
  all_goals (
    apply LR.call
    · exact rfl
    intro w1 h1
    refine (t52 a c t.ask w1 (h1.rd_of (by (repeat (first | exact mH _ _ | apply mT)))) hz hm).mono ?_
    rintro v w2 ⟨a1, c1, rfl, hn⟩
    refine LR.back (h1.newSl hn) ?_
    clear hn h1
    repeat'(first|(apply kp;iterate 2 exact rfl)|apply jJ|(apply jE;exact rfl)|(apply jp;exact rfl)|(apply jc;kernel_rfl)|((first|apply kf|apply kn|apply ke|apply kx|apply kc|apply kb);iterate 2 exact rfl)|((first|apply kz|apply ky);(·exact rfl);(·repeat(first|exact iO|exact iR rfl|apply iT));iterate 2 exact rfl)|(apply kg;iterate 2 exact rfl)|(apply kG;iterate 3 exact rfl)|(apply kB;(iterate 2 exact rfl);intro _)|(apply kA;exact rfl;intro _)|(apply Go.Hb.kK;(iterate 4 exact rfl);intro _)|(apply kU;(iterate 2 exact rfl);(·repeat(first|exact sH _ _ _|apply sT));(first|exact nfL_eq rfl|exact rfl);exact rfl)|((first|apply kh|apply kl);(iterate 2 exact rfl);(first|decide|omega);exact rfl)|((first|(apply kR;iterate 2 exact rfl)|(apply kQ;exact rfl));all_goals(intro hc;try simp only[hcs]at hc;try(exfalso;first|contradiction|omega))))
    apply CW.loop [9, 11, 67, 68, 69, 70, 71, 72, 73, 74, 75, 76, 77, 78, 79] (fun s : Nat × Option Addr × Nat => s.1 ≤ g.length) (fun s => [(9, .slice s.2.1 (t.ask ++ gapsQ t.seq (g.take s.1)).length s.2.2), (67, .int .i64 (s.1 : Int))])
      (fun s => St w NoF [il s.2.1 s.2.2 (t.ask ++ gapsQ t.seq (g.take s.1)), .own b8 (.cells (noTk.cells none 0).toArray 26 (0, 0)), .own b0 (.cells ((vis1 t node aru).cells a c).toArray 26 (0, 0)), rdA a (iv t.ask), rdA ag (iv g)]) (fun s => g.length - s.1)
    · intro w' hw'
      refine ⟨(0, a1, c1), by omega, ⟨?_, rfl, trivial⟩, ?_⟩
      · simp [gapsQ]
        rfl
      · simpa [gapsQ, il] using hw'
    rintro ⟨i, a2, c2⟩ g' hi
    simp only at hi ⊢
    have hk : (t.ask ++ gapsQ t.seq (g.take i)).length ≤ 16 + g.length := by
      have h1 := gapsQ_len t.seq (g.take i)
      rw [List.length_append]
      rw [List.length_take] at h1
      omega
    by_cases hlt : i < g.length
    · obtain ⟨bg, og, rfl⟩ := hrg.form (fun e => by have := congrArg List.length e; simp at this; subst this; simp at hlt)
      repeat'(first|(apply kp;iterate 2 exact rfl)|apply jJ|(apply jE;exact rfl)|(apply jp;exact rfl)|(apply jc;kernel_rfl)|((first|apply kf|apply kn|apply ke|apply kx|apply kc|apply kb);iterate 2 exact rfl)|((first|apply kz|apply ky);(·exact rfl);(·repeat(first|exact iO|exact iR rfl|apply iT));iterate 2 exact rfl)|(apply kg;iterate 2 exact rfl)|(apply kG;iterate 3 exact rfl)|(apply kB;(iterate 2 exact rfl);intro _)|(apply kA;exact rfl;intro _)|(apply Go.Hb.kK;(iterate 4 exact rfl);intro _)|(apply kU;(iterate 2 exact rfl);(·repeat(first|exact sH _ _ _|apply sT));(first|exact nfL_eq rfl|exact rfl);exact rfl)|((first|apply kh|apply kl);(iterate 2 exact rfl);(first|decide|omega);exact rfl)|(apply idxX;(iterate 2 exact rfl);(iterate 2(first|omega|(dsimp only;omega)));exact rfl)|(apply LR.ev; (· apply Ev.load_rd; (· exact rfl); (· repeat (first | exact mH _ _ | apply mT)); (· exact iv_at (i := i) (by simp) (by omega))); (· exact rfl))|(apply addX;(iterate 2 exact rfl);(iterate 2(first|omega|(dsimp only;omega)));exact rfl)|(apply kq;(·exact rfl);(·intro w1 h1;exact CallsTo.q (t51 _ _ _ w1) h1))|(apply LR.append (xs := iv (t.ask ++ gapsQ t.seq (g.take i))) (news := [Value.int .i64 g[i]]) (m := 1); (· exact rfl); (· exact rfl); (· intro a' c'; (repeat (first | exact sH _ _ _ | apply sT))); (· exact fun w' hw' => hw'.rd_of_blk (mH _ _)); (· exact fun hx => by cases hx); (· exact rfl); (· exact rfl); (· omega); (· unfold maxLen; omega); (· exact rfl); (intro a3 c3))|((first|(apply kR;iterate 2 exact rfl)|(apply kQ;exact rfl));all_goals(intro hc;try simp only[hcs]at hc;try(exfalso;first|contradiction|omega))))
      · refine At.again (i + 1, a3, c3) (by simp; omega) ?_ ⟨?_, ?_, trivial⟩ ?_ (by simp; omega)
        · (repeat (first | exact Out.refl _ _ | exact Out.mix | (apply Out.upd; (· exact rfl)) | (apply Out.updL; (· exact rfl)) | (apply Out.mixs; (· exact rfl))))
        · rw [gaps_yes hlt (by assumption)]
          refine congrArg (fun k => Value.slice a3 k c3) ?_
          simp only [List.length_append, List.length_cons, List.length_nil]
        · rfl
        · intro w' hw'
          rw [il_snoc] at hw'
          rw [gaps_yes hlt (by assumption)]
          exact hw'.sub (by (repeat (first | exact List.Sublist.refl _ | apply List.Sublist.cons_cons | apply List.Sublist.cons)))
      · refine At.again (i + 1, a2, c2) (by simp; omega) ?_ ⟨?_, ?_, trivial⟩ ?_ (by simp; omega)
        · (repeat (first | exact Out.refl _ _ | exact Out.mix | (apply Out.upd; (· exact rfl)) | (apply Out.updL; (· exact rfl)) | (apply Out.mixs; (· exact rfl))))
        · rw [gaps_no hlt (by assumption)]
          rfl
        · rfl
        · intro w' hw'
          rw [gaps_no hlt (by assumption)]
          exact hw'
    · have hie : i = g.length := by omega
      subst hie
      rw [List.take_length] at hk ⊢
      generalize hL : t.ask ++ gapsQ t.seq g = L at hk ⊢
      repeat'(first|(apply kp;iterate 2 exact rfl)|apply jJ|(apply jE;exact rfl)|(apply jp;exact rfl)|(apply jc;kernel_rfl)|((first|apply kf|apply kn|apply ke|apply kx|apply kc|apply kb);iterate 2 exact rfl)|((first|apply kz|apply ky);(·exact rfl);(·repeat(first|exact iO|exact iR rfl|apply iT));iterate 2 exact rfl)|(apply kg;iterate 2 exact rfl)|(apply kG;iterate 3 exact rfl)|(apply kB;(iterate 2 exact rfl);intro _)|(apply kA;exact rfl;intro _)|(apply Go.Hb.kK;(iterate 4 exact rfl);intro _)|(apply kU;(iterate 2 exact rfl);(·repeat(first|exact sH _ _ _|apply sT));(first|exact nfL_eq rfl|exact rfl);exact rfl)|((first|apply kh|apply kl);(iterate 2 exact rfl);(first|decide|omega);exact rfl)|((first|(apply kR;iterate 2 exact rfl)|(apply kQ;exact rfl));all_goals(intro hc;try simp only[hcs]at hc;try(exfalso;first|contradiction|omega))))
      apply LR.call
      · exact rfl
      intro w1 h1
      have hcap : L.length ≤ c2 := ownsRow_cap (h1.holds (il a2 c2 L) (by (repeat (first | exact mH _ _ | apply mT))))
      refine (t53 a2 c2 L w1 (h1.holds (il a2 c2 L) (by (repeat (first | exact mH _ _ | apply mT)))) (by omega)).mono ?_
      rintro v w2 ⟨rfl, st⟩
      refine LR.back (h1.did (by (repeat (first | exact sH _ _ _ | apply sT))) rfl st (osl.dep _ _ _ _ _)) ?_
      clear st h1
      repeat'(first|(apply kp;iterate 2 exact rfl)|apply jJ|(apply jE;exact rfl)|(apply jp;exact rfl)|(apply jc;kernel_rfl)|((first|apply kf|apply kn|apply ke|apply kx|apply kc|apply kb);iterate 2 exact rfl)|((first|apply kz|apply ky);(·exact rfl);(·repeat(first|exact iO|exact iR rfl|apply iT));iterate 2 exact rfl)|(apply kg;iterate 2 exact rfl)|(apply kG;iterate 3 exact rfl)|(apply kB;(iterate 2 exact rfl);intro _)|(apply kA;exact rfl;intro _)|(apply Go.Hb.kK;(iterate 4 exact rfl);intro _)|(apply kU;(iterate 2 exact rfl);(·repeat(first|exact sH _ _ _|apply sT));(first|exact nfL_eq rfl|exact rfl);exact rfl)|((first|apply kh|apply kl);(iterate 2 exact rfl);(first|decide|omega);exact rfl)|((first|(apply kR;iterate 2 exact rfl)|(apply kQ;exact rfl));all_goals(intro hc;try simp only[hcs]at hc;try(exfalso;first|contradiction|omega))))
      apply LR.call
      · exact rfl
      intro w1 h1
      refine CallsTo.mono (show CallsTo Try.prog 54 [.slice a2 L.length c2] w1 (fun v w' => v = .slice a2 (Lib.compact (sortI L)).length c2 ∧ Step (il a2 c2 (sortI L)) (il a2 c2 (Lib.compact (sortI L))) w1 w') from ?_) ?_
      · rw [← sortI_len L]
        exact t54 a2 c2 (sortI L) w1 (h1.holds (il a2 c2 (sortI L)) (by (repeat (first | exact mH _ _ | apply mT)))) (by rw [sortI_len]; omega)
      rintro v w2 ⟨rfl, st⟩
      refine LR.back (h1.did (by (repeat (first | exact sH _ _ _ | apply sT))) rfl st (osl.dep _ _ _ _ _)) ?_
      clear st h1
      have hA : askV t g = (Lib.compact (sortI L)).take 16 := by unfold askV; rw [hL]
      have hKc : (Lib.compact (sortI L)).length ≤ c2 := by have := compact_len (sortI L); rw [sortI_len] at this; omega
      generalize hK : Lib.compact (sortI L) = K at hA hKc ⊢
      repeat'(first|(apply kp;iterate 2 exact rfl)|apply jJ|(apply jE;exact rfl)|(apply jp;exact rfl)|(apply jc;kernel_rfl)|((first|apply kf|apply kn|apply ke|apply kx|apply kc|apply kb);iterate 2 exact rfl)|((first|apply kz|apply ky);(·exact rfl);(·repeat(first|exact iO|exact iR rfl|apply iT));iterate 2 exact rfl)|(apply kg;iterate 2 exact rfl)|(apply kG;iterate 3 exact rfl)|(apply kB;(iterate 2 exact rfl);intro _)|(apply kA;exact rfl;intro _)|(apply Go.Hb.kK;(iterate 4 exact rfl);intro _)|(apply kU;(iterate 2 exact rfl);(·repeat(first|exact sH _ _ _|apply sT));(first|exact nfL_eq rfl|exact rfl);exact rfl)|((first|apply kh|apply kl);(iterate 2 exact rfl);(first|decide|omega);exact rfl)|((first|(apply kR;iterate 2 exact rfl)|(apply kQ;exact rfl));all_goals(intro hc;try simp only[hcs]at hc;try(exfalso;first|contradiction|omega))))
      apply LR.ev
      · apply minQ (a := K.length) (b := 16) (q := min 16 K.length)
        · rfl
        · exact rfl
        · exact rfl
      · exact rfl
      repeat'(first|(apply kp;iterate 2 exact rfl)|apply jJ|(apply jE;exact rfl)|(apply jp;exact rfl)|(apply jc;kernel_rfl)|((first|apply kf|apply kn|apply ke|apply kx|apply kc|apply kb);iterate 2 exact rfl)|((first|apply kz|apply ky);(·exact rfl);(·repeat(first|exact iO|exact iR rfl|apply iT));iterate 2 exact rfl)|(apply kg;iterate 2 exact rfl)|(apply kG;iterate 3 exact rfl)|(apply kB;(iterate 2 exact rfl);intro _)|(apply kA;exact rfl;intro _)|(apply Go.Hb.kK;(iterate 4 exact rfl);intro _)|(apply kU;(iterate 2 exact rfl);(·repeat(first|exact sH _ _ _|apply sT));(first|exact nfL_eq rfl|exact rfl);exact rfl)|((first|apply kh|apply kl);(iterate 2 exact rfl);(first|decide|omega);exact rfl)|(apply LR.ev; (· apply minQ (a := K.length) (b := 16) (q := min 16 K.length); (· rfl); (· exact rfl); (· exact rfl)); (· exact rfl))|((first|(apply kR;iterate 2 exact rfl)|(apply kQ;exact rfl));all_goals(intro hc;try simp only[hcs]at hc;try(exfalso;first|contradiction|omega))))
      apply LR.ev
      · apply Ev.slice_cut (j := min 16 K.length)
        · exact rfl
        · exact rfl
        · exact rfl
        · omega
      · exact rfl
      repeat'(first|(apply kp;iterate 2 exact rfl)|apply jJ|(apply jE;exact rfl)|(apply jp;exact rfl)|(apply jc;kernel_rfl)|((first|apply kf|apply kn|apply ke|apply kx|apply kc|apply kb);iterate 2 exact rfl)|((first|apply kz|apply ky);(·exact rfl);(·repeat(first|exact iO|exact iR rfl|apply iT));iterate 2 exact rfl)|(apply kg;iterate 2 exact rfl)|(apply kG;iterate 3 exact rfl)|(apply kB;(iterate 2 exact rfl);intro _)|(apply kA;exact rfl;intro _)|(apply Go.Hb.kK;(iterate 4 exact rfl);intro _)|(apply kU;(iterate 2 exact rfl);(·repeat(first|exact sH _ _ _|apply sT));(first|exact nfL_eq rfl|exact rfl);exact rfl)|((first|apply kh|apply kl);(iterate 2 exact rfl);(first|decide|omega);exact rfl)|((first|(apply kR;iterate 2 exact rfl)|(apply kQ;exact rfl));all_goals(intro hc;try simp only[hcs]at hc;try(exfalso;first|contradiction|omega))))
      (apply ret1c; (· exact rfl); (· exact inferInstance); (· exact rfl); (· (repeat (first | exact List.Mem.head _ | apply List.Mem.tail))); (· exact rfl); intro w' hS)
      have h1 : ownsAt w' 3 1 (.slice a2 K.length c2) K.length (iv K) := ownsAt_of (hS.holds (il a2 c2 K) (by (repeat (first | exact mH _ _ | apply mT))))
      have h2 := ownsAt_cut (l := min 16 K.length) h1 (by omega)
      have e : visitT t node aru g = { vis1 t node aru with ask := K.take 16 } := by
        unfold visitT
        rw [if_pos ?_, hA]
        · rfl
        · unfold mayV
          rw [tok_b hE]
          simp_all
      rw [e]
      refine ⟨a2, min 16 K.length, ?_, hS.toKeep, ?_, ?_⟩
      · refine congrArg (fun x => Value.agg #[.int .i64 t.r1, .int .i64 t.r2, .int .i64 (t.hop + 1), .int .i64 t.seq, .int .i64 (aruV t node aru).1, .int .i64 (aruV t node aru).2, .int .i64 t.stamp, .int .i64 t.idle, x]) ?_
        rw [ownsAt_sub0 h1, List.length_take]
      · simp only [List.length_take]
        rw [Nat.mul_one] at h2
        have e3 : (iv K).take (min 16 K.length) = iv (K.take 16) := by
          unfold iv
          rw [← List.map_take, ← List.take_eq_take_min]
        rw [e3] at h2
        exact h2
      · intro k hk
        exact ⟨Nat.le_of_not_lt fun hlt => hS.mine (il a2 c2 K) (by (repeat (first | exact mH _ _ | apply mT))) rfl k (by cases a2 with | none => cases hk | some ad => exact hk) hlt, ownsAt_lt h2 (by cases a2 with | none => cases hk | some ad => exact hk)⟩)
end Go.Proofs.Ythmmmbphknoagaa

namespace Go.Proofs.Ythmmmbphknoagaa
open Go.Hb Go.Lib
set_option linter.unusedSimpArgs false
set_option linter.unusedVariables false

theorem comp_asc (d : Array Int) (n : Nat) (hs : ∀ i j, i ≤ j → j < n → d[i]! ≤ d[j]!) : ∀ m, m ≤ n → (compactUpTo d m).Pairwise (· < ·) ∧ ∀ x, x ∈ compactUpTo d m ↔ ∃ j, j < m ∧ d[j]! = x
  | 0, _ => ⟨by simp [compactUpTo], fun x => by simp [compactUpTo]⟩
  | m + 1, hm => by
    obtain ⟨h1, h2⟩ := comp_asc d n hs m (by omega)
    rw [compactUpTo_succ]
    by_cases hk : keeps d m = true
    · rw [if_pos hk]
      refine ⟨List.pairwise_append.2 ⟨h1, List.pairwise_singleton _ _, fun x hx y hy => ?_⟩, fun x => ?_⟩
      · obtain ⟨j, hj, rfl⟩ := (h2 x).1 hx
        simp only [List.mem_singleton] at hy
        subst hy
        simp only [keeps, decide_eq_true_eq] at hk
        have a1 := hs j (m - 1) (by omega) (by omega)
        have a2 := hs (m - 1) m (by omega) (by omega)
        have : d[m]! ≠ d[m - 1]! := by rcases hk with h0 | h0; omega; exact h0
        omega
      · rw [List.mem_append, h2, List.mem_singleton]
        constructor
        · rintro (⟨j, hj, e⟩ | e)
          · exact ⟨j, by omega, e⟩
          · exact ⟨m, by omega, e.symm⟩
        · rintro ⟨j, hj, e⟩
          by_cases hjm : j = m
          · subst hjm; exact .inr e.symm
          · exact .inl ⟨j, by omega, e⟩
    · rw [if_neg hk, List.append_nil]
      refine ⟨h1, fun x => ?_⟩
      rw [h2]
      constructor
      · rintro ⟨j, hj, e⟩
        exact ⟨j, by omega, e⟩
      · rintro ⟨j, hj, e⟩
        by_cases hjm : j = m
        · subst hjm
          simp only [keeps, decide_eq_true_eq, not_or, Decidable.not_not] at hk
          exact ⟨j - 1, by omega, by rw [← hk.2]; exact e⟩
        · exact ⟨j, by omega, e⟩
theorem sortI_asc (l : List Int) : ∀ i j, i ≤ j → j < (sortI l).length → (sortI l).toArray[i]! ≤ (sortI l).toArray[j]! := by
  intro i j hij hj
  by_cases e : i = j
  · subst e; exact Int.le_refl _
  have hp : (sortI l).Pairwise (fun x y => decide (x ≤ y) = true) := List.pairwise_mergeSort (fun a b c h1 h2 => by simp at *; omega) (fun a b => by simp; omega) l
  have := List.pairwise_iff_getElem.1 hp i j (by omega) hj (by omega)
  simp only [decide_eq_true_eq] at this
  rw [getElem!_pos _ i (by simpa using (by omega : i < (sortI l).length)), getElem!_pos _ j (by simpa using hj)]
  simpa using this
theorem comp_sort_asc (l : List Int) : (Lib.compact (sortI l)).Pairwise (· < ·) :=
  (comp_asc (sortI l).toArray (sortI l).length (sortI_asc l) _ (Nat.le_refl _)).1
theorem comp_sort_mem (l : List Int) (x : Int) : x ∈ Lib.compact (sortI l) ↔ x ∈ l := by
  have h := (comp_asc (sortI l).toArray (sortI l).length (sortI_asc l) _ (Nat.le_refl _)).2 x
  refine h.trans ?_
  have hm : x ∈ sortI l ↔ x ∈ l := (List.mergeSort_perm l _).mem_iff
  rw [← hm, List.mem_iff_getElem]
  constructor
  · rintro ⟨j, hj, e⟩
    refine ⟨j, hj, ?_⟩
    rw [getElem!_pos _ j (by simpa using hj)] at e
    simpa using e
  · rintro ⟨j, hj, e⟩
    refine ⟨j, hj, ?_⟩
    rw [getElem!_pos _ j (by simpa using hj)]
    simpa using e
theorem asc_ext : ∀ {l r : List Int}, l.Pairwise (· < ·) → r.Pairwise (· < ·) → (∀ x, x ∈ l ↔ x ∈ r) → l = r
  | [], [], _, _, _ => rfl
  | [], b :: r, _, _, h => by have := (h b).2 (by simp); simp at this
  | a :: l, [], _, _, h => by have := (h a).1 (by simp); simp at this
  | a :: l, b :: r, hl, hr, h => by
    rw [List.pairwise_cons] at hl hr
    have e : a = b := by
      have h1 := (h a).1 (by simp)
      have h2 := (h b).2 (by simp)
      rcases List.mem_cons.1 h1 with h1 | h1
      · exact h1
      rcases List.mem_cons.1 h2 with h2 | h2
      · exact h2.symm
      have := hr.1 a h1
      have := hl.1 b h2
      omega
    subst e
    congr 1
    refine asc_ext hl.2 hr.2 fun x => ⟨fun hx => ?_, fun hx => ?_⟩
    · rcases List.mem_cons.1 ((h x).1 (by simp [hx])) with e | e
      · subst e; have := hl.1 x hx; omega
      · exact e
    · rcases List.mem_cons.1 ((h x).2 (by simp [hx])) with e | e
      · subst e; have := hr.1 x hx; omega
      · exact e
theorem comp_sort_self {l : List Int} (h : l.Pairwise (· < ·)) : Lib.compact (sortI l) = l := asc_ext (comp_sort_asc l) h (comp_sort_mem l)
theorem askB_iff (q : Int) : ∀ (l : List Int) (z : Int), askB q z l = true ↔ l.Pairwise (· < ·) ∧ ∀ x ∈ l, z + 1 ≤ x ∧ x ≤ q
  | [], z => by simp [askB]
  | y :: l, z => by
    rw [askB, Bool.and_eq_true, askB_iff q l y, List.pairwise_cons]
    unfold withinB
    simp only [Bool.and_eq_true, decide_eq_true_eq]
    constructor
    · rintro ⟨⟨h1, h2⟩, h3, h4⟩
      refine ⟨⟨fun x hx => by have := h4 x hx; omega, h3⟩, fun x hx => ?_⟩
      rcases List.mem_cons.1 hx with rfl | hx
      · exact ⟨h1, h2⟩
      · have := h4 x hx; omega
    · rintro ⟨⟨h1, h2⟩, h3⟩
      have := h3 y (by simp)
      exact ⟨by omega, h2, fun x hx => ⟨by have := h1 x hx; omega, (h3 x (by simp [hx])).2⟩⟩
theorem tokB_ask {t : Tk} (h : tokB t = true) : t.ask.Pairwise (· < ·) ∧ (∀ x ∈ t.ask, 1 ≤ x ∧ x ≤ t.seq) ∧ t.ask.length ≤ 16 := by
  unfold tokB at h
  rw [Bool.and_eq_true, askB_iff] at h
  have h1 := h.1
  unfold Tk.headB at h1
  simp only [Bool.and_eq_true, decide_eq_true_eq] at h1
  exact ⟨h.2.1, fun x hx => by have := h.2.2 x hx; omega, h1.2⟩
theorem askV_nil {t : Tk} (h : tokB t = true) : askV t [] = t.ask := by
  obtain ⟨h1, _, h3⟩ := tokB_ask h
  unfold askV gapsQ
  rw [List.filter_nil, List.append_nil, comp_sort_self h1, List.take_of_length_le h3]
/-- What is asked for: the first sixteen of the strictly rising list of what was asked for and what is lacked. -/
theorem askV_asc (t : Tk) (g : List Int) : (askV t g).Pairwise (· < ·) := (comp_sort_asc _).sublist (List.take_sublist _ _)
theorem askV_mem {t : Tk} {g : List Int} {x : Int} (h : x ∈ askV t g) : x ∈ t.ask ∨ (x ∈ g ∧ withinB x 1 t.seq = true) := by
  have h1 := (comp_sort_mem _ x).1 (List.mem_of_mem_take h)
  rcases List.mem_append.1 h1 with h1 | h1
  · exact .inl h1
  · exact .inr (by simpa [gapsQ] using h1)
theorem askV_len (t : Tk) (g : List Int) : (askV t g).length ≤ 16 := by unfold askV; rw [List.length_take]; omega
theorem askV_all {t : Tk} {g : List Int} {x : Int} (h : x ∈ g) (hw : withinB x 1 t.seq = true) (hl : (askV t g).length < 16) : x ∈ askV t g := by
  unfold askV at hl ⊢
  rw [List.length_take] at hl
  rw [List.take_of_length_le (by omega)]
  exact (comp_sort_mem _ x).2 (List.mem_append.2 (.inr (by simp [gapsQ, h, hw])))
theorem nodup_le : ∀ {l r : List Int}, l.Pairwise (· < ·) → (∀ x ∈ l, x ∈ r) → l.length ≤ r.length
  | [], _, _, _ => by simp
  | a :: l, r, hl, h => by
    rw [List.pairwise_cons] at hl
    have := nodup_le (l := l) (r := r.erase a) hl.2 (fun x hx => (List.mem_erase_of_ne (by have := hl.1 x hx; omega)).2 (h x (by simp [hx])))
    rw [List.length_erase_of_mem (h a (by simp))] at this
    have h0 : 0 < r.length := List.length_pos_of_mem (h a (by simp))
    simp only [List.length_cons]
    omega
theorem askV_ge {t : Tk} (g : List Int) (h : tokB t = true) : t.ask.length ≤ (askV t g).length := by
  obtain ⟨h1, _, h3⟩ := tokB_ask h
  unfold askV
  rw [List.length_take]
  have := nodup_le (r := Lib.compact (sortI (t.ask ++ gapsQ t.seq g))) h1 (fun x hx => (comp_sort_mem _ x).2 (by simp [hx]))
  omega
/-- A token that was one is one behind a visit. -/
theorem tokB_visit {t : Tk} {node aru : Int} {g : List Int} (h : mayV t node aru = true) : tokB (visitT t node aru g) = true ∧ (visitT t node aru g).hop = t.hop + 1 := by
  unfold visitT
  rw [if_pos h]
  unfold mayV at h
  simp only [Bool.and_eq_true, Bool.not_eq_true', decide_eq_false_iff_not, decide_eq_true_eq] at h
  obtain ⟨⟨⟨hb, hh⟩, hn⟩, ha⟩ := h
  refine ⟨?_, rfl⟩
  have hask := tokB_ask hb
  have hb' := hb
  unfold tokB Tk.headB withinB at hb'
  simp only [Bool.and_eq_true, decide_eq_true_eq] at hb'
  unfold withinB at hn
  simp only [Bool.and_eq_true, decide_eq_true_eq] at hn
  unfold tokB
  rw [Bool.and_eq_true, askB_iff]
  refine ⟨?_, askV_asc t g, fun x hx => ?_⟩
  · unfold Tk.headB withinB
    simp only [Bool.and_eq_true, decide_eq_true_eq]
    have hl := askV_len t g
    have h2 : 0 ≤ (aruV t node aru).1 ∧ (aruV t node aru).1 ≤ t.seq ∧ 0 ≤ (aruV t node aru).2 ∧ (aruV t node aru).2 ≤ 8 := by
      unfold aruV
      split
      · dsimp only
        refine ⟨by split <;> omega, by split <;> omega, by split <;> omega, by split <;> omega⟩
      · dsimp only; omega
    refine ⟨⟨⟨⟨⟨⟨⟨hb'.1.1.1.1.1.1.1.1, ?_⟩, ?_⟩, ?_⟩, ?_⟩, ?_⟩, ?_⟩, ?_⟩ <;> first | omega | exact ⟨by omega, by omega⟩
  · rcases askV_mem hx with h1 | ⟨_, h1⟩
    · have := hask.2.1 x h1; exact ⟨by omega, this.2⟩
    · unfold withinB at h1
      simp only [Bool.and_eq_true, decide_eq_true_eq] at h1
      exact ⟨by omega, h1.2⟩
end Go.Proofs.Ythmmmbphknoagaa

namespace Go.Proofs.Ythmmmbphknoagaa
open Go.Hb
attribute [local irreducible] LR CW At Ev thn blk finK noG again CallsTo
set_option linter.unusedSimpArgs false
set_option linter.unusedVariables false
set_option maxRecDepth 100000

def usualT : Tk := ⟨4, 1, 1, 9, 5, 3, 20, 0, []⟩
theorem new_usual : newTk 4 1 20 = (⟨4, 1, 1, 0, 0, 0, 20, 0, []⟩, 0) := by decide +kernel
theorem t48 (w : World) : CallsTo Try.prog 48 [] w fun v w' => v = usualT.val none 0 ∧ Grew w w' := by
  refine go_in (n := 12) (St.refl _ NoF) Try.func48 rfl rfl ?_
  repeat'(first|(apply kp;iterate 2 exact rfl)|apply jJ|(apply jE;exact rfl)|(apply jp;exact rfl)|(apply jc;kernel_rfl)|((first|apply kf|apply kn|apply ke|apply kx|apply kc|apply kb);iterate 2 exact rfl)|((first|apply kz|apply ky);(·exact rfl);(·repeat(first|exact iO|exact iR rfl|apply iT));iterate 2 exact rfl)|(apply kg;iterate 2 exact rfl)|(apply kG;iterate 3 exact rfl)|(apply kB;(iterate 2 exact rfl);intro _)|(apply kA;exact rfl;intro _)|(apply Go.Hb.kK;(iterate 4 exact rfl);intro _)|(apply kU;(iterate 2 exact rfl);(·repeat(first|exact sH _ _ _|apply sT));(first|exact nfL_eq rfl|exact rfl);exact rfl)|((first|apply kh|apply kl);(iterate 2 exact rfl);(first|decide|omega);exact rfl)|(apply kq; (· exact rfl); (· intro w1 h1; (have hq := CallsTo.q (t22 4 1 20 w1) h1; rw [new_usual] at hq; exact hq)))|((first|(apply kR;iterate 2 exact rfl)|(apply kQ;exact rfl));all_goals(intro hc;try simp only[hcs]at hc;try(exfalso;first|contradiction|omega))))
  (apply ret1c; (· exact rfl); (· exact inferInstance); (· exact rfl); (· (repeat (first | exact List.Mem.head _ | apply List.Mem.tail))); (· exact rfl); intro w' hS)
  exact ⟨rfl, hS.toKeep⟩
theorem may_u (node aru : Int) (h1 : withinB node 1 8 = true) (h2 : 0 ≤ aru) : mayV usualT node aru = true := by
  have hb : tokB usualT = true := by decide +kernel
  have hh : ¬usualT.hop = 9007199254740991 := by decide
  unfold mayV
  rw [hb, h1]
  simp [h2, hh]
theorem vis_a : visitT usualT 2 4 [5, 7] = ⟨4, 1, 2, 9, 4, 2, 20, 0, [5, 7]⟩ := by
  unfold visitT
  rw [if_pos (may_u _ _ (by decide) (by decide))]
  have e : askV usualT [5, 7] = [5, 7] := by
    have e1 : usualT.ask ++ gapsQ usualT.seq [5, 7] = [5, 7] := by decide +kernel
    unfold askV
    rw [e1, comp_sort_self (by decide)]
    rfl
  rw [e]
  rfl
theorem vis_b : visitT usualT 3 9 [] = ⟨4, 1, 2, 9, 9, 0, 20, 0, []⟩ := by
  unfold visitT
  rw [if_pos (may_u _ _ (by decide) (by decide)), askV_nil (by decide +kernel)]
  rfl
set_option maxHeartbeats 1000000 in
theorem t20 (w : World) : CallsTo Try.prog 20 [] w fun v w' => v = .bool true ∧ Grew w w' := by
  refine go_in (n := 46) (St.refl _ NoF) Try.func20 rfl rfl ?_
  repeat'(first|(apply Go.Hb.kK;(iterate 4 exact rfl);intro bs)|(apply kp;iterate 2 exact rfl)|apply jJ|(apply jE;exact rfl)|(apply jp;exact rfl)|(apply jc;kernel_rfl)|((first|apply kf|apply kn|apply ke|apply kx|apply kc|apply kb);iterate 2 exact rfl)|((first|apply kz|apply ky);(·exact rfl);(·repeat(first|exact iO|exact iR rfl|apply iT));iterate 2 exact rfl)|(apply kg;iterate 2 exact rfl)|(apply kG;iterate 3 exact rfl)|(apply kB;(iterate 2 exact rfl);intro _)|(apply kA;exact rfl;intro _)|(apply Go.Hb.kK;(iterate 4 exact rfl);intro _)|(apply kU;(iterate 2 exact rfl);(·repeat(first|exact sH _ _ _|apply sT));(first|exact nfL_eq rfl|exact rfl);exact rfl)|((first|apply kh|apply kl);(iterate 2 exact rfl);(first|decide|omega);exact rfl)|(apply kq; (· exact rfl); (· intro w1 h1; exact CallsTo.q (t48 w1) h1))|((first|(apply kR;iterate 2 exact rfl)|(apply kQ;exact rfl));all_goals(intro hc;try simp only[hcs]at hc;try(exfalso;first|contradiction|omega))))
  apply LR.call
  · exact rfl
  intro w1 h1
  have h14 := t14 usualT none 0 2 4 (some ⟨bs, 0, none⟩) 2 [5, 7] w1 (Rd.nil _ _) (fun _ => rfl) (by simp [usualT]) (h1.rd_of_blk (by (repeat (first | exact mH _ _ | apply mT)))) (by simp)
  rw [vis_a] at h14
  refine h14.mono ?_
  rintro v w2 ⟨a1, c1, rfl, hn⟩
  refine LR.back (St.newOd h1 hn) ?_
  clear hn h14 h1
  repeat'(first|(apply kp;iterate 2 exact rfl)|apply jJ|(apply jE;exact rfl)|(apply jp;exact rfl)|(apply jc;kernel_rfl)|((first|apply kf|apply kn|apply ke|apply kx|apply kc|apply kb);iterate 2 exact rfl)|((first|apply kz|apply ky);(·exact rfl);(·repeat(first|exact iO|exact iR rfl|apply iT));iterate 2 exact rfl)|(apply kg;iterate 2 exact rfl)|(apply kG;iterate 3 exact rfl)|(apply kB;(iterate 2 exact rfl);intro _)|(apply kA;exact rfl;intro _)|(apply Go.Hb.kK;(iterate 4 exact rfl);intro _)|(apply kU;(iterate 2 exact rfl);(·repeat(first|exact sH _ _ _|apply sT));(first|exact nfL_eq rfl|exact rfl);exact rfl)|((first|apply kh|apply kl);(iterate 2 exact rfl);(first|decide|omega);exact rfl)|(apply kq; (· exact rfl); (· intro w1 h1; exact CallsTo.q (t48 w1) h1))|((first|(apply kR;iterate 2 exact rfl)|(apply kQ;exact rfl));all_goals(intro hc;try simp only[hcs]at hc;try(exfalso;first|contradiction|omega))))
  apply LR.call
  · exact rfl
  intro w1 h1
  have h14 := t14 usualT none 0 3 9 none 0 [] w1 (Rd.nil _ _) (fun _ => rfl) (by simp [usualT]) (Rd.nil _ _) (by simp)
  rw [vis_b] at h14
  refine h14.mono ?_
  rintro v w2 ⟨a2, c2, rfl, hn⟩
  refine LR.back (St.newOd h1 hn) ?_
  clear hn h14 h1
  repeat'(first|(apply Go.Hb.kK;(iterate 4 exact rfl);intro bt)|(apply kp;iterate 2 exact rfl)|apply jJ|(apply jE;exact rfl)|(apply jp;exact rfl)|(apply jc;kernel_rfl)|((first|apply kf|apply kn|apply ke|apply kx|apply kc|apply kb);iterate 2 exact rfl)|((first|apply kz|apply ky);(·exact rfl);(·repeat(first|exact iO|exact iR rfl|apply iT));iterate 2 exact rfl)|(apply kg;iterate 2 exact rfl)|(apply kG;iterate 3 exact rfl)|(apply kB;(iterate 2 exact rfl);intro _)|(apply kA;exact rfl;intro _)|(apply Go.Hb.kK;(iterate 4 exact rfl);intro _)|(apply kU;(iterate 2 exact rfl);(·repeat(first|exact sH _ _ _|apply sT));(first|exact nfL_eq rfl|exact rfl);exact rfl)|((first|apply kh|apply kl);(iterate 2 exact rfl);(first|decide|omega);exact rfl)|(apply kq; (· exact rfl); (· intro w1 h1; first | exact CallsTo.q (t23 3 5 4 w1) h1 | exact CallsTo.q (t19 a1 (some ⟨bt, 0, none⟩) c1 2 [5, 7] [5, 7] w1 (h1.rd_of_odl (by (repeat (first | exact mH _ _ | apply mT)))) (h1.rd_of_blk (by (repeat (first | exact mH _ _ | apply mT)))) (by simp)) h1))|((first|(apply kR;iterate 2 exact rfl)|(apply kQ;exact rfl));all_goals(intro hc;try simp only[hcs]at hc;try(exfalso;first|contradiction|omega))))
  (apply ret1; (· exact rfl); intro w' hS)
  exact ⟨rfl, hS.toKeep⟩
theorem not_take {l : List Int} {n : Int} {i : Nat} (hlt : i < l.length) (heq : n ∉ l.take i) (h : ¬l[i] = n) : n ∉ l.take (i + 1) := by
  rw [List.take_add_one, List.getElem?_eq_getElem hlt, Option.toList_some, List.mem_append, List.mem_singleton]
  rintro (h1 | h1)
  · exact heq h1
  · exact h h1.symm
theorem t47 (a : Option Addr) (ca : Nat) (l : List Int) (n : Int) (w : World) (hr : Rd w a (iv l)) (hm : l.length ≤ 17592186043904) :
    CallsTo Try.prog 47 [.slice a l.length ca, .int .i64 n] w fun v w' => v = .bool (decide (n ∈ l)) ∧ Grew w w' := by
  refine go_in (n := 18) (St.rd1 hr) Try.func47 rfl rfl ?_
  repeat'(first|(apply kp;iterate 2 exact rfl)|apply jJ|(apply jE;exact rfl)|(apply jp;exact rfl)|(apply jc;kernel_rfl)|((first|apply kf|apply kn|apply ke|apply kx|apply kc|apply kb);iterate 2 exact rfl)|((first|apply kz|apply ky);(·exact rfl);(·repeat(first|exact iO|exact iR rfl|apply iT));iterate 2 exact rfl)|(apply kg;iterate 2 exact rfl)|(apply kG;iterate 3 exact rfl)|(apply kB;(iterate 2 exact rfl);intro _)|(apply kA;exact rfl;intro _)|(apply Go.Hb.kK;(iterate 4 exact rfl);intro _)|(apply kU;(iterate 2 exact rfl);(·repeat(first|exact sH _ _ _|apply sT));(first|exact nfL_eq rfl|exact rfl);exact rfl)|((first|apply kh|apply kl);(iterate 2 exact rfl);(first|decide|omega);exact rfl)|((first|(apply kR;iterate 2 exact rfl)|(apply kQ;exact rfl));all_goals(intro hc;try simp only[hcs]at hc;try(exfalso;first|contradiction|omega))))
  apply CW.loop [4, 5, 6, 7, 8, 9, 10, 11, 12, 13, 14, 15, 16, 17] (fun i : Nat => i ≤ l.length ∧ n ∉ l.take i) (fun i : Nat => [(5, Value.int .i64 i)]) (fun i => St w NoF [rdA a (iv l)]) (fun i => l.length - i)
  · exact fun w' hw' => ⟨0, ⟨by omega, by simp⟩, ⟨rfl, trivial⟩, hw'⟩
  intro i g ⟨hi, heq⟩
  by_cases hlt : i < l.length
  · obtain ⟨ba, oa, rfl⟩ := hr.form (fun e => by have := congrArg List.length e; simp at this; subst this; simp at hlt)
    repeat'(first|(apply kp;iterate 2 exact rfl)|apply jJ|(apply jE;exact rfl)|(apply jp;exact rfl)|(apply jc;kernel_rfl)|((first|apply kf|apply kn|apply ke|apply kx|apply kc|apply kb);iterate 2 exact rfl)|((first|apply kz|apply ky);(·exact rfl);(·repeat(first|exact iO|exact iR rfl|apply iT));iterate 2 exact rfl)|(apply kg;iterate 2 exact rfl)|(apply kG;iterate 3 exact rfl)|(apply kB;(iterate 2 exact rfl);intro _)|(apply kA;exact rfl;intro _)|(apply Go.Hb.kK;(iterate 4 exact rfl);intro _)|(apply kU;(iterate 2 exact rfl);(·repeat(first|exact sH _ _ _|apply sT));(first|exact nfL_eq rfl|exact rfl);exact rfl)|((first|apply kh|apply kl);(iterate 2 exact rfl);(first|decide|omega);exact rfl)|(apply idxX;(iterate 2 exact rfl);(iterate 2(first|omega|(dsimp only;omega)));exact rfl)|(apply LR.ev; (· apply Ev.load_rd; (· exact rfl); (· repeat (first | exact mH _ _ | apply mT)); (· exact iv_at (i := i) (by simp) (by omega))); (· exact rfl))|(apply addX;(iterate 2 exact rfl);(iterate 2(first|omega|(dsimp only;omega)));exact rfl)|((first|(apply kR;iterate 2 exact rfl)|(apply kQ;exact rfl));all_goals(intro hc;try simp only[hcs]at hc;try(exfalso;first|contradiction|omega))))
    · (apply ret1; (· exact rfl); intro w' hS)
      refine ⟨congrArg Value.bool ?_, hS.toKeep⟩
      have : n ∈ l := by
        have h : l[i] = n := by assumption
        exact h ▸ List.getElem_mem hlt
      simp [this]
    · have h : ¬l[i] = n := by assumption
      apply At.again (i + 1) ⟨by omega, not_take hlt heq h⟩
      · (repeat (first | exact Out.refl _ _ | exact Out.mix | (apply Out.upd; (· exact rfl)) | (apply Out.updL; (· exact rfl)) | (apply Out.mixs; (· exact rfl))))
      · exact ⟨rfl, trivial⟩
      · exact fun w' hw' => hw'
      · omega
  · have hie : i = l.length := by omega
    subst hie
    repeat'(first|(apply kp;iterate 2 exact rfl)|apply jJ|(apply jE;exact rfl)|(apply jp;exact rfl)|(apply jc;kernel_rfl)|((first|apply kf|apply kn|apply ke|apply kx|apply kc|apply kb);iterate 2 exact rfl)|((first|apply kz|apply ky);(·exact rfl);(·repeat(first|exact iO|exact iR rfl|apply iT));iterate 2 exact rfl)|(apply kg;iterate 2 exact rfl)|(apply kG;iterate 3 exact rfl)|(apply kB;(iterate 2 exact rfl);intro _)|(apply kA;exact rfl;intro _)|(apply Go.Hb.kK;(iterate 4 exact rfl);intro _)|(apply kU;(iterate 2 exact rfl);(·repeat(first|exact sH _ _ _|apply sT));(first|exact nfL_eq rfl|exact rfl);exact rfl)|((first|apply kh|apply kl);(iterate 2 exact rfl);(first|decide|omega);exact rfl)|((first|(apply kR;iterate 2 exact rfl)|(apply kQ;exact rfl));all_goals(intro hc;try simp only[hcs]at hc;try(exfalso;first|contradiction|omega))))
    (apply ret1; (· exact rfl); intro w' hS)
    refine ⟨congrArg Value.bool ?_, hS.toKeep⟩
    rw [List.take_length] at heq
    simp [heq]
end Go.Proofs.Ythmmmbphknoagaa

namespace Go.Proofs.Ythmmmbphknoagaa
open Go.Hb Go.Lib
set_option linter.unusedSimpArgs false
set_option linter.unusedVariables false

def gd (l : List Int) (k : Nat) : Int := l.getD k 0
theorem gd_set {l : List Int} {k : Nat} (x : Int) (j : Nat) (h : k < l.length) : gd (l.set k x) j = if j = k then x else gd l j := by
  unfold gd
  rw [List.getD_eq_getElem?_getD, List.getD_eq_getElem?_getD, List.getElem?_set]
  by_cases e : k = j
  · subst e; simp [h]
  · have : ¬j = k := fun h => e h.symm
    simp [e, this]
theorem gd_get {l : List Int} {k : Nat} (h : k < l.length) : (iv l)[k]? = some (.int .i64 (gd l k)) := by
  unfold gd iv
  simp [h]
theorem iv_set (l : List Int) (k : Nat) (x : Int) : (iv l).set k (.int .i64 x) = iv (l.set k x) := by
  unfold iv; rw [List.map_set]
/-- Node j was visited since node k was, where node c is next. -/
def Vs (k j c : Nat) : Prop := if k < c then k ≤ j ∧ j < c else k ≤ j ∨ j < c
structure SInv (n i : Nat) (al ll sl : List Int) (t : Tk) : Prop where
  n1 : 1 ≤ n
  n8 : n ≤ 8
  la : al.length = 8
  lll : ll.length = 8
  ls : sl.length = 8
  tk : tokB t = true
  hop : t.hop = (i : Int) + 1
  ask : t.ask = []
  seqb : t.seq ≤ 3 * (i : Int)
  ab : ∀ j, j < n → 0 ≤ gd al j ∧ gd al j ≤ t.seq
  sb : ∀ k, k < n → ∀ j, j < n → gd sl k ≤ gd al j
  lb : ∀ k, k < n → gd ll k ≤ t.seq
  pk : ∀ k, k < n → (∀ j, j < n → Vs k j (i % n) → gd ll k ≤ gd al j ∨ t.aru ≤ gd al j) ∧ (gd ll k ≤ t.aru ∨ ∃ m, m < n ∧ t.low = (m : Int) + 1 ∧ Vs k m (i % n))
theorem next_mod {n : Nat} (i : Nat) (h : 1 ≤ n) : (i + 1) % n = if i % n + 1 = n then 0 else i % n + 1 := by
  have h1 := Nat.mod_lt i (show 0 < n by omega)
  split
  · rename_i e
    rw [Nat.add_mod, ← Nat.mod_eq_of_lt h1]
    by_cases h2 : n = 1
    · subst h2; simp [Nat.mod_one]
    · rw [Nat.mod_eq_of_lt (show 1 < n by omega), Nat.mod_eq_of_lt h1, e, Nat.mod_self]
  · rename_i e
    by_cases h2 : n = 1
    · subst h2; simp [Nat.mod_one] at e
    · rw [Nat.add_mod, Nat.mod_eq_of_lt (show 1 < n by omega), Nat.mod_eq_of_lt (by omega)]
def al1 (n i : Nat) (al : List Int) (t : Tk) (y1 : Int) : List Int := al.set (i % n) (if gd al (i % n) + y1 < t.seq then gd al (i % n) + y1 else t.seq)
def sl1 (n i : Nat) (ll sl : List Int) (t : Tk) : List Int := sl.set (i % n) (max (gd sl (i % n)) (min (gd ll (i % n)) t.aru))
def tk1 (t : Tk) (y2 : Int) : Tk := { t with seq := t.seq + y2 }
def al2 (n i : Nat) (al : List Int) (t : Tk) (y1 y2 : Int) : List Int := if gd (al1 n i al t y1) (i % n) = t.seq then (al1 n i al t y1).set (i % n) (t.seq + y2) else al1 n i al t y1
def tk2 (n i : Nat) (al : List Int) (t : Tk) (y1 y2 : Int) : Tk := visitT (tk1 t y2) (1 + ((i % n : Nat) : Int)) (gd (al2 n i al t y1 y2) (i % n)) []
def ll1 (n i : Nat) (al ll : List Int) (t : Tk) (y1 y2 : Int) : List Int := ll.set (i % n) (tk2 n i al t y1 y2).aru
def al3 (n i : Nat) (al : List Int) (t : Tk) (y1 y2 y3 : Int) (jj : Nat) : List Int := (al2 n i al t y1 y2).set jj (if gd (al2 n i al t y1 y2) jj + y3 < (tk2 n i al t y1 y2).seq then gd (al2 n i al t y1 y2) jj + y3 else (tk2 n i al t y1 y2).seq)
theorem tok1 {t : Tk} {y2 : Int} (h : tokB t = true) (ha : t.ask = []) (h2 : 0 ≤ y2) (hb : t.seq + y2 ≤ 9007199254740991) : tokB (tk1 t y2) = true := by
  unfold tokB Tk.headB withinB at h ⊢
  simp only [Bool.and_eq_true, decide_eq_true_eq] at h ⊢
  have e : (tk1 t y2).ask = [] := ha
  refine ⟨⟨⟨⟨⟨⟨⟨⟨h.1.1.1.1.1.1.1.1, h.1.1.1.1.1.1.1.2⟩, ?_⟩, ?_⟩, h.1.1.1.1.2⟩, h.1.1.1.2⟩, h.1.1.2⟩, h.1.2⟩, ?_⟩
  · show 0 ≤ t.seq + y2 ∧ t.seq + y2 ≤ _; omega
  · show 0 ≤ t.aru ∧ t.aru ≤ t.seq + y2; omega
  · rw [e]; rfl
section
variable {n i : Nat} {al ll sl : List Int} {t : Tk} {y1 y2 y3 : Int} {jj : Nat}
theorem SInv.kn (h : SInv n i al ll sl t) : i % n < n := Nat.mod_lt _ h.n1
theorem SInv.k8 (h : SInv n i al ll sl t) : i % n < 8 := Nat.lt_of_lt_of_le h.kn h.n8
theorem al1_ge (h : SInv n i al ll sl t) (hy : 0 ≤ y1) (j : Nat) (hj : j < n) : gd al j ≤ gd (al1 n i al t y1) j ∧ gd (al1 n i al t y1) j ≤ t.seq := by
  unfold al1
  rw [gd_set _ _ (by rw [h.la]; exact h.k8)]
  have a1 := h.ab j hj
  split
  · rename_i e; subst e
    split <;> omega
  · omega
theorem al1_len (h : SInv n i al ll sl t) : (al1 n i al t y1).length = 8 := by unfold al1; rw [List.length_set, h.la]
theorem safe_ok (h : SInv n i al ll sl t) (hy : 0 ≤ y1) (j : Nat) (hj : j < n) : gd (sl1 n i ll sl t) (i % n) ≤ gd (al1 n i al t y1) j := by
  unfold sl1
  rw [gd_set _ _ (by rw [h.ls]; exact h.k8), if_pos rfl]
  have a1 := al1_ge h hy j hj
  have a2 := h.sb (i % n) h.kn j hj
  have a3 := (h.pk (i % n) h.kn).1 j hj (by unfold Vs; rw [if_neg (by omega)]; omega)
  omega
theorem al2_len (h : SInv n i al ll sl t) : (al2 n i al t y1 y2).length = 8 := by
  unfold al2; split
  · rw [List.length_set, al1_len h]
  · exact al1_len h
theorem al2_ge (h : SInv n i al ll sl t) (hy : 0 ≤ y1) (hy2 : 0 ≤ y2) (j : Nat) (hj : j < n) : gd al j ≤ gd (al2 n i al t y1 y2) j ∧ gd (al2 n i al t y1 y2) j ≤ t.seq + y2 ∧ gd (al1 n i al t y1) j ≤ gd (al2 n i al t y1 y2) j := by
  have a1 := al1_ge h hy j hj
  unfold al2
  split
  · rw [gd_set _ _ (by rw [al1_len h]; exact h.k8)]
    split
    · rename_i e; subst e; omega
    · omega
  · omega
theorem may_ok (h : SInv n i al ll sl t) (hi : i < 200) (hy : 0 ≤ y1) (hy2 : 0 ≤ y2) (h3 : y2 ≤ 3) : mayV (tk1 t y2) (1 + ((i % n : Nat) : Int)) (gd (al2 n i al t y1 y2) (i % n)) = true := by
  have hs := h.seqb
  have hh := h.hop
  have hk := h.k8
  have a1 := al2_ge (y1 := y1) (y2 := y2) h hy hy2 _ h.kn
  have a2 := h.ab _ h.kn
  unfold mayV
  rw [tok1 h.tk h.ask hy2 (by omega)]
  have e : (tk1 t y2).hop = t.hop := rfl
  rw [e, hh]
  unfold withinB
  simp
  omega
theorem tk2_eq (h : SInv n i al ll sl t) (hi : i < 200) (hy : 0 ≤ y1) (hy2 : 0 ≤ y2) (h3 : y2 ≤ 3) :
    tk2 n i al t y1 y2 = ⟨t.r1, t.r2, t.hop + 1, t.seq + y2, (aruV (tk1 t y2) (1 + ((i % n : Nat) : Int)) (gd (al2 n i al t y1 y2) (i % n))).1, (aruV (tk1 t y2) (1 + ((i % n : Nat) : Int)) (gd (al2 n i al t y1 y2) (i % n))).2, t.stamp, t.idle, []⟩ := by
  have hs := h.seqb
  unfold tk2 visitT
  rw [if_pos (may_ok h hi hy hy2 h3), askV_nil (tok1 h.tk h.ask hy2 (by omega))]
  show _ = _
  rw [show (tk1 t y2).ask = [] from h.ask]
  rfl
theorem aru_cases (h : SInv n i al ll sl t) (hi : i < 200) (hy : 0 ≤ y1) (hy2 : 0 ≤ y2) (h3 : y2 ≤ 3) :
    ((gd (al2 n i al t y1 y2) (i % n) < t.aru ∨ t.low = 1 + ((i % n : Nat) : Int) ∨ t.low = 0) ∧ (tk2 n i al t y1 y2).aru = gd (al2 n i al t y1 y2) (i % n) ∧ (tk2 n i al t y1 y2).low = (if gd (al2 n i al t y1 y2) (i % n) = t.seq + y2 then 0 else 1 + ((i % n : Nat) : Int))) ∨
    (¬(gd (al2 n i al t y1 y2) (i % n) < t.aru ∨ t.low = 1 + ((i % n : Nat) : Int) ∨ t.low = 0) ∧ (tk2 n i al t y1 y2).aru = t.aru ∧ (tk2 n i al t y1 y2).low = t.low) := by
  rw [tk2_eq h hi hy hy2 h3]
  have a1 := al2_ge (y1 := y1) (y2 := y2) h hy hy2 _ h.kn
  generalize gd (al2 n i al t y1 y2) (i % n) = a at a1 ⊢
  unfold aruV
  show (_ ∧ (if a < t.aru ∨ t.low = 1 + ((i % n : Nat) : Int) ∨ t.low = 0 then (if t.seq + y2 < a then t.seq + y2 else a, if (if t.seq + y2 < a then t.seq + y2 else a) = t.seq + y2 then 0 else 1 + ((i % n : Nat) : Int)) else (t.aru, t.low)).1 = a ∧ (if a < t.aru ∨ t.low = 1 + ((i % n : Nat) : Int) ∨ t.low = 0 then (if t.seq + y2 < a then t.seq + y2 else a, if (if t.seq + y2 < a then t.seq + y2 else a) = t.seq + y2 then 0 else 1 + ((i % n : Nat) : Int)) else (t.aru, t.low)).2 = _) ∨ (_ ∧ (if a < t.aru ∨ t.low = 1 + ((i % n : Nat) : Int) ∨ t.low = 0 then (if t.seq + y2 < a then t.seq + y2 else a, if (if t.seq + y2 < a then t.seq + y2 else a) = t.seq + y2 then 0 else 1 + ((i % n : Nat) : Int)) else (t.aru, t.low)).1 = _ ∧ (if a < t.aru ∨ t.low = 1 + ((i % n : Nat) : Int) ∨ t.low = 0 then (if t.seq + y2 < a then t.seq + y2 else a, if (if t.seq + y2 < a then t.seq + y2 else a) = t.seq + y2 then 0 else 1 + ((i % n : Nat) : Int)) else (t.aru, t.low)).2 = _)
  have e : (if t.seq + y2 < a then t.seq + y2 else a) = a := by split <;> omega
  rw [e]
  by_cases hc : a < t.aru ∨ t.low = 1 + ((i % n : Nat) : Int) ∨ t.low = 0
  · rw [if_pos hc]; exact .inl ⟨hc, rfl, rfl⟩
  · rw [if_neg hc]; exact .inr ⟨hc, rfl, rfl⟩
theorem SInv.step (h : SInv n i al ll sl t) (hi : i < 200) (hy : 0 ≤ y1) (hy2 : 0 ≤ y2) (h3 : y2 ≤ 3) (hy3 : 0 ≤ y3) (hjj : jj < n) :
    SInv n (i + 1) (al3 n i al t y1 y2 y3 jj) (ll1 n i al ll t y1 y2) (sl1 n i ll sl t) (tk2 n i al t y1 y2) := by
  have hE := tk2_eq (y1 := y1) (y2 := y2) h hi hy hy2 h3
  have hC := aru_cases (y1 := y1) (y2 := y2) h hi hy hy2 h3
  have hV : tokB (tk2 n i al t y1 y2) = true := (tokB_visit (g := []) (may_ok (y1 := y1) (y2 := y2) h hi hy hy2 h3)).1
  have hseq : (tk2 n i al t y1 y2).seq = t.seq + y2 := by rw [hE]
  have hsb := h.seqb
  have hn1 := h.n1
  have hn8 := h.n8
  have hkn := h.kn
  have h3ge : ∀ j, j < n → gd (al2 n i al t y1 y2) j ≤ gd (al3 n i al t y1 y2 y3 jj) j ∧ gd (al3 n i al t y1 y2 y3 jj) j ≤ t.seq + y2 := by
    intro j hj
    have a1 := al2_ge (y1 := y1) (y2 := y2) h hy hy2 j hj
    unfold al3
    rw [gd_set _ _ (by rw [al2_len h]; omega), hseq]
    split
    · rename_i e; subst e
      split <;> omega
    · omega
  refine ⟨h.n1, h.n8, by unfold al3; rw [List.length_set, al2_len h], by unfold ll1; rw [List.length_set, h.lll], by unfold sl1; rw [List.length_set, h.ls], hV, ?_, ?_, ?_, ?_, ?_, ?_, ?_⟩
  · rw [hE]; show t.hop + 1 = _; rw [h.hop]; omega
  · rw [hE]
  · rw [hseq]; omega
  · intro j hj
    rw [hseq]
    have a1 := al2_ge (y1 := y1) (y2 := y2) h hy hy2 j hj
    have a2 := h.ab j hj
    have a3 := h3ge j hj
    omega
  · intro k hk j hj
    have a1 := al2_ge (y1 := y1) (y2 := y2) h hy hy2 j hj
    have a3 := h3ge j hj
    by_cases e : k = i % n
    · subst e
      have := safe_ok (y1 := y1) h hy j hj
      omega
    · unfold sl1
      rw [gd_set _ _ (by rw [h.ls]; exact h.k8), if_neg e]
      have := h.sb k hk j hj
      omega
  · intro k hk
    rw [hseq]
    unfold ll1
    rw [gd_set _ _ (by rw [h.lll]; exact h.k8)]
    have a1 := al2_ge (y1 := y1) (y2 := y2) h hy hy2 _ h.kn
    have a2 := h.lb k hk
    have a3 := (tok_bd (t := t) (by unfold tokE; rw [if_pos h.tk]))
    split
    · rcases hC with ⟨_, e, _⟩ | ⟨_, e, _⟩ <;> rw [e] <;> omega
    · omega
  · intro k hk
    rw [next_mod i hn1]
    have b1 := al2_ge (y1 := y1) (y2 := y2) h hy hy2 _ h.kn
    have b3 := h3ge _ h.kn
    have hA : (tk2 n i al t y1 y2).aru ≤ gd (al2 n i al t y1 y2) (i % n) := by
      rcases hC with ⟨_, e, _⟩ | ⟨hn, e, _⟩ <;> rw [e] <;> omega
    unfold ll1
    rw [gd_set _ _ (by rw [h.lll]; exact h.k8)]
    by_cases ek : k = i % n
    · rw [if_pos ek]
      refine ⟨fun j hj hv => .inl ?_, .inl (Int.le_refl _)⟩
      have : j = i % n := by
        unfold Vs at hv
        subst ek
        generalize i % n = c at *
        split at hv <;> split at hv <;> omega
      rw [this]
      omega
    · rw [if_neg ek]
      obtain ⟨p1, p2⟩ := h.pk k hk
      refine ⟨fun j hj hv => ?_, ?_⟩
      · by_cases ej : j = i % n
        · rw [ej]; exact .inr (by omega)
        · have c1 := al2_ge (y1 := y1) (y2 := y2) h hy hy2 j hj
          have c3 := h3ge j hj
          have hv' : Vs k j (i % n) := by
            unfold Vs at hv ⊢
            generalize i % n = c at *
            split at hv <;> split at hv <;> split <;> omega
          rcases p1 j hj hv' with q | q
          · exact .inl (by omega)
          · rcases hC with ⟨hb, e, _⟩ | ⟨_, e, _⟩
            · rw [e]
              by_cases hle : gd (al2 n i al t y1 y2) (i % n) ≤ t.aru
              · exact .inr (by omega)
              · rcases p2 with q2 | ⟨m, hm, hlow, hvm⟩
                · exact .inl (by omega)
                · exfalso
                  have : m = i % n := by omega
                  unfold Vs at hvm
                  split at hvm <;> omega
            · rw [e]; exact .inr (by omega)
      · rcases hC with ⟨hb, e, el⟩ | ⟨_, e, el⟩
        · rw [e, el]
          by_cases hle : gd ll k ≤ gd (al2 n i al t y1 y2) (i % n)
          · exact .inl hle
          · have a2 := h.lb k hk
            rw [if_neg (by omega)]
            refine .inr ⟨i % n, hkn, by omega, ?_⟩
            unfold Vs
            split <;> split <;> omega
        · rw [e, el]
          rcases p2 with q2 | ⟨m, hm, hlow, hvm⟩
          · exact .inl q2
          · refine .inr ⟨m, hm, hlow, ?_⟩
            unfold Vs at hvm ⊢
            split at hvm <;> split <;> split <;> omega
end
end Go.Proofs.Ythmmmbphknoagaa

namespace Go.Proofs.Ythmmmbphknoagaa
open Go.Hb
attribute [local irreducible] LR CW At Ev thn blk finK noG again CallsTo DW QL dnext
set_option linter.unusedSimpArgs false
set_option linter.unusedVariables false
set_option maxRecDepth 100000

def bringT (i n : Int) : Int := if n ≤ 0 then 0 else if i.tmod n < 0 then i.tmod n + n else i.tmod n
theorem tmod_bdT (i n : Int) (h : 0 < n) : -n < i.tmod n ∧ i.tmod n < n := by
  have h1 := Int.tmod_lt_of_pos i h
  have h2 := Int.tmod_lt_of_pos (-i) h
  rw [Int.neg_tmod] at h2
  omega
theorem bringT_bd (i n : Int) (h : 0 < n) : 0 ≤ bringT i n ∧ bringT i n < n := by
  have := tmod_bdT i n h
  unfold bringT; rw [if_neg (by omega)]; split <;> omega
theorem t21 (i n : Int) (w : World) (hn : n ≤ 9223372036854775807) : CallsTo Try.prog 21 [.int .i64 i, .int .i64 n] w fun v w' => v = .int .i64 (bringT i n) ∧ Grew w w' := by
  refine go_in (n := 16) (St.refl _ NoF) Try.func21 rfl rfl ?_
  by_cases h : n ≤ 0
  · repeat'(first|(apply kp;iterate 2 exact rfl)|apply jJ|(apply jE;exact rfl)|(apply jp;exact rfl)|(apply jc;kernel_rfl)|((first|apply kf|apply kn|apply ke|apply kx|apply kc|apply kb);iterate 2 exact rfl)|((first|apply kz|apply ky);(·exact rfl);(·repeat(first|exact iO|exact iR rfl|apply iT));iterate 2 exact rfl)|(apply kg;iterate 2 exact rfl)|(apply kG;iterate 3 exact rfl)|(apply kB;(iterate 2 exact rfl);intro _)|(apply kA;exact rfl;intro _)|(apply Go.Hb.kK;(iterate 4 exact rfl);intro _)|(apply kU;(iterate 2 exact rfl);(·repeat(first|exact sH _ _ _|apply sT));(first|exact nfL_eq rfl|exact rfl);exact rfl)|((first|apply kh|apply kl);(iterate 2 exact rfl);(first|decide|omega);exact rfl)|((first|(apply kR;iterate 2 exact rfl)|(apply kQ;exact rfl));all_goals(intro hc;try simp only[hcs]at hc;try(exfalso;first|contradiction|omega))))
    (apply ret1; (· exact rfl); intro w' hS)
    exact ⟨congrArg (Value.int .i64) (by unfold bringT; rw [if_pos h]), hS⟩
  · have hb := tmod_bdT i n (by omega)
    repeat'(first|(apply kp;iterate 2 exact rfl)|apply jJ|(apply jE;exact rfl)|(apply jp;exact rfl)|(apply jc;kernel_rfl)|((first|apply kf|apply kn|apply ke|apply kx|apply kc|apply kb);iterate 2 exact rfl)|((first|apply kz|apply ky);(·exact rfl);(·repeat(first|exact iO|exact iR rfl|apply iT));iterate 2 exact rfl)|(apply kg;iterate 2 exact rfl)|(apply kG;iterate 3 exact rfl)|(apply kB;(iterate 2 exact rfl);intro _)|(apply kA;exact rfl;intro _)|(apply Go.Hb.kK;(iterate 4 exact rfl);intro _)|(apply kU;(iterate 2 exact rfl);(·repeat(first|exact sH _ _ _|apply sT));(first|exact nfL_eq rfl|exact rfl);exact rfl)|((first|apply kh|apply kl);(iterate 2 exact rfl);(first|decide|omega);exact rfl)|(apply LR.ev; (· apply Ev.rem; (· exact rfl); (· exact rfl); (· first | decide | omega)); (· exact rfl))|(apply addX;(iterate 2 exact rfl);(iterate 2(first|omega|(dsimp only;omega)));exact rfl)|((first|(apply kR;iterate 2 exact rfl)|(apply kQ;exact rfl));all_goals(intro hc;try simp only[hcs]at hc;try(exfalso;first|contradiction|omega))))
    all_goals (
      (apply ret1; (· exact rfl); intro w' hS)
      refine ⟨congrArg (Value.int .i64) ?_, hS⟩
      unfold bringT; rw [if_neg h]
      first | rw [if_pos (by omega)] | rw [if_neg (by omega)])
theorem and_bd (z : Int) (m : Nat) (h : m < 1000000) : 0 ≤ andI .i64 z (m : Int) ∧ andI .i64 z (m : Int) ≤ m := by
  unfold andI
  have e : (BitVec.ofInt IntKind.i64.bits (m : Int)).toNat = m := by
    show (BitVec.ofInt 64 (m : Int)).toNat = m
    rw [BitVec.toNat_ofInt]
    omega
  have h1 : (BitVec.ofInt IntKind.i64.bits z &&& BitVec.ofInt IntKind.i64.bits (m : Int)).toNat ≤ m := by
    rw [BitVec.toNat_and, e]
    exact Nat.and_le_right
  rw [wrap_i64 (by omega) (by omega)]
  omega
theorem new_one : newTk 1 1 0 = (⟨1, 1, 1, 0, 0, 0, 0, 0, []⟩, 0) := by decide +kernel
abbrev arI (b : Nat) (l : List Int) : Asrt := .own b (.cells (iv l).toArray 41 (0, 0))
abbrev tkI (b : Nat) (t : Tk) (a : Option Addr) (c : Nat) : Asrt := .own b (.cells (t.cells a c).toArray 26 (0, 0))
def lset (i : Nat) : List Int := List.replicate i (-1) ++ List.replicate (8 - i) 0
theorem splice_one1 (cs : List Value) (i : Nat) (v : Value) (h : i < cs.length) : splice cs i [v] = cs.set i v := by
  unfold splice
  rw [List.set_eq_take_append_cons_drop, if_pos h]
  simp
theorem Stores_arr {P : Program} {b q i : Nat} {T E : TypeId} {v : Value} {cs : List Value} (h : Sz P T 1) (hv : v.cells = [v].toArray) (h1 : Value.oneCell' v = true) (hq : q = i) (hi : i < cs.length) :
    Stores P T ⟨b, q, none⟩ v (.own b (.cells cs.toArray E (0, 0))) (.own b (.cells (cs.set i v).toArray E (0, 0))) := by
  subst hq
  have := Stores.own (P := P) (T := T) (b := b) (o := q) (v := v) (cs := cs) (vs := [v]) (E := E) h hv (by simp [h1]) rfl (by simp; omega)
  rwa [splice_one1 _ _ _ hi] at this
theorem st_arr {b k q : Nat} {x : Int} {l : List Int} (hq : q = k) (h : k < l.length) : Stores Try.prog 3 ⟨b, q, none⟩ (.int .i64 x) (.own b (.cells (iv l).toArray 41 (0, 0))) (.own b (.cells (iv (l.set k x)).toArray 41 (0, 0))) := by
  have := Stores_arr (P := Try.prog) (T := 3) (E := 41) (b := b) (q := q) (i := k) (v := .int .i64 x) (cs := iv l) inferInstance rfl rfl hq (by simpa using h)
  rwa [iv_set] at this
theorem cellI {w0 w : World} {F : Nat → Prop} {L : List Asrt} {b q k : Nat} {l : List Int} {E : TypeId} {fr : Nat × Nat} (h : St w0 F L w) (hm : Asrt.own b (.cells (iv l).toArray E fr) ∈ L) (hq : q = k) (hk : k < l.length) : w.cell? ⟨b, q, none⟩ = some (.int .i64 (gd l k)) := by
  subst hq
  rw [cell_own (show w.heap[b]? = some (.cells (iv l).toArray E fr) from h.holds _ hm)]
  simpa using gd_get hk
theorem lset_succ {i : Nat} (h : i < 8) : (lset i).set i (-1) = lset (i + 1) := by
  have : i = 0 ∨ i = 1 ∨ i = 2 ∨ i = 3 ∨ i = 4 ∨ i = 5 ∨ i = 6 ∨ i = 7 := by omega
  rcases this with rfl | rfl | rfl | rfl | rfl | rfl | rfl | rfl <;> rfl
theorem lset_len {i : Nat} (h : i ≤ 8) : (lset i).length = 8 := by unfold lset; simp; omega
theorem gd_lset {i j : Nat} (h : j < i) : gd (lset i) j = -1 := by
  unfold gd lset
  rw [List.getD_eq_getElem?_getD, List.getElem?_append_left (by simpa using h)]
  simp [h]
theorem gd_zeros (j : Nat) : gd (List.replicate 8 0) j = 0 := by
  unfold gd
  rw [List.getD_eq_getElem?_getD, List.getElem?_replicate]
  split <;> rfl
def tokZ : Tk := ⟨1, 1, 1, 0, 0, 0, 0, 0, []⟩
theorem SInv.start {n : Nat} (h1 : 1 ≤ n) (h8 : n ≤ 8) : SInv n 0 (List.replicate 8 0) (lset n) (List.replicate 8 0) tokZ := by
  refine ⟨h1, h8, rfl, lset_len h8, rfl, by decide +kernel, rfl, rfl, by decide, fun j _ => ?_, fun k _ j _ => ?_, fun k hk => ?_, fun k hk => ⟨fun j _ _ => .inl ?_, .inl ?_⟩⟩
  · rw [gd_zeros]; decide
  · rw [gd_zeros, gd_zeros]; decide
  · rw [gd_lset hk]; decide
  · rw [gd_lset hk, gd_zeros]; decide
  · rw [gd_lset hk]; decide
theorem q1 (k : Nat) : 0 + (k : Int).toNat * 1 = k := by simp
theorem and_3 (z : Int) : 0 ≤ andI .i64 z 3 ∧ andI .i64 z 3 ≤ 3 := and_bd z 3 (by decide)
theorem and_7 (z : Int) : 0 ≤ andI .i64 z 7 ∧ andI .i64 z 7 ≤ 7 := and_bd z 7 (by decide)
theorem and_7n (z : Int) : ∃ q : Nat, andI .i64 z 7 = (q : Int) := ⟨(andI .i64 z 7).toNat, by have := and_7 z; omega⟩
theorem addA3 {P : Program} {C : World → Prop} {f : Frm} {T T' T'' : TypeId} {x y : Operand} {a z : Int} (hx : f.ev x = .int .i64 a) (hy : f.ev y = .int .i64 (andI .i64 z 3)) (h1 : 0 ≤ a) (h2 : a ≤ 9007199254740991) :
    Ev P C f (.binOp .add T' x y T'') T (.int .i64 (a + andI .i64 z 3)) := by
  have := and_3 z
  exact Ev.add hx hy (by omega) (by omega)
theorem st_tok {b : Nat} {t t' : Tk} {a a' : Option Addr} {c c' : Nat} : Stores Try.prog 26 ⟨b, 0, none⟩ (t'.val a' c') (tkI b t a c) (tkI b t' a' c') :=
  Stores.own (P := Try.prog) (T := 26) (b := b) (o := 0) (v := t'.val a' c') (cs := t.cells a c) (vs := t'.cells a' c') (E := 26) inferInstance rfl rfl rfl (by simp [Tk.cells])
theorem ownsAt_nz {w : World} {E : TypeId} {sz n c : Nat} {a : Option Addr} {xs : List Value} (h : ownsAt w E sz (.slice a n c) n xs) (e : a = none) : c = 0 := by
  rcases h.2 with ⟨he, hn⟩ | ⟨g, o, cap, cur, he, _⟩
  · simp only [Value.slice.injEq] at he
    exact he.2.2
  · simp only [Value.slice.injEq] at he
    rw [he.1] at e
    cases e
structure Sst where
  i : Nat
  al : List Int
  ll : List Int
  sl : List Int
  t : Tk
  a : Option Addr
  c : Nat
set_option maxHeartbeats 4000000 in
theorem t4 (nodes : Int) (a : Option Addr) (c : Nat) (l : List Int) (w : World) (hr : Rd w a (iv l)) (hm : l.length ≤ 17592186043904) :
    CallsTo Try.prog 4 [.int .i64 nodes, .slice a l.length c] w fun v w' => v = .bool true ∧ Grew w w' := by
  refine go_in (n := 146) (St.rd1 hr) Try.func4 rfl rfl ?_
  obtain ⟨n, hn1, hn8, hb⟩ : ∃ n : Nat, 1 ≤ n ∧ n ≤ 8 ∧ bringT nodes 8 = ((n - 1 : Nat) : Int) := by
    have := bringT_bd nodes 8 (by omega)
    exact ⟨(bringT nodes 8).toNat + 1, by omega, by omega, by omega⟩
  repeat'(first|(apply kp;iterate 2 exact rfl)|apply jJ|(apply jE;exact rfl)|(apply jp;exact rfl)|(apply jc;kernel_rfl)|((first|apply kf|apply kn|apply ke|apply kx|apply kc|apply kb);iterate 2 exact rfl)|((first|apply kz|apply ky);(·exact rfl);(·repeat(first|exact iO|exact iR rfl|apply iT));iterate 2 exact rfl)|(apply kg;iterate 2 exact rfl)|(apply kG;iterate 3 exact rfl)|(apply kB;(iterate 2 exact rfl);intro _)|(apply kA;exact rfl;intro _)|(apply Go.Hb.kK;(iterate 4 exact rfl);intro _)|(apply kU;(iterate 2 exact rfl);(·repeat(first|exact sH _ _ _|apply sT));(first|exact nfL_eq rfl|exact rfl);exact rfl)|((first|apply kh|apply kl);(iterate 2 exact rfl);(first|decide|omega);exact rfl)|(apply kq; (· exact rfl); (· intro w1 h1; first | exact CallsTo.q (t20 w1) h1 | (have hq := CallsTo.q (t21 nodes 8 w1 (by omega)) h1; rw [hb] at hq; exact hq) | (have hq := CallsTo.q (t22 1 1 0 w1) h1; rw [new_one] at hq; exact hq)))|(apply LR.ev; (· apply addQ (a := 1) (b := n - 1) (q := n); (· omega); (· exact rfl); (· exact rfl); (· omega)); (· exact rfl))|((first|(apply kR;iterate 2 exact rfl)|(apply kQ;exact rfl));all_goals(intro hc;try simp only[hcs]at hc;try(exfalso;first|contradiction|omega))))
  rename_i b6 b8 b9 b10
  apply CW.loop [11, 30, 31, 32, 33, 34, 35, 36] (fun i : Nat => i ≤ n) (fun i => [(11, .int .i64 (i : Int))]) (fun i => St w NoF [arI b10 (List.replicate 8 0), arI b9 (lset i), arI b8 (List.replicate 8 0), tkI b6 tokZ none 0, rdA a (iv l)]) (fun i => n - i)
  · exact fun w' hw' => ⟨0, by omega, ⟨rfl, trivial⟩, hw'⟩
  intro i g hi
  by_cases hlt : i < n
  · repeat'(first|(apply kp;iterate 2 exact rfl)|apply jJ|(apply jE;exact rfl)|(apply jp;exact rfl)|(apply jc;kernel_rfl)|((first|apply kf|apply kn|apply ke|apply kx|apply kc|apply kb);iterate 2 exact rfl)|((first|apply kz|apply ky);(·exact rfl);(·repeat(first|exact iO|exact iR rfl|apply iT));iterate 2 exact rfl)|(apply kg;iterate 2 exact rfl)|(apply kG;iterate 3 exact rfl)|(apply kB;(iterate 2 exact rfl);intro _)|(apply kA;exact rfl;intro _)|(apply Go.Hb.kK;(iterate 4 exact rfl);intro _)|(apply kU;(iterate 2 exact rfl);(·repeat(first|exact sH _ _ _|apply sT));(first|exact nfL_eq rfl|exact rfl);exact rfl)|((first|apply kh|apply kl);(iterate 2 exact rfl);(first|decide|omega);exact rfl)|(apply LR.ev; (· apply Ev.indexArr; (· exact rfl); (· exact rfl); (· first | decide | omega | (dsimp only; omega)); (· first | decide | omega | (dsimp only; omega))); (· exact rfl))|((first|(apply kR;iterate 2 exact rfl)|(apply kQ;exact rfl));all_goals(intro hc;try simp only[hcs]at hc;try(exfalso;first|contradiction|omega))))
    refine LR.store_obj (v := .int .i64 (-1)) (z := arI b9 (lset i)) (z' := arI b9 ((lset i).set i (-1))) rfl rfl (by (repeat (first | exact sH _ _ _ | apply sT))) rfl (st_arr (by simp) (by rw [lset_len (by omega)]; omega)) (Asrt.dep_own _ _) ?_
    repeat'(first|(apply kp;iterate 2 exact rfl)|apply jJ|(apply jE;exact rfl)|(apply jp;exact rfl)|(apply jc;kernel_rfl)|((first|apply kf|apply kn|apply ke|apply kx|apply kc|apply kb);iterate 2 exact rfl)|((first|apply kz|apply ky);(·exact rfl);(·repeat(first|exact iO|exact iR rfl|apply iT));iterate 2 exact rfl)|(apply kg;iterate 2 exact rfl)|(apply kG;iterate 3 exact rfl)|(apply kB;(iterate 2 exact rfl);intro _)|(apply kA;exact rfl;intro _)|(apply Go.Hb.kK;(iterate 4 exact rfl);intro _)|(apply kU;(iterate 2 exact rfl);(·repeat(first|exact sH _ _ _|apply sT));(first|exact nfL_eq rfl|exact rfl);exact rfl)|((first|apply kh|apply kl);(iterate 2 exact rfl);(first|decide|omega);exact rfl)|(apply addX;(iterate 2 exact rfl);(iterate 2(first|omega|(dsimp only;omega)));exact rfl)|((first|(apply kR;iterate 2 exact rfl)|(apply kQ;exact rfl));all_goals(intro hc;try simp only[hcs]at hc;try(exfalso;first|contradiction|omega))))
    apply At.again (i + 1) (by omega)
    · (repeat (first | exact Out.refl _ _ | exact Out.mix | (apply Out.upd; (· exact rfl)) | (apply Out.updL; (· exact rfl)) | (apply Out.mixs; (· exact rfl))))
    · exact ⟨rfl, trivial⟩
    · intro w' hw'
      rw [lset_succ (by omega)] at hw'
      exact hw'
    · omega
  have hie : n = i := by omega
  subst hie
  clear hi hlt
  repeat'(first|(apply kp;iterate 2 exact rfl)|apply jJ|(apply jE;exact rfl)|(apply jp;exact rfl)|(apply jc;kernel_rfl)|((first|apply kf|apply kn|apply ke|apply kx|apply kc|apply kb);iterate 2 exact rfl)|((first|apply kz|apply ky);(·exact rfl);(·repeat(first|exact iO|exact iR rfl|apply iT));iterate 2 exact rfl)|(apply kg;iterate 2 exact rfl)|(apply kG;iterate 3 exact rfl)|(apply kB;(iterate 2 exact rfl);intro _)|(apply kA;exact rfl;intro _)|(apply Go.Hb.kK;(iterate 4 exact rfl);intro _)|(apply kU;(iterate 2 exact rfl);(·repeat(first|exact sH _ _ _|apply sT));(first|exact nfL_eq rfl|exact rfl);exact rfl)|((first|apply kh|apply kl);(iterate 2 exact rfl);(first|decide|omega);exact rfl)|((first|(apply kR;iterate 2 exact rfl)|(apply kQ;exact rfl));all_goals(intro hc;try simp only[hcs]at hc;try(exfalso;first|contradiction|omega))))
  apply CW.loop [4, 12, 13, 14, 15, 16, 17, 37, 38, 39, 40, 41, 42, 43, 44, 45, 46, 47, 48, 49, 50, 51, 52, 53, 54, 55, 56, 57, 58, 59, 60, 61, 62, 63, 64, 65, 66, 67, 68, 69, 70, 71, 72, 73, 74, 75, 76, 77, 78, 79, 80, 81, 82, 83, 84, 85, 86, 87, 88, 89, 90, 91, 92, 93, 94, 95, 96, 97, 98, 99, 100, 101, 102, 103, 104, 105, 106, 107, 108, 109, 110, 111, 112, 113, 114, 115, 116, 117, 118, 119, 120, 121, 122, 123, 124, 125, 126, 127, 128, 129, 130, 131, 132, 133, 134, 135, 136, 137, 138, 139, 140, 141, 142, 143, 144, 145] (fun s : Sst => s.i ≤ 200 ∧ s.i ≤ l.length ∧ SInv n s.i s.al s.ll s.sl s.t ∧ (s.a = none → s.c = 0)) (fun s => [(12, .int .i64 (s.i : Int))])
    (fun s => St w NoF [arI b10 s.sl, arI b9 s.ll, arI b8 s.al, tkI b6 s.t s.a s.c, rdA a (iv l)]) (fun s => 200 - s.i)
  · exact fun w' hw' => ⟨⟨0, List.replicate 8 0, lset n, List.replicate 8 0, tokZ, none, 0⟩, ⟨by simp, by simp, SInv.start hn1 hn8, fun _ => rfl⟩, ⟨rfl, trivial⟩, hw'⟩
  rintro ⟨i, al, ll, sl, t, a', c'⟩ g1 ⟨h200, hil, hS, hz⟩
  simp only at h200 hil hS hz ⊢
  by_cases hlt : i < l.length ∧ i < 200
  · obtain ⟨hlt, hl2⟩ := hlt
    obtain ⟨bl, ol, rfl⟩ := hr.form (fun e => by have := congrArg List.length e; simp at this; subst this; simp at hlt)
    have hla := hS.la
    have hlll := hS.lll
    have hls := hS.ls
    have hk8 := hS.k8
    have hkn := hS.kn
    have hab := hS.ab (i % n) hkn
    have hsq := hS.seqb
    repeat'(first|(apply CW.reg_sinkC 11; (· exact rfl); (· decide +kernel))|(apply kp;iterate 2 exact rfl)|apply jJ|(apply jE;exact rfl)|(apply jp;exact rfl)|(apply jc;kernel_rfl)|((first|apply kf|apply kn|apply ke|apply kx|apply kc|apply kb);iterate 2 exact rfl)|((first|apply kz|apply ky);(·exact rfl);(·repeat(first|exact iO|exact iR rfl|apply iT));iterate 2 exact rfl)|(apply kg;iterate 2 exact rfl)|(apply kG;iterate 3 exact rfl)|(apply kB;(iterate 2 exact rfl);intro _)|(apply kA;exact rfl;intro _)|(apply Go.Hb.kK;(iterate 4 exact rfl);intro _)|(apply kU;(iterate 2 exact rfl);(·repeat(first|exact sH _ _ _|apply sT));(first|exact nfL_eq rfl|exact rfl);exact rfl)|((first|apply kh|apply kl);(iterate 2 exact rfl);(first|decide|omega);exact rfl)|(apply idxX;(iterate 2 exact rfl);(iterate 2(first|omega|(dsimp only;omega)));exact rfl)|(apply LR.ev; (· apply Ev.load_rd; (· exact rfl); (· repeat (first | exact mH _ _ | apply mT)); (· exact iv_at (i := i) (by simp) (by omega))); (· exact rfl))|(apply LR.ev; (· apply remQ (a := i) (b := n) (q := i % n) rfl; (· exact rfl); (· exact rfl); (· omega)); (· exact rfl))|((first|(apply kR;iterate 2 exact rfl)|(apply kQ;exact rfl));all_goals(intro hc;try simp only[hcs]at hc;try(exfalso;first|contradiction|omega))))
    generalize andI IntKind.i64 l[i] 65535 = x
    all_goals (
      apply DW.quiet [0, 1, 2, 3, 4, 5, 6, 7, 8, 9, 10]
      · decide +kernel
      · first | exact fun _ h => h | exact fun _ h => St.sub h (by repeat (first | exact List.Sublist.refl _ | apply List.Sublist.cons_cons | apply List.Sublist.cons))
      repeat'(first|(apply yp;iterate 3 exact rfl)|(apply QL.ev;(·exact rfl);(·first|((first|apply Ez|apply Ey);(·exact rfl);(·repeat(first|exact iO|exact iR rfl|apply iT));exact rfl)|((first|apply Ev.fieldAddr|apply Ev.len|apply EqOf.eq|apply EqOf.ne|apply Ev.conv|apply Ev.buildN);exact rfl)|((first|apply Ev.shr|apply Ev.shl);(iterate 2 exact rfl);first|decide|omega));·exact rfl)|(apply QL.ev; (· exact rfl); (· first | (apply Ev.indexArr; (· exact rfl); (· exact rfl); (· omega); (· omega)) | (apply Ev.load; (· exact rfl); (· intro w' hw'; first | exact cellI (b := b8) hw' (by (repeat (first | exact mH _ _ | apply mT))) (q1 _) (by first | omega | (rw [al1_len (by assumption)]; omega) | (rw [al2_len (by assumption)]; omega)) | exact cellI (b := b9) hw' (by (repeat (first | exact mH _ _ | apply mT))) (q1 _) (by first | omega | (unfold ll1; rw [List.length_set]; omega)) | exact cellI (b := b10) hw' (by (repeat (first | exact mH _ _ | apply mT))) (q1 _) (by first | omega | (unfold sl1; rw [List.length_set]; omega)))) | (apply Ev.min2; (· exact rfl); (· exact rfl)) | (apply addA3; (· exact rfl); (· exact rfl); (· omega); (· omega)) | (apply Ev.add; (· exact rfl); (· exact rfl); (· omega); (· omega))); (· exact rfl))|(apply yq;iterate 5 exact rfl)|(apply QL.evg;(iterate 3 exact rfl);(·first|((first|apply Ez|apply Ey);(·exact rfl);(·repeat(first|exact iO|exact iR rfl|apply iT));exact rfl)|((first|apply Ev.fieldAddr|apply Ev.len|apply EqOf.eq|apply EqOf.ne|apply Ev.conv|apply Ev.buildN);exact rfl)|((first|apply Ev.shr|apply Ev.shl);(iterate 2 exact rfl);first|decide|omega));·exact rfl)|(apply yn;iterate 4 exact rfl)|((apply QL.split;iterate 3 exact rfl);all_goals(intro hc;try simp only[hcs]at hc;try(exfalso;first|contradiction|omega)))|apply QL.nil)
      all_goals (show DW _ _ _ _ _ _ _ _))
    all_goals (apply DW.done; (· decide +kernel))
    all_goals apply At.sink
    refine LR.store_obj (v := .int .i64 (if gd al (i % n) + andI .i64 x 3 < t.seq then gd al (i % n) + andI .i64 x 3 else t.seq)) (z := arI b8 al) (z' := arI b8 (al1 n i al t (andI .i64 x 3))) rfl rfl (by (repeat (first | exact sH _ _ _ | apply sT))) rfl (st_arr (by simp only [Int.toNat_natCast, Nat.zero_add, Nat.mul_one]) (by omega)) (Asrt.dep_own _ _) ?_
    have hy1 := (and_3 x).1
    generalize andI IntKind.i64 x 3 = y1 at hy1 ⊢
    repeat'(first|(apply CW.reg_sinkC 11; (· exact rfl); (· decide +kernel))|(apply kp;iterate 2 exact rfl)|apply jJ|(apply jE;exact rfl)|(apply jp;exact rfl)|(apply jc;kernel_rfl)|((first|apply kf|apply kn|apply ke|apply kx|apply kc|apply kb);iterate 2 exact rfl)|((first|apply kz|apply ky);(·exact rfl);(·repeat(first|exact iO|exact iR rfl|apply iT));iterate 2 exact rfl)|(apply kg;iterate 2 exact rfl)|(apply kG;iterate 3 exact rfl)|(apply kB;(iterate 2 exact rfl);intro _)|(apply kA;exact rfl;intro _)|(apply Go.Hb.kK;(iterate 4 exact rfl);intro _)|(apply kU;(iterate 2 exact rfl);(·repeat(first|exact sH _ _ _|apply sT));(first|exact nfL_eq rfl|exact rfl);exact rfl)|((first|apply kh|apply kl);(iterate 2 exact rfl);(first|decide|omega);exact rfl)|((first|(apply kR;iterate 2 exact rfl)|(apply kQ;exact rfl));all_goals(intro hc;try simp only[hcs]at hc;try(exfalso;first|contradiction|omega))))
    all_goals (
      apply DW.quiet [0, 1, 2, 3, 4, 5, 6, 7, 8]
      · decide +kernel
      · first | exact fun _ h => h | exact fun _ h => St.sub h (by repeat (first | exact List.Sublist.refl _ | apply List.Sublist.cons_cons | apply List.Sublist.cons))
      repeat'(first|(apply yp;iterate 3 exact rfl)|(apply QL.ev;(·exact rfl);(·first|((first|apply Ez|apply Ey);(·exact rfl);(·repeat(first|exact iO|exact iR rfl|apply iT));exact rfl)|((first|apply Ev.fieldAddr|apply Ev.len|apply EqOf.eq|apply EqOf.ne|apply Ev.conv|apply Ev.buildN);exact rfl)|((first|apply Ev.shr|apply Ev.shl);(iterate 2 exact rfl);first|decide|omega));·exact rfl)|(apply QL.ev; (· exact rfl); (· first | (apply Ev.indexArr; (· exact rfl); (· exact rfl); (· omega); (· omega)) | (apply Ev.load; (· exact rfl); (· intro w' hw'; first | exact cellI (b := b8) hw' (by (repeat (first | exact mH _ _ | apply mT))) (q1 _) (by first | omega | (rw [al1_len (by assumption)]; omega) | (rw [al2_len (by assumption)]; omega)) | exact cellI (b := b9) hw' (by (repeat (first | exact mH _ _ | apply mT))) (q1 _) (by first | omega | (unfold ll1; rw [List.length_set]; omega)) | exact cellI (b := b10) hw' (by (repeat (first | exact mH _ _ | apply mT))) (q1 _) (by first | omega | (unfold sl1; rw [List.length_set]; omega)))) | (apply Ev.min2; (· exact rfl); (· exact rfl)) | (apply addA3; (· exact rfl); (· exact rfl); (· omega); (· omega)) | (apply Ev.add; (· exact rfl); (· exact rfl); (· omega); (· omega))); (· exact rfl))|(apply yq;iterate 5 exact rfl)|(apply QL.evg;(iterate 3 exact rfl);(·first|((first|apply Ez|apply Ey);(·exact rfl);(·repeat(first|exact iO|exact iR rfl|apply iT));exact rfl)|((first|apply Ev.fieldAddr|apply Ev.len|apply EqOf.eq|apply EqOf.ne|apply Ev.conv|apply Ev.buildN);exact rfl)|((first|apply Ev.shr|apply Ev.shl);(iterate 2 exact rfl);first|decide|omega));·exact rfl)|(apply yn;iterate 4 exact rfl)|((apply QL.split;iterate 3 exact rfl);all_goals(intro hc;try simp only[hcs]at hc;try(exfalso;first|contradiction|omega)))|apply QL.nil)
      all_goals (show DW _ _ _ _ _ _ _ _))
    all_goals (
      apply DW.loud 9
      · exact rfl
      · decide +kernel
      repeat'(first|(apply kg;iterate 2 exact rfl)|(apply kG;iterate 3 exact rfl)|apply kM|(apply kp;iterate 2 exact rfl)|((first|apply kz|apply ky);(·exact rfl);(·repeat(first|exact iO|exact iR rfl|apply iT));iterate 2 exact rfl)|(apply Go.Hb.kK;(iterate 4 exact rfl);intro _)|(apply kU;(iterate 2 exact rfl);(·repeat(first|exact sH _ _ _|apply sT));(first|exact nfL_eq rfl|exact rfl);exact rfl)|(apply kB;(iterate 2 exact rfl);intro _)|(apply kA;exact rfl;intro _)|(apply kq;(·exact rfl);(·intro w1 h1;exact CallsTo.q (t23 _ _ _ w1) h1)))
      all_goals (refine At.stage_same (fun _ h => St.sub h (by repeat (first | exact List.Sublist.refl _ | apply List.Sublist.cons_cons | apply List.Sublist.cons))) ?_))
    all_goals (
      apply DW.quiet [10]
      · decide +kernel
      · first | exact fun _ h => h | exact fun _ h => St.sub h (by repeat (first | exact List.Sublist.refl _ | apply List.Sublist.cons_cons | apply List.Sublist.cons))
      repeat'(first|(apply yp;iterate 3 exact rfl)|(apply QL.ev;(·exact rfl);(·first|((first|apply Ez|apply Ey);(·exact rfl);(·repeat(first|exact iO|exact iR rfl|apply iT));exact rfl)|((first|apply Ev.fieldAddr|apply Ev.len|apply EqOf.eq|apply EqOf.ne|apply Ev.conv|apply Ev.buildN);exact rfl)|((first|apply Ev.shr|apply Ev.shl);(iterate 2 exact rfl);first|decide|omega));·exact rfl)|(apply QL.ev; (· exact rfl); (· first | (apply Ev.indexArr; (· exact rfl); (· exact rfl); (· omega); (· omega)) | (apply Ev.load; (· exact rfl); (· intro w' hw'; first | exact cellI (b := b8) hw' (by (repeat (first | exact mH _ _ | apply mT))) (q1 _) (by first | omega | (rw [al1_len (by assumption)]; omega) | (rw [al2_len (by assumption)]; omega)) | exact cellI (b := b9) hw' (by (repeat (first | exact mH _ _ | apply mT))) (q1 _) (by first | omega | (unfold ll1; rw [List.length_set]; omega)) | exact cellI (b := b10) hw' (by (repeat (first | exact mH _ _ | apply mT))) (q1 _) (by first | omega | (unfold sl1; rw [List.length_set]; omega)))) | (apply Ev.min2; (· exact rfl); (· exact rfl)) | (apply addA3; (· exact rfl); (· exact rfl); (· omega); (· omega)) | (apply Ev.add; (· exact rfl); (· exact rfl); (· omega); (· omega))); (· exact rfl))|(apply yq;iterate 5 exact rfl)|(apply QL.evg;(iterate 3 exact rfl);(·first|((first|apply Ez|apply Ey);(·exact rfl);(·repeat(first|exact iO|exact iR rfl|apply iT));exact rfl)|((first|apply Ev.fieldAddr|apply Ev.len|apply EqOf.eq|apply EqOf.ne|apply Ev.conv|apply Ev.buildN);exact rfl)|((first|apply Ev.shr|apply Ev.shl);(iterate 2 exact rfl);first|decide|omega));·exact rfl)|(apply yn;iterate 4 exact rfl)|((apply QL.split;iterate 3 exact rfl);all_goals(intro hc;try simp only[hcs]at hc;try(exfalso;first|contradiction|omega)))|apply QL.nil)
      all_goals (show DW _ _ _ _ _ _ _ _))
    all_goals (apply DW.done; (· decide +kernel))
    all_goals apply At.sink
    refine LR.store_obj (v := .int .i64 (max (gd sl (i % n)) (min (gd ll (i % n)) t.aru))) (z := arI b10 sl) (z' := arI b10 (sl1 n i ll sl t)) rfl rfl (by (repeat (first | exact sH _ _ _ | apply sT))) rfl (st_arr (by simp only [Int.toNat_natCast, Nat.zero_add, Nat.mul_one]) (by omega)) (Asrt.dep_own _ _) ?_
    repeat'(first|(apply kp;iterate 2 exact rfl)|apply jJ|(apply jE;exact rfl)|(apply jp;exact rfl)|(apply jc;kernel_rfl)|((first|apply kf|apply kn|apply ke|apply kx|apply kc|apply kb);iterate 2 exact rfl)|((first|apply kz|apply ky);(·exact rfl);(·repeat(first|exact iO|exact iR rfl|apply iT));iterate 2 exact rfl)|(apply kg;iterate 2 exact rfl)|(apply kG;iterate 3 exact rfl)|(apply kB;(iterate 2 exact rfl);intro _)|(apply kA;exact rfl;intro _)|(apply Go.Hb.kK;(iterate 4 exact rfl);intro _)|(apply kU;(iterate 2 exact rfl);(·repeat(first|exact sH _ _ _|apply sT));(first|exact nfL_eq rfl|exact rfl);exact rfl)|((first|apply kh|apply kl);(iterate 2 exact rfl);(first|decide|omega);exact rfl)|((first|(apply kR;iterate 2 exact rfl)|(apply kQ;exact rfl));all_goals(intro hc;try simp only[hcs]at hc;try(exfalso;first|contradiction|omega))))
    apply CW.loop [4, 15, 77, 78, 79, 80, 81, 82, 83, 84, 85, 86, 87, 88] (fun j : Nat => j ≤ n) (fun j => [(15, .int .i64 (j : Int))]) (fun j => St w NoF [arI b10 (sl1 n i ll sl t), arI b9 ll, arI b8 (al1 n i al t y1), tkI b6 t a' c', rdA (some ⟨bl, ol, none⟩) (iv l)]) (fun j => n - j)
    · exact fun w' hw' => ⟨0, by omega, ⟨rfl, trivial⟩, hw'⟩
    · intro j g2 hj
      by_cases hjn : j < n
      · have hsafe := safe_ok (y1 := y1) hS hy1 j hjn
        repeat'(first|(apply CW.reg_heldC)|(apply kp;iterate 2 exact rfl)|apply jJ|(apply jE;exact rfl)|(apply jp;exact rfl)|(apply jc;kernel_rfl)|((first|apply kf|apply kn|apply ke|apply kx|apply kc|apply kb);iterate 2 exact rfl)|((first|apply kz|apply ky);(·exact rfl);(·repeat(first|exact iO|exact iR rfl|apply iT));iterate 2 exact rfl)|(apply kg;iterate 2 exact rfl)|(apply kG;iterate 3 exact rfl)|(apply kB;(iterate 2 exact rfl);intro _)|(apply kA;exact rfl;intro _)|(apply Go.Hb.kK;(iterate 4 exact rfl);intro _)|(apply kU;(iterate 2 exact rfl);(·repeat(first|exact sH _ _ _|apply sT));(first|exact nfL_eq rfl|exact rfl);exact rfl)|((first|apply kh|apply kl);(iterate 2 exact rfl);(first|decide|omega);exact rfl)|((first|(apply kR;iterate 2 exact rfl)|(apply kQ;exact rfl));all_goals(intro hc;try simp only[hcs]at hc;try(exfalso;first|contradiction|omega))))
        all_goals (
          apply DW.quiet [0, 1, 2, 3, 4, 5, 6]
          · decide +kernel
          · first | exact fun _ h => h | exact fun _ h => St.sub h (by repeat (first | exact List.Sublist.refl _ | apply List.Sublist.cons_cons | apply List.Sublist.cons))
          repeat'(first|(apply yp;iterate 3 exact rfl)|(apply QL.ev;(·exact rfl);(·first|((first|apply Ez|apply Ey);(·exact rfl);(·repeat(first|exact iO|exact iR rfl|apply iT));exact rfl)|((first|apply Ev.fieldAddr|apply Ev.len|apply EqOf.eq|apply EqOf.ne|apply Ev.conv|apply Ev.buildN);exact rfl)|((first|apply Ev.shr|apply Ev.shl);(iterate 2 exact rfl);first|decide|omega));·exact rfl)|(apply QL.ev; (· exact rfl); (· first | (apply Ev.indexArr; (· exact rfl); (· exact rfl); (· omega); (· omega)) | (apply Ev.load; (· exact rfl); (· intro w' hw'; first | exact cellI (b := b8) hw' (by (repeat (first | exact mH _ _ | apply mT))) (q1 _) (by first | omega | (rw [al1_len (by assumption)]; omega) | (rw [al2_len (by assumption)]; omega)) | exact cellI (b := b9) hw' (by (repeat (first | exact mH _ _ | apply mT))) (q1 _) (by first | omega | (unfold ll1; rw [List.length_set]; omega)) | exact cellI (b := b10) hw' (by (repeat (first | exact mH _ _ | apply mT))) (q1 _) (by first | omega | (unfold sl1; rw [List.length_set]; omega)))) | (apply Ev.min2; (· exact rfl); (· exact rfl)) | (apply addA3; (· exact rfl); (· exact rfl); (· omega); (· omega)) | (apply Ev.add; (· exact rfl); (· exact rfl); (· omega); (· omega))); (· exact rfl))|(apply yq;iterate 5 exact rfl)|(apply QL.evg;(iterate 3 exact rfl);(·first|((first|apply Ez|apply Ey);(·exact rfl);(·repeat(first|exact iO|exact iR rfl|apply iT));exact rfl)|((first|apply Ev.fieldAddr|apply Ev.len|apply EqOf.eq|apply EqOf.ne|apply Ev.conv|apply Ev.buildN);exact rfl)|((first|apply Ev.shr|apply Ev.shl);(iterate 2 exact rfl);first|decide|omega));·exact rfl)|(apply yn;iterate 4 exact rfl)|((apply QL.split;iterate 3 exact rfl);all_goals(intro hc;try simp only[hcs]at hc;try(exfalso;first|contradiction|omega)))|apply QL.nil)
          all_goals (show DW _ _ _ _ _ _ _ _))
        all_goals (first | (apply DW.done_thn; (· decide +kernel)) | (apply DW.done; (· decide +kernel)))
        repeat'(first|(apply kp;iterate 2 exact rfl)|apply jJ|(apply jE;exact rfl)|(apply jp;exact rfl)|(apply jc;kernel_rfl)|((first|apply kf|apply kn|apply ke|apply kx|apply kc|apply kb);iterate 2 exact rfl)|((first|apply kz|apply ky);(·exact rfl);(·repeat(first|exact iO|exact iR rfl|apply iT));iterate 2 exact rfl)|(apply kg;iterate 2 exact rfl)|(apply kG;iterate 3 exact rfl)|(apply kB;(iterate 2 exact rfl);intro _)|(apply kA;exact rfl;intro _)|(apply Go.Hb.kK;(iterate 4 exact rfl);intro _)|(apply kU;(iterate 2 exact rfl);(·repeat(first|exact sH _ _ _|apply sT));(first|exact nfL_eq rfl|exact rfl);exact rfl)|((first|apply kh|apply kl);(iterate 2 exact rfl);(first|decide|omega);exact rfl)|(apply addX;(iterate 2 exact rfl);(iterate 2(first|omega|(dsimp only;omega)));exact rfl)|((first|(apply kR;iterate 2 exact rfl)|(apply kQ;exact rfl));all_goals(intro hc;try simp only[hcs]at hc;try(exfalso;first|contradiction|omega))))
        apply At.again (j + 1) (by omega)
        · (repeat (first | exact Out.refl _ _ | exact Out.mix | (apply Out.upd; (· exact rfl)) | (apply Out.updL; (· exact rfl)) | (apply Out.mixs; (· exact rfl))))
        · exact ⟨rfl, trivial⟩
        · exact fun w' hw' => hw'
        · omega
      · have hie : n = j := by omega
        subst hie
        clear hjn hj
        repeat'(first|(apply kp;iterate 2 exact rfl)|apply jJ|(apply jE;exact rfl)|(apply jp;exact rfl)|((first|apply kf|apply kn|apply ke|apply kx|apply kc|apply kb);iterate 2 exact rfl)|((first|apply kz|apply ky);(·exact rfl);(·repeat(first|exact iO|exact iR rfl|apply iT));iterate 2 exact rfl)|(apply kg;iterate 2 exact rfl)|(apply kG;iterate 3 exact rfl)|(apply kB;(iterate 2 exact rfl);intro _)|(apply kA;exact rfl;intro _)|(apply Go.Hb.kK;(iterate 4 exact rfl);intro _)|(apply kU;(iterate 2 exact rfl);(·repeat(first|exact sH _ _ _|apply sT));(first|exact nfL_eq rfl|exact rfl);exact rfl)|((first|apply kh|apply kl);(iterate 2 exact rfl);(first|decide|omega);exact rfl)|(apply LR.ev; (· first | (apply Ev.indexArr; (· exact rfl); (· exact rfl); (· omega); (· omega)) | (apply Ev.load; (· exact rfl); (· intro w' hw'; first | exact cellI (b := b8) hw' (by (repeat (first | exact mH _ _ | apply mT))) (q1 _) (by first | omega | (rw [al1_len (by assumption)]; omega) | (rw [al2_len (by assumption)]; omega)) | exact cellI (b := b9) hw' (by (repeat (first | exact mH _ _ | apply mT))) (q1 _) (by first | omega | (unfold ll1; rw [List.length_set]; omega)) | exact cellI (b := b10) hw' (by (repeat (first | exact mH _ _ | apply mT))) (q1 _) (by first | omega | (unfold sl1; rw [List.length_set]; omega)))) | (apply Ev.min2; (· exact rfl); (· exact rfl)) | (apply addA3; (· exact rfl); (· exact rfl); (· omega); (· omega)) | (apply Ev.add; (· exact rfl); (· exact rfl); (· omega); (· omega))); (· exact rfl))|((first|(apply kR;iterate 2 exact rfl)|(apply kQ;exact rfl));all_goals(intro hc;try simp only[hcs]at hc;try(exfalso;first|contradiction|omega))))
        all_goals (
          have hy2 := and_3 (x.fdiv (2 ^ min (Int.toNat 2) IntKind.i64.bits))
          generalize andI IntKind.i64 (x.fdiv (2 ^ min (Int.toNat 2) IntKind.i64.bits)) 3 = y2 at hy2 ⊢)
        · refine LR.store_obj (v := .int .i64 (t.seq + y2)) (z := arI b8 (al1 n i al t y1)) (z' := arI b8 ((al1 n i al t y1).set (i % n) (t.seq + y2))) rfl rfl (by (repeat (first | exact sH _ _ _ | apply sT))) rfl (st_arr (by simp only [Int.toNat_natCast, Nat.zero_add, Nat.mul_one]) (by rw [al1_len hS]; omega)) (Asrt.dep_own _ _) ?_
          repeat'(first|(apply kp;iterate 2 exact rfl)|apply jJ|(apply jE;exact rfl)|(apply jp;exact rfl)|((first|apply kf|apply kn|apply ke|apply kx|apply kc|apply kb);iterate 2 exact rfl)|((first|apply kz|apply ky);(·exact rfl);(·repeat(first|exact iO|exact iR rfl|apply iT));iterate 2 exact rfl)|(apply kg;iterate 2 exact rfl)|(apply kG;iterate 3 exact rfl)|(apply kB;(iterate 2 exact rfl);intro _)|(apply kA;exact rfl;intro _)|(apply Go.Hb.kK;(iterate 4 exact rfl);intro _)|(apply kU;(iterate 2 exact rfl);(·repeat(first|exact sH _ _ _|apply sT));(first|exact nfL_eq rfl|exact rfl);exact rfl)|((first|apply kh|apply kl);(iterate 2 exact rfl);(first|decide|omega);exact rfl)|((first|(apply kR;iterate 2 exact rfl)|(apply kQ;exact rfl));all_goals(intro hc;try simp only[hcs]at hc;try(exfalso;first|contradiction|omega))))
          refine CW.sub (D := St w NoF [arI b10 (sl1 n i ll sl t), arI b9 ll, arI b8 (al2 n i al t y1 y2), tkI b6 (tk1 t y2) a' c', rdA (some ⟨bl, ol, none⟩) (iv l)]) ?_ (fun w' h => by
            have e : al2 n i al t y1 y2 = (al1 n i al t y1).set (i % n) (t.seq + y2) := by unfold al2; rw [if_pos (by assumption)]
            rw [e]; exact h)
          have hask := hS.ask
          have hal2 := al2_len (y1 := y1) (y2 := y2) hS
          have hage := al2_ge (y1 := y1) (y2 := y2) hS hy1 hy2.1
          have hA2 := hage (i % n) hkn
          have hV := tokB_visit (g := []) (may_ok (y1 := y1) (y2 := y2) hS hl2 hy1 hy2.1 hy2.2)
          have hhop : (tk2 n i al t y1 y2).hop = (i : Int) + 2 := by have h1 := hV.2; have h2 := hS.hop; show (visitT _ _ _ _).hop = _; rw [h1]; show t.hop + 1 = _; omega
          have hE : tokE (tk2 n i al t y1 y2) = 0 := by unfold tokE; exact if_pos hV.1
          have hseq2 : (tk2 n i al t y1 y2).seq = t.seq + y2 := by rw [tk2_eq hS hl2 hy1 hy2.1 hy2.2]
          repeat'(first|(apply CW.reg_sinkC 7; (· exact rfl); (· decide +kernel))|(apply kp;iterate 2 exact rfl)|apply jJ|(apply jE;exact rfl)|(apply jp;exact rfl)|(apply jc;kernel_rfl)|((first|apply kf|apply kn|apply ke|apply kx|apply kc|apply kb);iterate 2 exact rfl)|((first|apply kz|apply ky);(·exact rfl);(·repeat(first|exact iO|exact iR rfl|apply iT));iterate 2 exact rfl)|(apply kg;iterate 2 exact rfl)|(apply kG;iterate 3 exact rfl)|(apply kB;(iterate 2 exact rfl);intro _)|(apply kA;exact rfl;intro _)|(apply Go.Hb.kK;(iterate 4 exact rfl);intro _)|(apply kU;(iterate 2 exact rfl);(·repeat(first|exact sH _ _ _|apply sT));(first|exact nfL_eq rfl|exact rfl);exact rfl)|((first|apply kh|apply kl);(iterate 2 exact rfl);(first|decide|omega);exact rfl)|((first|(apply kR;iterate 2 exact rfl)|(apply kQ;exact rfl));all_goals(intro hc;try simp only[hcs]at hc;try(exfalso;first|contradiction|omega))))
          all_goals (
            apply DW.quiet [0, 1, 2, 3, 4, 5]
            · decide +kernel
            · first | exact fun _ h => h | exact fun _ h => St.sub h (by repeat (first | exact List.Sublist.refl _ | apply List.Sublist.cons_cons | apply List.Sublist.cons))
            repeat'(first|(apply yp;iterate 3 exact rfl)|(apply QL.ev;(·exact rfl);(·first|((first|apply Ez|apply Ey);(·exact rfl);(·repeat(first|exact iO|exact iR rfl|apply iT));exact rfl)|((first|apply Ev.fieldAddr|apply Ev.len|apply EqOf.eq|apply EqOf.ne|apply Ev.conv|apply Ev.buildN);exact rfl)|((first|apply Ev.shr|apply Ev.shl);(iterate 2 exact rfl);first|decide|omega));·exact rfl)|(apply QL.ev; (· exact rfl); (· first | (apply Ev.indexArr; (· exact rfl); (· exact rfl); (· omega); (· omega)) | (apply Ev.load; (· exact rfl); (· intro w' hw'; first | exact cellI (b := b8) hw' (by (repeat (first | exact mH _ _ | apply mT))) (q1 _) (by first | omega | (rw [al1_len (by assumption)]; omega) | (rw [al2_len (by assumption)]; omega)) | exact cellI (b := b9) hw' (by (repeat (first | exact mH _ _ | apply mT))) (q1 _) (by first | omega | (unfold ll1; rw [List.length_set]; omega)) | exact cellI (b := b10) hw' (by (repeat (first | exact mH _ _ | apply mT))) (q1 _) (by first | omega | (unfold sl1; rw [List.length_set]; omega)))) | (apply Ev.min2; (· exact rfl); (· exact rfl)) | (apply addA3; (· exact rfl); (· exact rfl); (· omega); (· omega)) | (apply Ev.add; (· exact rfl); (· exact rfl); (· omega); (· omega))); (· exact rfl))|(apply yq;iterate 5 exact rfl)|(apply QL.evg;(iterate 3 exact rfl);(·first|((first|apply Ez|apply Ey);(·exact rfl);(·repeat(first|exact iO|exact iR rfl|apply iT));exact rfl)|((first|apply Ev.fieldAddr|apply Ev.len|apply EqOf.eq|apply EqOf.ne|apply Ev.conv|apply Ev.buildN);exact rfl)|((first|apply Ev.shr|apply Ev.shl);(iterate 2 exact rfl);first|decide|omega));·exact rfl)|(apply yn;iterate 4 exact rfl)|((apply QL.split;iterate 3 exact rfl);all_goals(intro hc;try simp only[hcs]at hc;try(exfalso;first|contradiction|omega)))|apply QL.nil)
            all_goals (show DW _ _ _ _ _ _ _ _))
          all_goals (
            apply DW.loud 6
            · exact rfl
            · decide +kernel
            repeat'(first|(apply kg;iterate 2 exact rfl)|(apply kG;iterate 3 exact rfl)|apply kM|(apply kp;iterate 2 exact rfl)|((first|apply kz|apply ky);(·exact rfl);(·repeat(first|exact iO|exact iR rfl|apply iT));iterate 2 exact rfl)|(apply Go.Hb.kK;(iterate 4 exact rfl);intro _)|(apply kU;(iterate 2 exact rfl);(·repeat(first|exact sH _ _ _|apply sT));(first|exact nfL_eq rfl|exact rfl);exact rfl)|(apply kB;(iterate 2 exact rfl);intro _)|(apply kA;exact rfl;intro _)|(apply LR.call; (· exact rfl); (intro w1 h1; refine (t14 (tk1 t y2) a' c' (1 + ((i % n : Nat) : Int)) (gd (al2 n i al t y1 y2) (i % n)) none 0 [] w1 (by rw [show (tk1 t y2).ask = [] from hask]; exact Rd.nil _ _) hz (by rw [show (tk1 t y2).ask = [] from hask]; simp) (Rd.nil _ _) (by simp)).mono ?_; rintro v w2 ⟨a2, c2, rfl, hn⟩; have hz2 := ownsAt_nz hn.own; refine LR.back (St.newOd h1 hn) ?_; clear hn h1)))
            all_goals (refine At.stage_same (fun _ h => St.sub h (by repeat (first | exact List.Sublist.refl _ | apply List.Sublist.cons_cons | apply List.Sublist.cons))) ?_))
          all_goals (apply DW.done; (· decide +kernel))
          all_goals apply At.sink
          refine LR.store_obj (v := (tk2 n i al t y1 y2).val a2 c2) (z := tkI b6 (tk1 t y2) a' c') (z' := tkI b6 (tk2 n i al t y1 y2) a2 c2) rfl rfl (by (repeat (first | exact sH _ _ _ | apply sT))) rfl st_tok (Asrt.dep_own _ _) ?_
          repeat'(first|(apply kp;iterate 2 exact rfl)|apply jJ|(apply jE;exact rfl)|(apply jp;exact rfl)|(apply jc;kernel_rfl)|((first|apply kf|apply kn|apply ke|apply kx|apply kc|apply kb);iterate 2 exact rfl)|((first|apply kz|apply ky);(·exact rfl);(·repeat(first|exact iO|exact iR rfl|apply iT));iterate 2 exact rfl)|(apply kg;iterate 2 exact rfl)|(apply kG;iterate 3 exact rfl)|(apply kB;(iterate 2 exact rfl);intro _)|(apply kA;exact rfl;intro _)|(apply Go.Hb.kK;(iterate 4 exact rfl);intro _)|(apply kU;(iterate 2 exact rfl);(·repeat(first|exact sH _ _ _|apply sT));(first|exact nfL_eq rfl|exact rfl);exact rfl)|((first|apply kh|apply kl);(iterate 2 exact rfl);(first|decide|omega);exact rfl)|(apply kq; (· exact rfl); (· intro w1 h1; have hq := CallsTo.q (t16 (tk2 n i al t y1 y2) a2 c2 w1 (h1.rd_of_odl (by (repeat (first | exact mH _ _ | apply mT)))) (by have := (tok_bd hE).2.2.2.2.2.2.2.2; omega)) h1; rw [hE] at hq; exact hq))|(apply addX;(iterate 2 exact rfl);(iterate 2(first|omega|(dsimp only;omega)));exact rfl)|(apply LR.ev; (· first | (apply Ev.indexArr; (· exact rfl); (· exact rfl); (· omega); (· omega)) | (apply Ev.load; (· exact rfl); (· intro w' hw'; first | exact cellI (b := b8) hw' (by (repeat (first | exact mH _ _ | apply mT))) (q1 _) (by first | omega | (rw [al1_len (by assumption)]; omega) | (rw [al2_len (by assumption)]; omega)) | exact cellI (b := b9) hw' (by (repeat (first | exact mH _ _ | apply mT))) (q1 _) (by first | omega | (unfold ll1; rw [List.length_set]; omega)) | exact cellI (b := b10) hw' (by (repeat (first | exact mH _ _ | apply mT))) (q1 _) (by first | omega | (unfold sl1; rw [List.length_set]; omega)))) | (apply Ev.min2; (· exact rfl); (· exact rfl)) | (apply addA3; (· exact rfl); (· exact rfl); (· omega); (· omega)) | (apply Ev.add; (· exact rfl); (· exact rfl); (· omega); (· omega))); (· exact rfl))|((first|(apply kR;iterate 2 exact rfl)|(apply kQ;exact rfl));all_goals(intro hc;try simp only[hcs]at hc;try(exfalso;first|contradiction|omega))))
          refine LR.store_obj (v := .int .i64 (tk2 n i al t y1 y2).aru) (z := arI b9 ll) (z' := arI b9 (ll1 n i al ll t y1 y2)) rfl rfl (by (repeat (first | exact sH _ _ _ | apply sT))) rfl (st_arr (by simp only [Int.toNat_natCast, Nat.zero_add, Nat.mul_one]) (by omega)) (Asrt.dep_own _ _) ?_
          repeat'(first|(apply kp;iterate 2 exact rfl)|apply jJ|(apply jE;exact rfl)|(apply jp;exact rfl)|(apply jc;kernel_rfl)|((first|apply kf|apply kn|apply ke|apply kx|apply kc|apply kb);iterate 2 exact rfl)|((first|apply kz|apply ky);(·exact rfl);(·repeat(first|exact iO|exact iR rfl|apply iT));iterate 2 exact rfl)|(apply kg;iterate 2 exact rfl)|(apply kG;iterate 3 exact rfl)|(apply kB;(iterate 2 exact rfl);intro _)|(apply kA;exact rfl;intro _)|(apply Go.Hb.kK;(iterate 4 exact rfl);intro _)|(apply kU;(iterate 2 exact rfl);(·repeat(first|exact sH _ _ _|apply sT));(first|exact nfL_eq rfl|exact rfl);exact rfl)|((first|apply kh|apply kl);(iterate 2 exact rfl);(first|decide|omega);exact rfl)|((first|(apply kR;iterate 2 exact rfl)|(apply kQ;exact rfl));all_goals(intro hc;try simp only[hcs]at hc;try(exfalso;first|contradiction|omega))))
          obtain ⟨qn, hqn⟩ := and_7n (x.fdiv (2 ^ min (Int.toNat 4) IntKind.i64.bits))
          generalize andI IntKind.i64 (x.fdiv (2 ^ min (Int.toNat 4) IntKind.i64.bits)) 7 = qi at hqn ⊢
          subst hqn
          have hjj : qn % n < n := Nat.mod_lt _ (by omega)
          have hA3 := hage (qn % n) hjj
          have hab3 := hS.ab (qn % n) hjj
          repeat'(first|(apply CW.reg_sinkC 12; (· exact rfl); (· decide +kernel))|(apply kp;iterate 2 exact rfl)|apply jJ|(apply jE;exact rfl)|(apply jp;exact rfl)|(apply jc;kernel_rfl)|((first|apply kf|apply kn|apply ke|apply kx|apply kc|apply kb);iterate 2 exact rfl)|((first|apply kz|apply ky);(·exact rfl);(·repeat(first|exact iO|exact iR rfl|apply iT));iterate 2 exact rfl)|(apply kg;iterate 2 exact rfl)|(apply kG;iterate 3 exact rfl)|(apply kB;(iterate 2 exact rfl);intro _)|(apply kA;exact rfl;intro _)|(apply Go.Hb.kK;(iterate 4 exact rfl);intro _)|(apply kU;(iterate 2 exact rfl);(·repeat(first|exact sH _ _ _|apply sT));(first|exact nfL_eq rfl|exact rfl);exact rfl)|((first|apply kh|apply kl);(iterate 2 exact rfl);(first|decide|omega);exact rfl)|(apply LR.ev; (· apply remQ (a := qn) (b := n) (q := qn % n) rfl; (· exact rfl); (· exact rfl); (· omega)); (· exact rfl))|((first|(apply kR;iterate 2 exact rfl)|(apply kQ;exact rfl));all_goals(intro hc;try simp only[hcs]at hc;try(exfalso;first|contradiction|omega))))
          all_goals (
            apply DW.quiet [0, 1, 2, 3, 4, 5, 6, 7, 8, 9, 10, 11]
            · decide +kernel
            · first | exact fun _ h => h | exact fun _ h => St.sub h (by repeat (first | exact List.Sublist.refl _ | apply List.Sublist.cons_cons | apply List.Sublist.cons))
            repeat'(first|(apply yp;iterate 3 exact rfl)|(apply QL.ev;(·exact rfl);(·first|((first|apply Ez|apply Ey);(·exact rfl);(·repeat(first|exact iO|exact iR rfl|apply iT));exact rfl)|((first|apply Ev.fieldAddr|apply Ev.len|apply EqOf.eq|apply EqOf.ne|apply Ev.conv|apply Ev.buildN);exact rfl)|((first|apply Ev.shr|apply Ev.shl);(iterate 2 exact rfl);first|decide|omega));·exact rfl)|(apply QL.ev; (· exact rfl); (· first | (apply Ev.indexArr; (· exact rfl); (· exact rfl); (· omega); (· omega)) | (apply Ev.load; (· exact rfl); (· intro w' hw'; first | exact cellI (b := b8) hw' (by (repeat (first | exact mH _ _ | apply mT))) (q1 _) (by first | omega | (rw [al1_len (by assumption)]; omega) | (rw [al2_len (by assumption)]; omega)) | exact cellI (b := b9) hw' (by (repeat (first | exact mH _ _ | apply mT))) (q1 _) (by first | omega | (unfold ll1; rw [List.length_set]; omega)) | exact cellI (b := b10) hw' (by (repeat (first | exact mH _ _ | apply mT))) (q1 _) (by first | omega | (unfold sl1; rw [List.length_set]; omega)))) | (apply Ev.min2; (· exact rfl); (· exact rfl)) | (apply addA3; (· exact rfl); (· exact rfl); (· omega); (· omega)) | (apply Ev.add; (· exact rfl); (· exact rfl); (· omega); (· omega))); (· exact rfl))|(apply yq;iterate 5 exact rfl)|(apply QL.evg;(iterate 3 exact rfl);(·first|((first|apply Ez|apply Ey);(·exact rfl);(·repeat(first|exact iO|exact iR rfl|apply iT));exact rfl)|((first|apply Ev.fieldAddr|apply Ev.len|apply EqOf.eq|apply EqOf.ne|apply Ev.conv|apply Ev.buildN);exact rfl)|((first|apply Ev.shr|apply Ev.shl);(iterate 2 exact rfl);first|decide|omega));·exact rfl)|(apply yn;iterate 4 exact rfl)|((apply QL.split;iterate 3 exact rfl);all_goals(intro hc;try simp only[hcs]at hc;try(exfalso;first|contradiction|omega)))|apply QL.nil)
            all_goals (show DW _ _ _ _ _ _ _ _))
          all_goals (apply DW.done; (· decide +kernel))
          all_goals apply At.sink
          have hy3 := and_3 (x.fdiv (2 ^ min (Int.toNat 7) IntKind.i64.bits))
          generalize andI IntKind.i64 (x.fdiv (2 ^ min (Int.toNat 7) IntKind.i64.bits)) 3 = y3 at hy3 ⊢
          refine LR.store_obj (v := .int .i64 (if gd (al2 n i al t y1 y2) (qn % n) + y3 < (tk2 n i al t y1 y2).seq then gd (al2 n i al t y1 y2) (qn % n) + y3 else (tk2 n i al t y1 y2).seq)) (z := arI b8 (al2 n i al t y1 y2)) (z' := arI b8 (al3 n i al t y1 y2 y3 (qn % n))) rfl rfl (by (repeat (first | exact sH _ _ _ | apply sT))) rfl (st_arr (by simp only [Int.toNat_natCast, Nat.zero_add, Nat.mul_one]) (by omega)) (Asrt.dep_own _ _) ?_
          repeat'(first|(apply kp;iterate 2 exact rfl)|apply jJ|(apply jE;exact rfl)|(apply jp;exact rfl)|(apply jc;kernel_rfl)|((first|apply kf|apply kn|apply ke|apply kx|apply kc|apply kb);iterate 2 exact rfl)|((first|apply kz|apply ky);(·exact rfl);(·repeat(first|exact iO|exact iR rfl|apply iT));iterate 2 exact rfl)|(apply kg;iterate 2 exact rfl)|(apply kG;iterate 3 exact rfl)|(apply kB;(iterate 2 exact rfl);intro _)|(apply kA;exact rfl;intro _)|(apply Go.Hb.kK;(iterate 4 exact rfl);intro _)|(apply kU;(iterate 2 exact rfl);(·repeat(first|exact sH _ _ _|apply sT));(first|exact nfL_eq rfl|exact rfl);exact rfl)|((first|apply kh|apply kl);(iterate 2 exact rfl);(first|decide|omega);exact rfl)|(apply addX;(iterate 2 exact rfl);(iterate 2(first|omega|(dsimp only;omega)));exact rfl)|((first|(apply kR;iterate 2 exact rfl)|(apply kQ;exact rfl));all_goals(intro hc;try simp only[hcs]at hc;try(exfalso;first|contradiction|omega))))
          refine At.again (⟨i + 1, al3 n i al t y1 y2 y3 (qn % n), ll1 n i al ll t y1 y2, sl1 n i ll sl t, tk2 n i al t y1 y2, a2, c2⟩ : Sst) ⟨by simp only; omega, by simp only; omega, hS.step hl2 hy1 hy2.1 hy2.2 hy3.1 hjj, hz2⟩ ?_ ⟨rfl, trivial⟩ (fun w' hw' => hw'.sub (by (repeat (first | exact List.Sublist.refl _ | apply List.Sublist.cons_cons | apply List.Sublist.cons)))) (by simp only; omega)
          (repeat (first | exact Out.refl _ _ | exact Out.mix | (apply Out.upd; (· exact rfl)) | (apply Out.updL; (· exact rfl)) | (apply Out.mixs; (· exact rfl))))
        · refine CW.sub (D := St w NoF [arI b10 (sl1 n i ll sl t), arI b9 ll, arI b8 (al2 n i al t y1 y2), tkI b6 (tk1 t y2) a' c', rdA (some ⟨bl, ol, none⟩) (iv l)]) ?_ (fun w' h => by
            have e : al2 n i al t y1 y2 = al1 n i al t y1 := by unfold al2; rw [if_neg (by assumption)]
            rw [e]; exact h)
          have hask := hS.ask
          have hal2 := al2_len (y1 := y1) (y2 := y2) hS
          have hage := al2_ge (y1 := y1) (y2 := y2) hS hy1 hy2.1
          have hA2 := hage (i % n) hkn
          have hV := tokB_visit (g := []) (may_ok (y1 := y1) (y2 := y2) hS hl2 hy1 hy2.1 hy2.2)
          have hhop : (tk2 n i al t y1 y2).hop = (i : Int) + 2 := by have h1 := hV.2; have h2 := hS.hop; show (visitT _ _ _ _).hop = _; rw [h1]; show t.hop + 1 = _; omega
          have hE : tokE (tk2 n i al t y1 y2) = 0 := by unfold tokE; exact if_pos hV.1
          have hseq2 : (tk2 n i al t y1 y2).seq = t.seq + y2 := by rw [tk2_eq hS hl2 hy1 hy2.1 hy2.2]
          repeat'(first|(apply CW.reg_sinkC 7; (· exact rfl); (· decide +kernel))|(apply kp;iterate 2 exact rfl)|apply jJ|(apply jE;exact rfl)|(apply jp;exact rfl)|(apply jc;kernel_rfl)|((first|apply kf|apply kn|apply ke|apply kx|apply kc|apply kb);iterate 2 exact rfl)|((first|apply kz|apply ky);(·exact rfl);(·repeat(first|exact iO|exact iR rfl|apply iT));iterate 2 exact rfl)|(apply kg;iterate 2 exact rfl)|(apply kG;iterate 3 exact rfl)|(apply kB;(iterate 2 exact rfl);intro _)|(apply kA;exact rfl;intro _)|(apply Go.Hb.kK;(iterate 4 exact rfl);intro _)|(apply kU;(iterate 2 exact rfl);(·repeat(first|exact sH _ _ _|apply sT));(first|exact nfL_eq rfl|exact rfl);exact rfl)|((first|apply kh|apply kl);(iterate 2 exact rfl);(first|decide|omega);exact rfl)|((first|(apply kR;iterate 2 exact rfl)|(apply kQ;exact rfl));all_goals(intro hc;try simp only[hcs]at hc;try(exfalso;first|contradiction|omega))))
          all_goals (
            apply DW.quiet [0, 1, 2, 3, 4, 5]
            · decide +kernel
            · first | exact fun _ h => h | exact fun _ h => St.sub h (by repeat (first | exact List.Sublist.refl _ | apply List.Sublist.cons_cons | apply List.Sublist.cons))
            repeat'(first|(apply yp;iterate 3 exact rfl)|(apply QL.ev;(·exact rfl);(·first|((first|apply Ez|apply Ey);(·exact rfl);(·repeat(first|exact iO|exact iR rfl|apply iT));exact rfl)|((first|apply Ev.fieldAddr|apply Ev.len|apply EqOf.eq|apply EqOf.ne|apply Ev.conv|apply Ev.buildN);exact rfl)|((first|apply Ev.shr|apply Ev.shl);(iterate 2 exact rfl);first|decide|omega));·exact rfl)|(apply QL.ev; (· exact rfl); (· first | (apply Ev.indexArr; (· exact rfl); (· exact rfl); (· omega); (· omega)) | (apply Ev.load; (· exact rfl); (· intro w' hw'; first | exact cellI (b := b8) hw' (by (repeat (first | exact mH _ _ | apply mT))) (q1 _) (by first | omega | (rw [al1_len (by assumption)]; omega) | (rw [al2_len (by assumption)]; omega)) | exact cellI (b := b9) hw' (by (repeat (first | exact mH _ _ | apply mT))) (q1 _) (by first | omega | (unfold ll1; rw [List.length_set]; omega)) | exact cellI (b := b10) hw' (by (repeat (first | exact mH _ _ | apply mT))) (q1 _) (by first | omega | (unfold sl1; rw [List.length_set]; omega)))) | (apply Ev.min2; (· exact rfl); (· exact rfl)) | (apply addA3; (· exact rfl); (· exact rfl); (· omega); (· omega)) | (apply Ev.add; (· exact rfl); (· exact rfl); (· omega); (· omega))); (· exact rfl))|(apply yq;iterate 5 exact rfl)|(apply QL.evg;(iterate 3 exact rfl);(·first|((first|apply Ez|apply Ey);(·exact rfl);(·repeat(first|exact iO|exact iR rfl|apply iT));exact rfl)|((first|apply Ev.fieldAddr|apply Ev.len|apply EqOf.eq|apply EqOf.ne|apply Ev.conv|apply Ev.buildN);exact rfl)|((first|apply Ev.shr|apply Ev.shl);(iterate 2 exact rfl);first|decide|omega));·exact rfl)|(apply yn;iterate 4 exact rfl)|((apply QL.split;iterate 3 exact rfl);all_goals(intro hc;try simp only[hcs]at hc;try(exfalso;first|contradiction|omega)))|apply QL.nil)
            all_goals (show DW _ _ _ _ _ _ _ _))
          all_goals (
            apply DW.loud 6
            · exact rfl
            · decide +kernel
            repeat'(first|(apply kg;iterate 2 exact rfl)|(apply kG;iterate 3 exact rfl)|apply kM|(apply kp;iterate 2 exact rfl)|((first|apply kz|apply ky);(·exact rfl);(·repeat(first|exact iO|exact iR rfl|apply iT));iterate 2 exact rfl)|(apply Go.Hb.kK;(iterate 4 exact rfl);intro _)|(apply kU;(iterate 2 exact rfl);(·repeat(first|exact sH _ _ _|apply sT));(first|exact nfL_eq rfl|exact rfl);exact rfl)|(apply kB;(iterate 2 exact rfl);intro _)|(apply kA;exact rfl;intro _)|(apply LR.call; (· exact rfl); (intro w1 h1; refine (t14 (tk1 t y2) a' c' (1 + ((i % n : Nat) : Int)) (gd (al2 n i al t y1 y2) (i % n)) none 0 [] w1 (by rw [show (tk1 t y2).ask = [] from hask]; exact Rd.nil _ _) hz (by rw [show (tk1 t y2).ask = [] from hask]; simp) (Rd.nil _ _) (by simp)).mono ?_; rintro v w2 ⟨a2, c2, rfl, hn⟩; have hz2 := ownsAt_nz hn.own; refine LR.back (St.newOd h1 hn) ?_; clear hn h1)))
            all_goals (refine At.stage_same (fun _ h => St.sub h (by repeat (first | exact List.Sublist.refl _ | apply List.Sublist.cons_cons | apply List.Sublist.cons))) ?_))
          all_goals (apply DW.done; (· decide +kernel))
          all_goals apply At.sink
          refine LR.store_obj (v := (tk2 n i al t y1 y2).val a2 c2) (z := tkI b6 (tk1 t y2) a' c') (z' := tkI b6 (tk2 n i al t y1 y2) a2 c2) rfl rfl (by (repeat (first | exact sH _ _ _ | apply sT))) rfl st_tok (Asrt.dep_own _ _) ?_
          repeat'(first|(apply kp;iterate 2 exact rfl)|apply jJ|(apply jE;exact rfl)|(apply jp;exact rfl)|(apply jc;kernel_rfl)|((first|apply kf|apply kn|apply ke|apply kx|apply kc|apply kb);iterate 2 exact rfl)|((first|apply kz|apply ky);(·exact rfl);(·repeat(first|exact iO|exact iR rfl|apply iT));iterate 2 exact rfl)|(apply kg;iterate 2 exact rfl)|(apply kG;iterate 3 exact rfl)|(apply kB;(iterate 2 exact rfl);intro _)|(apply kA;exact rfl;intro _)|(apply Go.Hb.kK;(iterate 4 exact rfl);intro _)|(apply kU;(iterate 2 exact rfl);(·repeat(first|exact sH _ _ _|apply sT));(first|exact nfL_eq rfl|exact rfl);exact rfl)|((first|apply kh|apply kl);(iterate 2 exact rfl);(first|decide|omega);exact rfl)|(apply kq; (· exact rfl); (· intro w1 h1; have hq := CallsTo.q (t16 (tk2 n i al t y1 y2) a2 c2 w1 (h1.rd_of_odl (by (repeat (first | exact mH _ _ | apply mT)))) (by have := (tok_bd hE).2.2.2.2.2.2.2.2; omega)) h1; rw [hE] at hq; exact hq))|(apply addX;(iterate 2 exact rfl);(iterate 2(first|omega|(dsimp only;omega)));exact rfl)|(apply LR.ev; (· first | (apply Ev.indexArr; (· exact rfl); (· exact rfl); (· omega); (· omega)) | (apply Ev.load; (· exact rfl); (· intro w' hw'; first | exact cellI (b := b8) hw' (by (repeat (first | exact mH _ _ | apply mT))) (q1 _) (by first | omega | (rw [al1_len (by assumption)]; omega) | (rw [al2_len (by assumption)]; omega)) | exact cellI (b := b9) hw' (by (repeat (first | exact mH _ _ | apply mT))) (q1 _) (by first | omega | (unfold ll1; rw [List.length_set]; omega)) | exact cellI (b := b10) hw' (by (repeat (first | exact mH _ _ | apply mT))) (q1 _) (by first | omega | (unfold sl1; rw [List.length_set]; omega)))) | (apply Ev.min2; (· exact rfl); (· exact rfl)) | (apply addA3; (· exact rfl); (· exact rfl); (· omega); (· omega)) | (apply Ev.add; (· exact rfl); (· exact rfl); (· omega); (· omega))); (· exact rfl))|((first|(apply kR;iterate 2 exact rfl)|(apply kQ;exact rfl));all_goals(intro hc;try simp only[hcs]at hc;try(exfalso;first|contradiction|omega))))
          refine LR.store_obj (v := .int .i64 (tk2 n i al t y1 y2).aru) (z := arI b9 ll) (z' := arI b9 (ll1 n i al ll t y1 y2)) rfl rfl (by (repeat (first | exact sH _ _ _ | apply sT))) rfl (st_arr (by simp only [Int.toNat_natCast, Nat.zero_add, Nat.mul_one]) (by omega)) (Asrt.dep_own _ _) ?_
          repeat'(first|(apply kp;iterate 2 exact rfl)|apply jJ|(apply jE;exact rfl)|(apply jp;exact rfl)|(apply jc;kernel_rfl)|((first|apply kf|apply kn|apply ke|apply kx|apply kc|apply kb);iterate 2 exact rfl)|((first|apply kz|apply ky);(·exact rfl);(·repeat(first|exact iO|exact iR rfl|apply iT));iterate 2 exact rfl)|(apply kg;iterate 2 exact rfl)|(apply kG;iterate 3 exact rfl)|(apply kB;(iterate 2 exact rfl);intro _)|(apply kA;exact rfl;intro _)|(apply Go.Hb.kK;(iterate 4 exact rfl);intro _)|(apply kU;(iterate 2 exact rfl);(·repeat(first|exact sH _ _ _|apply sT));(first|exact nfL_eq rfl|exact rfl);exact rfl)|((first|apply kh|apply kl);(iterate 2 exact rfl);(first|decide|omega);exact rfl)|((first|(apply kR;iterate 2 exact rfl)|(apply kQ;exact rfl));all_goals(intro hc;try simp only[hcs]at hc;try(exfalso;first|contradiction|omega))))
          obtain ⟨qn, hqn⟩ := and_7n (x.fdiv (2 ^ min (Int.toNat 4) IntKind.i64.bits))
          generalize andI IntKind.i64 (x.fdiv (2 ^ min (Int.toNat 4) IntKind.i64.bits)) 7 = qi at hqn ⊢
          subst hqn
          have hjj : qn % n < n := Nat.mod_lt _ (by omega)
          have hA3 := hage (qn % n) hjj
          have hab3 := hS.ab (qn % n) hjj
          repeat'(first|(apply CW.reg_sinkC 12; (· exact rfl); (· decide +kernel))|(apply kp;iterate 2 exact rfl)|apply jJ|(apply jE;exact rfl)|(apply jp;exact rfl)|(apply jc;kernel_rfl)|((first|apply kf|apply kn|apply ke|apply kx|apply kc|apply kb);iterate 2 exact rfl)|((first|apply kz|apply ky);(·exact rfl);(·repeat(first|exact iO|exact iR rfl|apply iT));iterate 2 exact rfl)|(apply kg;iterate 2 exact rfl)|(apply kG;iterate 3 exact rfl)|(apply kB;(iterate 2 exact rfl);intro _)|(apply kA;exact rfl;intro _)|(apply Go.Hb.kK;(iterate 4 exact rfl);intro _)|(apply kU;(iterate 2 exact rfl);(·repeat(first|exact sH _ _ _|apply sT));(first|exact nfL_eq rfl|exact rfl);exact rfl)|((first|apply kh|apply kl);(iterate 2 exact rfl);(first|decide|omega);exact rfl)|(apply LR.ev; (· apply remQ (a := qn) (b := n) (q := qn % n) rfl; (· exact rfl); (· exact rfl); (· omega)); (· exact rfl))|((first|(apply kR;iterate 2 exact rfl)|(apply kQ;exact rfl));all_goals(intro hc;try simp only[hcs]at hc;try(exfalso;first|contradiction|omega))))
          all_goals (
            apply DW.quiet [0, 1, 2, 3, 4, 5, 6, 7, 8, 9, 10, 11]
            · decide +kernel
            · first | exact fun _ h => h | exact fun _ h => St.sub h (by repeat (first | exact List.Sublist.refl _ | apply List.Sublist.cons_cons | apply List.Sublist.cons))
            repeat'(first|(apply yp;iterate 3 exact rfl)|(apply QL.ev;(·exact rfl);(·first|((first|apply Ez|apply Ey);(·exact rfl);(·repeat(first|exact iO|exact iR rfl|apply iT));exact rfl)|((first|apply Ev.fieldAddr|apply Ev.len|apply EqOf.eq|apply EqOf.ne|apply Ev.conv|apply Ev.buildN);exact rfl)|((first|apply Ev.shr|apply Ev.shl);(iterate 2 exact rfl);first|decide|omega));·exact rfl)|(apply QL.ev; (· exact rfl); (· first | (apply Ev.indexArr; (· exact rfl); (· exact rfl); (· omega); (· omega)) | (apply Ev.load; (· exact rfl); (· intro w' hw'; first | exact cellI (b := b8) hw' (by (repeat (first | exact mH _ _ | apply mT))) (q1 _) (by first | omega | (rw [al1_len (by assumption)]; omega) | (rw [al2_len (by assumption)]; omega)) | exact cellI (b := b9) hw' (by (repeat (first | exact mH _ _ | apply mT))) (q1 _) (by first | omega | (unfold ll1; rw [List.length_set]; omega)) | exact cellI (b := b10) hw' (by (repeat (first | exact mH _ _ | apply mT))) (q1 _) (by first | omega | (unfold sl1; rw [List.length_set]; omega)))) | (apply Ev.min2; (· exact rfl); (· exact rfl)) | (apply addA3; (· exact rfl); (· exact rfl); (· omega); (· omega)) | (apply Ev.add; (· exact rfl); (· exact rfl); (· omega); (· omega))); (· exact rfl))|(apply yq;iterate 5 exact rfl)|(apply QL.evg;(iterate 3 exact rfl);(·first|((first|apply Ez|apply Ey);(·exact rfl);(·repeat(first|exact iO|exact iR rfl|apply iT));exact rfl)|((first|apply Ev.fieldAddr|apply Ev.len|apply EqOf.eq|apply EqOf.ne|apply Ev.conv|apply Ev.buildN);exact rfl)|((first|apply Ev.shr|apply Ev.shl);(iterate 2 exact rfl);first|decide|omega));·exact rfl)|(apply yn;iterate 4 exact rfl)|((apply QL.split;iterate 3 exact rfl);all_goals(intro hc;try simp only[hcs]at hc;try(exfalso;first|contradiction|omega)))|apply QL.nil)
            all_goals (show DW _ _ _ _ _ _ _ _))
          all_goals (apply DW.done; (· decide +kernel))
          all_goals apply At.sink
          have hy3 := and_3 (x.fdiv (2 ^ min (Int.toNat 7) IntKind.i64.bits))
          generalize andI IntKind.i64 (x.fdiv (2 ^ min (Int.toNat 7) IntKind.i64.bits)) 3 = y3 at hy3 ⊢
          refine LR.store_obj (v := .int .i64 (if gd (al2 n i al t y1 y2) (qn % n) + y3 < (tk2 n i al t y1 y2).seq then gd (al2 n i al t y1 y2) (qn % n) + y3 else (tk2 n i al t y1 y2).seq)) (z := arI b8 (al2 n i al t y1 y2)) (z' := arI b8 (al3 n i al t y1 y2 y3 (qn % n))) rfl rfl (by (repeat (first | exact sH _ _ _ | apply sT))) rfl (st_arr (by simp only [Int.toNat_natCast, Nat.zero_add, Nat.mul_one]) (by omega)) (Asrt.dep_own _ _) ?_
          repeat'(first|(apply kp;iterate 2 exact rfl)|apply jJ|(apply jE;exact rfl)|(apply jp;exact rfl)|(apply jc;kernel_rfl)|((first|apply kf|apply kn|apply ke|apply kx|apply kc|apply kb);iterate 2 exact rfl)|((first|apply kz|apply ky);(·exact rfl);(·repeat(first|exact iO|exact iR rfl|apply iT));iterate 2 exact rfl)|(apply kg;iterate 2 exact rfl)|(apply kG;iterate 3 exact rfl)|(apply kB;(iterate 2 exact rfl);intro _)|(apply kA;exact rfl;intro _)|(apply Go.Hb.kK;(iterate 4 exact rfl);intro _)|(apply kU;(iterate 2 exact rfl);(·repeat(first|exact sH _ _ _|apply sT));(first|exact nfL_eq rfl|exact rfl);exact rfl)|((first|apply kh|apply kl);(iterate 2 exact rfl);(first|decide|omega);exact rfl)|(apply addX;(iterate 2 exact rfl);(iterate 2(first|omega|(dsimp only;omega)));exact rfl)|((first|(apply kR;iterate 2 exact rfl)|(apply kQ;exact rfl));all_goals(intro hc;try simp only[hcs]at hc;try(exfalso;first|contradiction|omega))))
          refine At.again (⟨i + 1, al3 n i al t y1 y2 y3 (qn % n), ll1 n i al ll t y1 y2, sl1 n i ll sl t, tk2 n i al t y1 y2, a2, c2⟩ : Sst) ⟨by simp only; omega, by simp only; omega, hS.step hl2 hy1 hy2.1 hy2.2 hy3.1 hjj, hz2⟩ ?_ ⟨rfl, trivial⟩ (fun w' hw' => hw'.sub (by (repeat (first | exact List.Sublist.refl _ | apply List.Sublist.cons_cons | apply List.Sublist.cons)))) (by simp only; omega)
          (repeat (first | exact Out.refl _ _ | exact Out.mix | (apply Out.upd; (· exact rfl)) | (apply Out.updL; (· exact rfl)) | (apply Out.mixs; (· exact rfl))))
  · repeat'(first|(apply kp;iterate 2 exact rfl)|apply jJ|(apply jE;exact rfl)|(apply jp;exact rfl)|(apply jc;kernel_rfl)|((first|apply kf|apply kn|apply ke|apply kx|apply kc|apply kb);iterate 2 exact rfl)|((first|apply kz|apply ky);(·exact rfl);(·repeat(first|exact iO|exact iR rfl|apply iT));iterate 2 exact rfl)|(apply kg;iterate 2 exact rfl)|(apply kG;iterate 3 exact rfl)|(apply kB;(iterate 2 exact rfl);intro _)|(apply kA;exact rfl;intro _)|(apply Go.Hb.kK;(iterate 4 exact rfl);intro _)|(apply kU;(iterate 2 exact rfl);(·repeat(first|exact sH _ _ _|apply sT));(first|exact nfL_eq rfl|exact rfl);exact rfl)|((first|apply kh|apply kl);(iterate 2 exact rfl);(first|decide|omega);exact rfl)|((first|(apply kR;iterate 2 exact rfl)|(apply kQ;exact rfl));all_goals(intro hc;try simp only[hcs]at hc;try(exfalso;first|contradiction|omega))))
    all_goals (
      (apply ret1; (· exact rfl); intro w' hS)
      exact ⟨rfl, hS.toKeep⟩)
end Go.Proofs.Ythmmmbphknoagaa

namespace Go.Proofs.Ythmmmbphknoagaa
open Go.Hb
attribute [local irreducible] LR CW At Ev thn blk finK noG again CallsTo DW QL dnext TW DP
set_option linter.unusedSimpArgs false
set_option linter.unusedVariables false
set_option maxRecDepth 100000

/-! ### plain -/
theorem has_wpD (D : List Dat) (d : Dat) (s : Int) : hasD (wpD D d) s = (hasD D s || (wpOk d && decide (d.seq = s))) := by
  unfold wpD wpNew
  cases hk : wpOk d <;> cases hh : hasD D d.seq <;> simp [hasD_snoc]
  intro e
  rw [← e, hh]
structure IsHigh (D : List Dat) (h : Int) : Prop where
  pos : 0 ≤ h
  up : ∀ s, hasD D s = true → s ≤ h
  at_ : h = 0 ∨ hasD D h = true
theorem IsHigh.nil : IsHigh [] 0 := ⟨by omega, fun s h => (by cases h), .inl rfl⟩
theorem IsHigh.put {D : List Dat} {h : Int} (hh : IsHigh D h) (d : Dat) : IsHigh (wpD D d) (wpH D h d) := by
  unfold wpD wpH
  cases hn : wpNew D d with
  | false => exact hh
  | true =>
    have hp := hh.pos
    have hd : 1 ≤ d.seq := by
      unfold wpNew wpOk at hn
      simp only [Bool.and_eq_true, decide_eq_true_eq] at hn
      exact hn.1.2.1
    simp only [if_true]
    refine ⟨by omega, fun s hs => ?_, ?_⟩
    · rw [hasD_snoc, Bool.or_eq_true, decide_eq_true_eq] at hs
      rcases hs with hs | hs
      · have := hh.up s hs; omega
      · omega
    · rw [hasD_snoc]
      rcases Int.le_total h d.seq with hle | hle
      · exact .inr (by rw [show max h d.seq = d.seq by omega]; simp)
      · rcases hh.at_ with h0 | h0
        · omega
        · exact .inr (by rw [show max h d.seq = h by omega, h0]; rfl)
theorem IsHigh.uniq {D E : List Dat} {h k : Int} (hD : IsHigh D h) (hE : IsHigh E k) (e : hasD D = hasD E) : h = k := by
  have h1 : h ≤ k := by
    rcases hD.at_ with h0 | h0
    · rw [h0]; exact hE.pos
    · rw [e] at h0; exact hE.up h h0
  have h2 : k ≤ h := by
    rcases hE.at_ with h0 | h0
    · rw [h0]; exact hD.pos
    · rw [← e] at h0; exact hD.up k h0
  omega
theorem IsAru.congr {D E : List Dat} {n : Int} (h : IsAru D n) (e : hasD D = hasD E) : IsAru E n := by
  unfold IsAru Upto at *
  rwa [← e]
theorem gapsT_congr {D E : List Dat} (e : hasD D = hasD E) (h m : Int) : gapsT D h m = gapsT E h m := by
  unfold gapsT absent
  rw [e]
theorem sqs_congr {D E : List Dat} (hD : WOk D) (hE : WOk E) (e : hasD D = hasD E) : sqs D = sqs E := by
  unfold sqs sortI
  refine mergeSort_of_perm_i ((List.perm_ext_iff_of_nodup hD.nodup hE.nodup).2 fun s => ?_)
  have h1 := congrFun e s
  rw [Bool.eq_iff_iff, has_iff, has_iff] at h1
  rw [List.mem_map, List.mem_map]
  exact h1
theorem getT_seq {D : List Dat} {s : Int} (h : hasD D s = true) : (getT D s).seq = s := by
  rw [← fnd_has] at h
  obtain ⟨d, hd⟩ := Option.isSome_iff_exists.1 h
  unfold getT
  rw [hd]
  unfold fndD at hd
  simpa using List.find?_some hd
theorem abv_seq (D : List Dat) (q : Int) : (abvT D q).map Dat.seq = (sqs D).filter fun s => decide (q < s) := by
  unfold abvT abvS
  rw [List.map_map]
  refine (List.map_congr_left (g := id) fun s hs => ?_).trans (List.map_id _)
  exact getT_seq (mem_sqs.1 (List.mem_filter.1 hs).1)
theorem oneD_ok {n : Int} (h1 : 1 ≤ n) (h2 : n ≤ 9007199254740991) : wpOk (oneD n) = true := by
  unfold wpOk
  have : ringE (oneD n).rseq (oneD n).rrep = 0 := (show ringE 1 1 = 0 by decide)
  exact decide_eq_true ⟨this, h1, h2⟩
theorem oneD_has (D : List Dat) {n : Int} (h1 : 1 ≤ n) (h2 : n ≤ 9007199254740991) (s : Int) : hasD (wpD D (oneD n)) s = (hasD D s || decide (n = s)) := by
  rw [has_wpD, oneD_ok h1 h2]
  rfl
theorem oneD_E {n : Int} (h1 : 1 ≤ n) (h2 : n ≤ 9007199254740991) : wpE (oneD n) = 0 := by unfold wpE; rw [oneD_ok h1 h2]; rfl
theorem dats_len (es : List DaA) : (dats es).length = es.length := by simp [dats]
theorem wpD_len (D : List Dat) (d : Dat) : (wpD D d).length ≤ D.length + 1 := by unfold wpD; split <;> simp
/-- What has been put in: the first i of a list. -/
structure Fed (K : List Int) (i : Nat) (es : List DaA) (aru high : Int) : Prop where
  ok : WOk (dats es)
  has : ∀ s, hasD (dats es) s = true ↔ s ∈ K.take i
  aru : IsAru (dats es) aru
  high : IsHigh (dats es) high
  len : es.length ≤ i
theorem Fed.nil (K : List Int) : Fed K 0 [] 0 0 := ⟨WOk.nil, fun s => by simp [dats, hasD], IsAru.nil, IsHigh.nil, by simp⟩
theorem Fed.put {K : List Int} {i : Nat} {es es' : List DaA} {aru high aru' : Int} (h : Fed K i es aru high) (hi : i < K.length) (hK : ∀ x ∈ K, 1 ≤ x ∧ x ≤ 60) (he : dats es' = wpD (dats es) (oneD K[i])) (ha : IsAru (wpD (dats es) (oneD K[i])) aru') : Fed K (i + 1) es' aru' (wpH (dats es) high (oneD K[i])) := by
  have hk := hK _ (List.getElem_mem hi)
  refine ⟨by rw [he]; exact wpD_ok h.ok (Nat.zero_le _), fun s => ?_, by rw [he]; exact ha, by rw [he]; exact h.high.put _, ?_⟩
  · rw [he, oneD_has _ hk.1 (by omega), Bool.or_eq_true, h.has, take_snocI hi, List.mem_append, List.mem_singleton, decide_eq_true_eq]
    exact or_congr Iff.rfl ⟨fun e => e.symm, fun e => e.symm⟩
  · have h1 := congrArg List.length he
    have h2 := wpD_len (dats es) (oneD K[i])
    have h3 := h.len
    rw [dats_len] at h1 h2
    omega
theorem hD_bring (n : Int) : 1 ≤ 1 + bringT n 60 ∧ 1 + bringT n 60 ≤ 60 := by have := bringT_bd n 60 (by omega); omega
theorem dO_r {w : World} {a : Option Addr} {c : Nat} {o : List DaA} (h : (dO a c o).holds w) : Rd w a (o.flatMap DaA.row) := by
  have : (dS a c o).holds w := h.1
  exact ownsRow_rd this
theorem dO_b {w : World} {a : Option Addr} {c : Nat} {o : List DaA} (h : (dO a c o).holds w) {x : DaA} (hx : x ∈ o) : Rd w x.a (bv x.d.msg.body) := by
  have : (DaA.body x).holds w := h.2.1.1 x hx
  exact ownsRow_rd this
structure Ost where
  i : Nat
  es : List DaA
  ar : Int
  hi : Int
  fs : List DaA
  br : Int
  hj : Int
set_option maxHeartbeats 2000000 in
theorem t7 (a : Option Addr) (c : Nat) (l : List Int) (w : World) (hr : Rd w a (iv l)) (hm : l.length ≤ 17592186043904) : CallsTo Try.prog 7 [.slice a l.length c] w fun v w' => v = .bool true ∧ Grew w w' := by
  refine go_in (n := 86) (St.rd1 hr) Try.func7 rfl rfl ?_
  obtain ⟨n, hn⟩ : ∃ n, min 100 l.length = n := ⟨_, rfl⟩
  repeat'(first|(apply kp;iterate 2 exact rfl)|apply jJ|(apply jE;exact rfl)|(apply jp;exact rfl)|(apply jc;kernel_rfl)|((first|apply kf|apply kn|apply ke|apply kx|apply kc|apply kb);iterate 2 exact rfl)|((first|apply kz|apply ky);(·exact rfl);(·repeat(first|exact iO|exact iR rfl|apply iT));iterate 2 exact rfl)|(apply kg;iterate 2 exact rfl)|(apply kG;iterate 3 exact rfl)|(apply kB;(iterate 2 exact rfl);intro _)|(apply kA;exact rfl;intro _)|(apply Go.Hb.kK;(iterate 4 exact rfl);intro _)|(apply kU;(iterate 2 exact rfl);(·repeat(first|exact sH _ _ _|apply sT));(first|exact nfL_eq rfl|exact rfl);exact rfl)|((first|apply kh|apply kl);(iterate 2 exact rfl);(first|decide|omega);exact rfl)|(apply kq; (· exact rfl); (· intro w1 h1; exact CallsTo.q (t43 w1) h1))|(apply LR.ev; (· apply minQ (a := l.length) (b := 100) hn; (· exact rfl); (· exact rfl)); (· exact rfl))|(apply LR.call; (· exact rfl); (intro w1 h1; refine (t24 w1).mono ?_; rintro v w2 ⟨bw, bm, rfl, hn⟩; refine LR.back (h1.got hn (wO_dep _ _ _ _ _)) ?_; clear hn h1))|((first|(apply kR;iterate 2 exact rfl)|(apply kQ;exact rfl));all_goals(intro hc;try simp only[hcs]at hc;try(exfalso;first|contradiction|omega))))
  rename_i bv bn
  obtain ⟨K, hK⟩ : ∃ K, (l.take n).map (fun x => 1 + bringT x 60) = K := ⟨_, rfl⟩
  have hKl : K.length = n := by rw [← hK, List.length_map, List.length_take]; omega
  have hKb : ∀ x ∈ K, 1 ≤ x ∧ x ≤ 60 := fun x hx => by
    rw [← hK] at hx
    obtain ⟨y, _, rfl⟩ := List.mem_map.1 hx
    exact hD_bring y
  have hKg : ∀ i (h : i < n), K[i]'(by omega) = 1 + bringT (l[i]'(by omega)) 60 := fun i h => by
    subst hK
    simp
  apply CW.loop [2, 6, 7, 8, 9, 10, 20, 21, 22, 23, 24, 25, 26, 27, 28, 29, 30, 31, 32, 33, 34, 35, 36, 37, 38, 39, 40, 41, 42, 43, 44, 45, 46, 47, 48, 49, 50, 51, 52, 53, 54, 55] (fun s : Ost => s.i ≤ n ∧ Fed K s.i s.es s.ar s.hi ∧ Fed K.reverse s.i s.fs s.br s.hj) (fun s => [(6, .int .i64 (s.i : Int))])
    (fun s => St w NoF [wO bw bm s.fs s.br s.hj, wO bv bn s.es s.ar s.hi, rdA a (iv l)]) (fun s => n - s.i)
  · intro w' hw'
    exact ⟨⟨0, [], 0, 0, [], 0, 0⟩, ⟨by simp, Fed.nil _, Fed.nil _⟩, ⟨rfl, trivial⟩, hw'⟩
  rintro ⟨i, es, ar, hi, fs, br, hj⟩ g1 ⟨hin, hf1, hf2⟩
  simp only at hin hf1 hf2 ⊢
  by_cases hlt : i < n
  · obtain ⟨bg, og, rfl⟩ := hr.form (fun e => by have h2 := congrArg List.length e; simp only [iv_length, List.length_nil] at h2; omega)
    have hb1 := hD_bring (l[i]'(by omega))
    have hb2 := hD_bring (l[n - 1 - i]'(by omega))
    have hk1 : K[i]'(by omega) = _ := hKg i hlt
    have hk2 : K.reverse[i]'(by rw [List.length_reverse]; omega) = 1 + bringT (l[n - 1 - i]'(by omega)) 60 := by
      rw [List.getElem_reverse]
      have := hKg (n - 1 - i) (by omega)
      rw [← this]
      congr 1
      omega
    repeat'(first|(apply kp;iterate 2 exact rfl)|apply jJ|(apply jE;exact rfl)|(apply jp;exact rfl)|(apply jc;kernel_rfl)|((first|apply kf|apply kn|apply ke|apply kx|apply kc|apply kb);iterate 2 exact rfl)|((first|apply kz|apply ky);(·exact rfl);(·repeat(first|exact iO|exact iR rfl|apply iT));iterate 2 exact rfl)|(apply kg;iterate 2 exact rfl)|(apply kG;iterate 3 exact rfl)|(apply kB;(iterate 2 exact rfl);intro _)|(apply kA;exact rfl;intro _)|(apply Go.Hb.kK;(iterate 4 exact rfl);intro _)|(apply kU;(iterate 2 exact rfl);(·repeat(first|exact sH _ _ _|apply sT));(first|exact nfL_eq rfl|exact rfl);exact rfl)|((first|apply kh|apply kl);(iterate 2 exact rfl);(first|decide|omega);exact rfl)|(apply idxX;(iterate 2 exact rfl);(iterate 2(first|omega|(dsimp only;omega)));exact rfl)|(apply LR.ev; (· apply Ev.load_rd; (· exact rfl); (· repeat (first | exact mH _ _ | apply mT)); (· exact iv_at (i := i) (by omega) (by omega))); (· exact rfl))|(apply LR.ev; (· first | (apply Ev.add; (· exact rfl); (· exact rfl); (· omega); (· omega)) | (apply Ev.sub; (· exact rfl); (· exact rfl); (· omega); (· omega))); (· exact rfl))|(apply kq; (· exact rfl); (· intro w1 h1; first | exact CallsTo.q (t21 _ 60 w1 (by omega)) h1 | exact CallsTo.q (t44 _ w1) h1))|((first|(apply kR;iterate 2 exact rfl)|(apply kQ;exact rfl));all_goals(intro hc;try simp only[hcs]at hc;try(exfalso;first|contradiction|omega))))
    apply LR.call
    · exact rfl
    intro w1 h1
    have ht := t29o bv bn es ar hi (1 + bringT l[i] 60) w1 (h1.holds _ (by (repeat (first | exact mH _ _ | apply mT)))) hf1.ok hf1.aru
    rw [oneD_E (by omega) (by omega)] at ht
    refine ht.mono ?_
    clear ht
    rintro v w2 ⟨es', ar', rfl, he1, ha1, hst⟩
    have h2 := h1.did (L' := [wO bw bm fs br hj, wO bv bn es' ar' (wpH (dats es) hi (oneD (1 + bringT l[i] 60))), rdA (some ⟨bg, og, none⟩) (iv l)]) (by (repeat (first | exact sH _ _ _ | apply sT))) rfl hst (wO_dep _ _ _ _ _)
    refine LR.back h2 ?_
    clear hst h1 h2
    repeat'(first|(apply kp;iterate 2 exact rfl)|apply jJ|(apply jE;exact rfl)|(apply jp;exact rfl)|(apply jc;kernel_rfl)|((first|apply kf|apply kn|apply ke|apply kx|apply kc|apply kb);iterate 2 exact rfl)|((first|apply kz|apply ky);(·exact rfl);(·repeat(first|exact iO|exact iR rfl|apply iT));iterate 2 exact rfl)|(apply kg;iterate 2 exact rfl)|(apply kG;iterate 3 exact rfl)|(apply kB;(iterate 2 exact rfl);intro _)|(apply kA;exact rfl;intro _)|(apply Go.Hb.kK;(iterate 4 exact rfl);intro _)|(apply kU;(iterate 2 exact rfl);(·repeat(first|exact sH _ _ _|apply sT));(first|exact nfL_eq rfl|exact rfl);exact rfl)|((first|apply kh|apply kl);(iterate 2 exact rfl);(first|decide|omega);exact rfl)|(apply idxX;(iterate 2 exact rfl);(iterate 2(first|omega|(dsimp only;omega)));exact rfl)|(apply LR.ev; (· apply Ev.load_rd; (· exact rfl); (· repeat (first | exact mH _ _ | apply mT)); (· exact iv_at (i := n - 1 - i) (by omega) (by omega))); (· exact rfl))|(apply LR.ev; (· first | (apply Ev.add; (· exact rfl); (· exact rfl); (· omega); (· omega)) | (apply Ev.sub; (· exact rfl); (· exact rfl); (· omega); (· omega))); (· exact rfl))|(apply kq; (· exact rfl); (· intro w1 h1; first | exact CallsTo.q (t21 _ 60 w1 (by omega)) h1 | exact CallsTo.q (t44 _ w1) h1))|((first|(apply kR;iterate 2 exact rfl)|(apply kQ;exact rfl));all_goals(intro hc;try simp only[hcs]at hc;try(exfalso;first|contradiction|omega))))
    apply LR.call
    · exact rfl
    intro w1 h1
    have ht := t29o bw bm fs br hj (1 + bringT (l[n - 1 - i]) 60) w1 (h1.holds _ (by (repeat (first | exact mH _ _ | apply mT)))) hf2.ok hf2.aru
    rw [oneD_E (by omega) (by omega)] at ht
    refine ht.mono ?_
    clear ht
    rintro v w2 ⟨fs', br', rfl, he2, ha2, hst⟩
    have h2 := h1.did (L' := [wO bw bm fs' br' (wpH (dats fs) hj (oneD (1 + bringT l[n - 1 - i] 60))), wO bv bn es' ar' (wpH (dats es) hi (oneD (1 + bringT l[i] 60))), rdA (some ⟨bg, og, none⟩) (iv l)]) (by (repeat (first | exact sH _ _ _ | apply sT))) rfl hst (wO_dep _ _ _ _ _)
    refine LR.back h2 ?_
    clear hst h1 h2
    repeat'(first|(apply kp;iterate 2 exact rfl)|apply jJ|(apply jE;exact rfl)|(apply jp;exact rfl)|(apply jc;kernel_rfl)|((first|apply kf|apply kn|apply ke|apply kx|apply kc|apply kb);iterate 2 exact rfl)|((first|apply kz|apply ky);(·exact rfl);(·repeat(first|exact iO|exact iR rfl|apply iT));iterate 2 exact rfl)|(apply kg;iterate 2 exact rfl)|(apply kG;iterate 3 exact rfl)|(apply kB;(iterate 2 exact rfl);intro _)|(apply kA;exact rfl;intro _)|(apply Go.Hb.kK;(iterate 4 exact rfl);intro _)|(apply kU;(iterate 2 exact rfl);(·repeat(first|exact sH _ _ _|apply sT));(first|exact nfL_eq rfl|exact rfl);exact rfl)|((first|apply kh|apply kl);(iterate 2 exact rfl);(first|decide|omega);exact rfl)|(apply addX;(iterate 2 exact rfl);(iterate 2(first|omega|(dsimp only;omega)));exact rfl)|((first|(apply kR;iterate 2 exact rfl)|(apply kQ;exact rfl));all_goals(intro hc;try simp only[hcs]at hc;try(exfalso;first|contradiction|omega))))
    refine At.again (⟨i + 1, es', ar', wpH (dats es) hi (oneD (1 + bringT l[i] 60)), fs', br', wpH (dats fs) hj (oneD (1 + bringT l[n - 1 - i] 60))⟩ : Ost) ⟨by simp only; omega, ?_, ?_⟩ ?_ ⟨rfl, trivial⟩ (fun w' hw' => hw') (by simp only; omega)
    · rw [← hk1] at he1 ha1 ⊢
      exact hf1.put _ hKb he1 ha1
    · rw [← hk2] at he2 ha2 ⊢
      exact hf2.put _ (fun x hx => hKb x (List.mem_reverse.1 hx)) he2 ha2
    · (repeat (first | exact Out.refl _ _ | exact Out.mix | (apply Out.upd; (· exact rfl)) | (apply Out.updL; (· exact rfl)) | (apply Out.mixs; (· exact rfl))))
  · have hie : i = n := by omega
    subst hie
    have hh : hasD (dats es) = hasD (dats fs) := by
      funext s
      rw [Bool.eq_iff_iff, hf1.has, hf2.has, List.take_of_length_le (by omega), List.take_of_length_le (by rw [List.length_reverse]; omega), List.mem_reverse]
    obtain rfl : ar = br := (hf1.aru.congr hh).uniq hf2.aru
    obtain rfl : hi = hj := hf1.high.uniq hf2.high hh
    have hG := gapsT_congr hh hi 99
    have hS0 := sqs_congr hf1.ok hf2.ok hh
    obtain ⟨N, hN⟩ : ∃ N, (sqs (dats es)).filter (fun s => decide (0 < s)) = N := ⟨_, rfl⟩
    have hA1 : (abvT (dats es) 0).map Dat.seq = N := by rw [abv_seq, hN]
    have hA2 : (abvT (dats fs) 0).map Dat.seq = N := by rw [abv_seq, ← hS0, hN]
    have hl1 := hf1.len
    have hl2 := hf2.len
    have hNl : N.length ≤ 100 := by
      have h1 := List.length_filter_le (fun s => decide (0 < s)) (sqs (dats es))
      rw [hN, sqs_len, dats_len] at h1
      omega
    have hhi : hi ≤ 60 := by
      rcases hf1.high.at_ with h0 | h0
      · omega
      · exact (hKb _ (List.mem_of_mem_take ((hf1.has _).1 h0))).2
    have har : ar ≤ hi := by
      rcases Int.lt_or_le 0 ar with h0 | h0
      · exact hf1.high.up _ (hf1.aru.1.2 ar (by omega) (by omega))
      · have := hf1.high.pos; omega
    obtain ⟨G, hGG1⟩ : ∃ G, gapsT (dats es) hi 99 = G := ⟨_, rfl⟩
    have hGG2 : gapsT (dats fs) hi 99 = G := by rw [← hG, hGG1]
    have hGl : G.length ≤ 16 := by
      rw [← hGG1]
      unfold gapsT
      rw [List.length_take]
      omega
    repeat'(first|(apply kp;iterate 2 exact rfl)|apply jJ|(apply jE;exact rfl)|(apply jp;exact rfl)|(apply jc;kernel_rfl)|((first|apply kf|apply kn|apply ke|apply kx|apply kc|apply kb);iterate 2 exact rfl)|((first|apply kz|apply ky);(·exact rfl);(·repeat(first|exact iO|exact iR rfl|apply iT));iterate 2 exact rfl)|(apply kg;iterate 2 exact rfl)|(apply kG;iterate 3 exact rfl)|(apply kB;(iterate 2 exact rfl);intro _)|(apply kA;exact rfl;intro _)|(apply Go.Hb.kK;(iterate 4 exact rfl);intro _)|(apply kU;(iterate 2 exact rfl);(·repeat(first|exact sH _ _ _|apply sT));(first|exact nfL_eq rfl|exact rfl);exact rfl)|((first|apply kh|apply kl);(iterate 2 exact rfl);(first|decide|omega);exact rfl)|(apply LR.call; (· exact rfl); (intro w1 h1; first | (refine (t34 bv bn es ar hi 0 w1 (h1.holds _ (by (repeat (first | exact mH _ _ | apply mT)))) hf1.ok (by omega)).mono ?_; rintro v w2 ⟨a1, c1, o1, rfl, ho1, hn⟩; refine LR.back (h1.got hn (dO_dep _ _ _)) ?_; clear hn h1) | (refine (t34 bw bm fs ar hi 0 w1 (h1.holds _ (by (repeat (first | exact mH _ _ | apply mT)))) hf2.ok (by omega)).mono ?_; rintro v w2 ⟨a2, c2, o2, rfl, ho2, hn⟩; refine LR.back (h1.got hn (dO_dep _ _ _)) ?_; clear hn h1)))|((first|(apply kR;iterate 2 exact rfl)|(apply kQ;exact rfl));all_goals(intro hc;try simp only[hcs]at hc;try(exfalso;first|contradiction|omega))))
    have hlo1 : o1.length ≤ 100 := by
      have h1 := congrArg List.length hA1
      rw [← ho1, List.length_map, dats_len] at h1
      omega
    have hlo2 : o2.length ≤ 100 := by
      have h1 := congrArg List.length hA2
      rw [← ho2, List.length_map, dats_len] at h1
      omega
    repeat'(first|(apply kp;iterate 2 exact rfl)|apply jJ|(apply jE;exact rfl)|(apply jp;exact rfl)|(apply jc;kernel_rfl)|((first|apply kf|apply kn|apply ke|apply kx|apply kc|apply kb);iterate 2 exact rfl)|((first|apply kz|apply ky);(·exact rfl);(·repeat(first|exact iO|exact iR rfl|apply iT));iterate 2 exact rfl)|(apply kg;iterate 2 exact rfl)|(apply kG;iterate 3 exact rfl)|(apply kB;(iterate 2 exact rfl);intro _)|(apply kA;exact rfl;intro _)|(apply Go.Hb.kK;(iterate 4 exact rfl);intro _)|(apply kU;(iterate 2 exact rfl);(·repeat(first|exact sH _ _ _|apply sT));(first|exact nfL_eq rfl|exact rfl);exact rfl)|((first|apply kh|apply kl);(iterate 2 exact rfl);(first|decide|omega);exact rfl)|(apply kq; (· exact rfl); (· intro w1 h1; first | exact CallsTo.q (t35 bv bn es ar hi w1 (h1.holds _ (by (repeat (first | exact mH _ _ | apply mT))))) h1 | exact CallsTo.q (t35 bw bm fs ar hi w1 (h1.holds _ (by (repeat (first | exact mH _ _ | apply mT))))) h1 | exact CallsTo.q (t37 bv bn es ar hi w1 (h1.holds _ (by (repeat (first | exact mH _ _ | apply mT))))) h1 | exact CallsTo.q (t37 bw bm fs ar hi w1 (h1.holds _ (by (repeat (first | exact mH _ _ | apply mT))))) h1 | exact CallsTo.q (t19 ag1 ag2 cg1 cg2 G G w1 (h1.rd_of_own (by (repeat (first | exact mH _ _ | apply mT)))) (h1.rd_of_own (by (repeat (first | exact mH _ _ | apply mT)))) (by omega)) h1 | exact CallsTo.q (t19 an1 an2 cn1 cn2 N N w1 (h1.rd_of_own (by (repeat (first | exact mH _ _ | apply mT)))) (h1.rd_of_own (by (repeat (first | exact mH _ _ | apply mT)))) (by omega)) h1))|(apply LR.call; (· exact rfl); (intro w1 h1; first | (have ht := t39 bv bn es ar hi 99 w1 (h1.holds _ (by (repeat (first | exact mH _ _ | apply mT)))) hf1.aru.1 har (by omega); rw [hGG1] at ht; refine ht.mono ?_; rintro v w2 ⟨ag1, cg1, rfl, hn⟩; refine LR.back (h1.newSl hn) ?_; clear hn h1 ht) | (have ht := t39 bw bm fs ar hi 99 w1 (h1.holds _ (by (repeat (first | exact mH _ _ | apply mT)))) hf2.aru.1 har (by omega); rw [hGG2] at ht; refine ht.mono ?_; rintro v w2 ⟨ag2, cg2, rfl, hn⟩; refine LR.back (h1.newSl hn) ?_; clear hn h1 ht) | (have ht := t45 a1 c1 o1 w1 (dO_r (h1.holds (dO a1 c1 o1) (by (repeat (first | exact mH _ _ | apply mT))))) (by omega); rw [ho1, hA1] at ht; refine ht.mono ?_; rintro v w2 ⟨an1, cn1, rfl, hn⟩; refine LR.back (h1.newSl hn) ?_; clear hn h1 ht) | (have ht := t45 a2 c2 o2 w1 (dO_r (h1.holds (dO a2 c2 o2) (by (repeat (first | exact mH _ _ | apply mT))))) (by omega); rw [ho2, hA2] at ht; refine ht.mono ?_; rintro v w2 ⟨an2, cn2, rfl, hn⟩; refine LR.back (h1.newSl hn) ?_; clear hn h1 ht)))|((first|(apply kR;iterate 2 exact rfl)|(apply kQ;exact rfl));all_goals(intro hc;try simp only[hcs]at hc;try(exfalso;first|contradiction|omega))))
    (apply ret1; (· exact rfl); intro w' hS)
    refine ⟨?_, hS.toKeep⟩
    show Value.bool (decide (N = N)) = .bool true
    simp
end Go.Proofs.Ythmmmbphknoagaa

namespace Go.Proofs.Ythmmmbphknoagaa
open Go.Hb
set_option linter.unusedSimpArgs false
set_option linter.unusedVariables false
set_option maxRecDepth 100000

theorem ints_of : ∀ (css : List (List Value)), (∀ c ∈ css, ∃ n : Int, c = [.int .i64 n] ∧ i64 n) → ∃ l : List Int, css.flatten = iv l ∧ l.length = css.length ∧ ∀ x ∈ l, i64 x
  | [], _ => ⟨[], rfl, rfl, fun p hp => by simp at hp⟩
  | c :: r, h => by
    obtain ⟨n, rfl, hp⟩ := h c List.mem_cons_self
    obtain ⟨l, h1, h2, h3⟩ := ints_of r fun c hc => h c (List.mem_cons_of_mem _ hc)
    refine ⟨n :: l, by rw [List.flatten_cons, h1]; rfl, by simp [h2], fun q hq => ?_⟩
    rcases List.mem_cons.1 hq with rfl | hq
    · exact hp
    · exact h3 q hq
theorem opn_ints : Opn Try.prog 24 (fun w cs => ∃ (a : Option Addr) (c : Nat) (l : List Int), cs = [.slice a l.length c] ∧ Rd w a (iv l) ∧ (∀ x ∈ l, i64 x) ∧ (a = none → c = 0) ∧ l.length ≤ c ∧ l.length ≤ 17592186043904) := by
  refine (opn_slice Try.underlying24 (sz := 1) (by_ := 8) (by kernel_rfl) (by omega) (by kernel_rfl) opn_i64).mono ?_
  rintro w cs ⟨a, len, cap, css, rfl, rfl, hg, hr, hz, hc, hm⟩
  obtain ⟨l, h1, h2, h3⟩ := ints_of css fun c hc => (hg c hc).1
  rw [h1] at hr
  have hm : css.length * 8 ≤ 140737488351232 := hm
  exact ⟨a, cap, l, by rw [h2], hr, h3, hz, by omega, by omega⟩
def TkI (t : Tk) : Prop := i64 t.r1 ∧ i64 t.r2 ∧ i64 t.hop ∧ i64 t.seq ∧ i64 t.aru ∧ i64 t.low ∧ i64 t.stamp ∧ i64 t.idle ∧ ∀ x ∈ t.ask, i64 x
theorem opn_tok : Opn Try.prog 26 (fun w cs => ∃ (t : Tk) (a : Option Addr) (c : Nat), cs = t.cells a c ∧ Rd w a (iv t.ask) ∧ TkI t ∧ (a = none → c = 0) ∧ t.ask.length ≤ c ∧ t.ask.length ≤ 17592186043904) := by
  refine (opn_struct Try.underlying26).mono fun w cs ⟨hl, h⟩ => ?_
  have hl : cs.length = 9 := hl
  match cs, hl with
  | [y0, y1, y2, y3, y4, y5, y6, y7, y8], hl =>
    obtain ⟨x0, x1, h0, g0, g1⟩ := h 0 _ rfl _ opn_ring
    obtain ⟨x2, h2, g2⟩ := h 1 _ rfl _ opn_i64
    obtain ⟨x3, h3, g3⟩ := h 2 _ rfl _ opn_i64
    obtain ⟨x4, h4, g4⟩ := h 3 _ rfl _ opn_i64
    obtain ⟨x5, h5, g5⟩ := h 4 _ rfl _ opn_i64
    obtain ⟨x6, h6, g6⟩ := h 5 _ rfl _ opn_i64
    obtain ⟨x7, h7, g7⟩ := h 6 _ rfl _ opn_i64
    obtain ⟨a, c, l, h8, hr, hb, hz, hc, hm⟩ := h 7 _ rfl _ opn_ints
    have k0 : [y0, y1] = [Value.int .i64 x0, .int .i64 x1] := h0
    have k2 : [y2] = [Value.int .i64 x2] := h2
    have k3 : [y3] = [Value.int .i64 x3] := h3
    have k4 : [y4] = [Value.int .i64 x4] := h4
    have k5 : [y5] = [Value.int .i64 x5] := h5
    have k6 : [y6] = [Value.int .i64 x6] := h6
    have k7 : [y7] = [Value.int .i64 x7] := h7
    have k8 : [y8] = [Value.slice a l.length c] := h8
    simp only [List.cons.injEq, and_true] at k0 k2 k3 k4 k5 k6 k7 k8
    exact ⟨⟨x0, x1, x2, x3, x4, x5, x6, x7, l⟩, a, c, by rw [k0.1, k0.2, k2, k3, k4, k5, k6, k7, k8]; rfl, hr, ⟨g0, g1, g2, g3, g4, g5, g6, g7, hb⟩, hz, hc, hm⟩
structure Vst where
  node : Int
  aru : Int
  gaps : List Int
def Vst.cells (v : Vst) (a : Option Addr) (c : Nat) : List Value := [.int .i64 v.node, .int .i64 v.aru, .slice a v.gaps.length c]
def Vst.val (v : Vst) (a : Option Addr) (c : Nat) : Value := .agg (v.cells a c).toArray
def VstI (v : Vst) : Prop := i64 v.node ∧ i64 v.aru ∧ ∀ x ∈ v.gaps, i64 x
theorem opn_at : Opn Try.prog 28 (fun w cs => ∃ (v : Vst) (a : Option Addr) (c : Nat), cs = v.cells a c ∧ Rd w a (iv v.gaps) ∧ VstI v ∧ (a = none → c = 0) ∧ v.gaps.length ≤ c ∧ v.gaps.length ≤ 17592186043904) := by
  refine (opn_struct Try.underlying28).mono fun w cs ⟨hl, h⟩ => ?_
  have hl : cs.length = 3 := hl
  match cs, hl with
  | [y0, y1, y2], hl =>
    obtain ⟨x0, h0, g0⟩ := h 0 _ rfl _ opn_i64
    obtain ⟨x1, h1, g1⟩ := h 1 _ rfl _ opn_i64
    obtain ⟨a, c, l, h2, hr, hb, hz, hc, hm⟩ := h 2 _ rfl _ opn_ints
    have k0 : [y0] = [Value.int .i64 x0] := h0
    have k1 : [y1] = [Value.int .i64 x1] := h1
    have k2 : [y2] = [Value.slice a l.length c] := h2
    simp only [List.cons.injEq, and_true] at k0 k1 k2
    exact ⟨⟨x0, x1, l⟩, a, c, by rw [k0, k1, k2]; rfl, hr, ⟨g0, g1, hb⟩, hz, hc, hm⟩
end Go.Proofs.Ythmmmbphknoagaa

namespace Go.Proofs.Ythmmmbphknoagaa
open Go.Hb Go.ChangeShapes Go.WideShapes
set_option linter.unusedSimpArgs false
set_option linter.unusedVariables false
set_option maxRecDepth 100000

structure WdA where
  see : Bool
  n : Int
  x : DaA
def WdA.row (x : WdA) : List Value := .bool x.see :: .int .i64 x.n :: x.x.row
theorem WdA.row_len (x : WdA) : x.row.length = 20 := rfl
structure WdR (w : World) (x : WdA) : Prop where
  hr : Rd w x.x.a (bv x.x.d.msg.body)
  hz : x.x.a = none → x.x.c = 0
  hm : x.x.d.msg.body.length ≤ 140737488351232
  hi : i64 x.n
theorem opn_wdo : Opn Try.prog 59 (fun w cs => ∃ x : WdA, cs = x.row ∧ WdR w x) := by
  refine (opn_struct Try.underlying59).mono fun w cs ⟨hl, h⟩ => ?_
  have hl : cs.length = 20 := hl
  match cs, hl with
  | y0 :: y1 :: r, hl =>
    have hl : r.length = 18 := by simpa using hl
    obtain ⟨x0, h0⟩ := h 0 _ rfl _ opn_bool4
    obtain ⟨x1, h1, g1⟩ := h 1 _ rfl _ opn_i64
    obtain ⟨d, a, c, h2, hr, hb, hz, hm, _⟩ := h 2 _ rfl _ opn_dat
    have h0 : [y0] = [Value.bool x0] := h0
    have h1 : [y1] = [Value.int .i64 x1] := h1
    have h2 : r.take 18 = d.cells a c := h2
    have h3 : r = d.cells a c := by rw [← h2, List.take_of_length_le (by omega)]
    simp only [List.cons.injEq, and_true] at h0 h1
    exact ⟨⟨x0, x1, ⟨d, a, c⟩⟩, by rw [h0, h1, h3]; rfl, hr, hz, hm, g1⟩
theorem opn_dos : Opn Try.prog 46 (fun w cs => ∃ (a : Option Addr) (c : Nat) (l : List WdA), cs = [.slice a l.length c] ∧ Rd w a (l.flatMap WdA.row) ∧ (∀ x ∈ l, WdR w x) ∧ (a = none → c = 0) ∧ l.length ≤ c ∧ l.length ≤ 140737488351232) := by
  refine (opn_slice Try.underlying46 (sz := 20) (by_ := 176) (by kernel_rfl) (by omega) (by kernel_rfl) opn_wdo).mono ?_
  rintro w cs ⟨a, len, cap, css, rfl, rfl, hg, hr, hz, hc, hm⟩
  obtain ⟨l, h1, h2, h3⟩ := rows_of css fun c hc => (hg c hc).1
  rw [h1] at hr
  have hm : css.length * 176 ≤ 140737488351232 := hm
  exact ⟨a, cap, l, by rw [h2], hr, h3, hz, by omega, by omega⟩
/-! ### plain -/
structure Wn (i : Nat) (es : List DaA) (ar hi : Int) : Prop where
  ok : WOk (dats es)
  aru : IsAru (dats es) ar
  up : ∀ s, hasD (dats es) s = true → s ≤ hi
  hi0 : 0 ≤ hi
  him : hi ≤ 9007199254740991
  len : es.length ≤ i
theorem Wn.nil : Wn 0 [] 0 0 := ⟨WOk.nil, IsAru.nil, fun s h => (by cases h), by omega, by omega, by simp⟩
theorem Wn.ar_hi {i : Nat} {es : List DaA} {ar hi : Int} (h : Wn i es ar hi) : ar ≤ hi := by
  rcases Int.lt_or_le 0 ar with h0 | h0
  · exact h.up _ (h.aru.1.2 ar (by omega) (by omega))
  · have := h.hi0; omega
theorem Wn.see {i : Nat} {es : List DaA} {ar hi : Int} (h : Wn i es ar hi) (s : Int) : Wn (i + 1) es ar (seeH hi s) := by
  have h1 := h.hi0
  have h2 := h.him
  have h3 := h.len
  unfold seeH
  split
  · exact ⟨h.ok, h.aru, h.up, h1, h2, by omega⟩
  · exact ⟨h.ok, h.aru, fun x hx => by have := h.up x hx; omega, by omega, by omega, by omega⟩
theorem Wn.put {i : Nat} {es es' : List DaA} {ar ar' hi : Int} {d : Dat} (h : Wn i es ar hi) (hl : d.msg.body.length ≤ 140737488351232) (he : dats es' = wpD (dats es) d) (ha : IsAru (wpD (dats es) d) ar') : Wn (i + 1) es' ar' (wpH (dats es) hi d) := by
  have h1 := h.hi0
  have h2 := h.him
  have h3 := h.len
  refine ⟨by rw [he]; exact wpD_ok h.ok hl, by rw [he]; exact ha, fun s hs => ?_, ?_, ?_, ?_⟩
  · rw [he, has_wpD, Bool.or_eq_true, Bool.and_eq_true, decide_eq_true_eq] at hs
    unfold wpH
    rcases hs with hs | ⟨hk, rfl⟩
    · have := h.up s hs
      split <;> omega
    · cases hh : hasD (dats es) d.seq with
      | true =>
        have := h.up _ hh
        split <;> omega
      | false =>
        have hn : wpNew (dats es) d = true := by unfold wpNew; rw [hk, hh]; rfl
        rw [hn]
        simp only [if_true]
        omega
  · unfold wpH
    split <;> omega
  · unfold wpH
    split
    · rename_i hn
      unfold wpNew wpOk at hn
      simp only [Bool.and_eq_true, decide_eq_true_eq] at hn
      have := hn.1.2.2
      omega
    · omega
  · have h5 := congrArg List.length he
    have h6 := wpD_len (dats es) d
    rw [dats_len] at h5 h6
    omega
def DaA.put (x : DaA) (bs : List Int) : DaA := ⟨{ x.d with msg := { x.d.msg with body := bs } }, x.a, x.c⟩
theorem DaA.put_row {x : DaA} {bs : List Int} (h : bs.length = x.d.msg.body.length) : (x.put bs).row = x.row := by
  show Dat.cells _ _ _ = Dat.cells _ _ _
  unfold Dat.cells Msg.cells DaA.put
  simp only [h]
theorem dS_put (a : Option Addr) (c : Nat) {o : List DaA} {k : Nat} (hk : k < o.length) {bs : List Int} (h : bs.length = o[k].d.msg.body.length) : dS a c (o.set k (o[k].put bs)) = dS a c o := by
  have e : (o.set k (o[k].put bs)).flatMap DaA.row = o.flatMap DaA.row := by
    rw [List.flatMap_def, List.flatMap_def, List.map_set, DaA.put_row h]
    congr 1
    have : o[k].row = (o.map DaA.row)[k]'(by simpa using hk) := by simp
    rw [this, List.set_getElem_self]
  unfold dS
  rw [e, List.length_set]
theorem take_drop_atW {α : Type} {l : List α} {k : Nat} (hk : k < l.length) : l = l.take k ++ l[k] :: l.drop (k + 1) := by
  rw [← List.drop_eq_getElem_cons hk, List.take_append_drop]
theorem bun_openW {α : Type} {f : α → Asrt} {w0 w : World} {F : Nat → Prop} {R : List Asrt} {l : List α} {k : Nat} (hd : ∀ x, (f x).dep) (hk : k < l.length) (h : St w0 F (bun f l :: R) w) : St w0 F (f l[k] :: bun f (l.take k ++ l.drop (k + 1)) :: R) w :=
  St.bun_pick hd (h.cast (congrArg (fun z => bun f z :: R) (take_drop_atW hk)))
theorem bun_shutW {α : Type} {f : α → Asrt} {w0 w : World} {F : Nat → Prop} {R : List Asrt} {l : List α} {k : Nat} {x : α} (hd : ∀ x, (f x).dep) (he : ∀ x, (f x).excl = true) (hk : k < l.length) (h : St w0 F (f x :: bun f (l.take k ++ l.drop (k + 1)) :: R) w) : St w0 F (bun f (l.set k x) :: R) w := by
  rw [List.set_eq_take_append_cons_drop, if_pos hk]
  exact St.bun_put hd he h
end Go.Proofs.Ythmmmbphknoagaa

namespace Go.Proofs.Ythmmmbphknoagaa
open Go.Hb
set_option linter.unusedSimpArgs false
set_option linter.unusedVariables false

def pres (D : List Dat) (a : Int) (n : Nat) : List Int := ((List.range n).map fun k : Nat => a + (k : Int)).filter fun s => hasD D s
theorem pres_succ (D : List Dat) (a : Int) (k : Nat) : pres D a (k + 1) = pres D a k ++ if hasD D (a + k) then [a + (k : Int)] else [] := by
  unfold pres
  rw [List.range_succ, List.map_append, List.filter_append]
  congr 1
  by_cases h : hasD D (a + k) = true
  · simp [h]
  · simp [h]
theorem pres_len (D : List Dat) (a : Int) (n : Nat) : (pres D a n).length ≤ n := by
  unfold pres
  refine Nat.le_trans (List.length_filter_le _ _) ?_
  simp
theorem mem_pres {D : List Dat} {n : Nat} {s : Int} : s ∈ pres D 1 n ↔ hasD D s = true ∧ 1 ≤ s ∧ s ≤ n := by
  unfold pres
  rw [List.mem_filter, List.mem_map]
  constructor
  · rintro ⟨⟨k, hk, rfl⟩, h⟩
    rw [List.mem_range] at hk
    exact ⟨h, by omega, by omega⟩
  · rintro ⟨h, h1, h2⟩
    exact ⟨⟨(s - 1).toNat, by rw [List.mem_range]; omega, by omega⟩, h⟩
theorem pres_asc (D : List Dat) (n : Nat) : (pres D 1 n).Pairwise (· < ·) := by
  unfold pres
  refine List.Pairwise.filter _ ?_
  rw [List.pairwise_map]
  exact List.pairwise_lt_range.imp (fun h => by omega)
theorem asc_extW {l r : List Int} (hl : l.Pairwise (· < ·)) (hr : r.Pairwise (· < ·)) (h : ∀ x, x ∈ l ↔ x ∈ r) : l = r := by
  have n1 : l.Nodup := hl.imp (fun hab => by omega)
  have n2 : r.Nodup := hr.imp (fun hab => by omega)
  refine List.Perm.eq_of_pairwise (le := fun a b => a < b) (fun a b _ _ h1 h2 => by omega) hl hr ((List.perm_ext_iff_of_nodup n1 n2).2 h)
structure Bk (i : Nat) (es : List DaA) (ar hi : Int) : Prop where
  ok : WOk (dats es)
  one : ∀ d ∈ dats es, d = oneD d.seq
  aru : IsAru (dats es) ar
  up : ∀ s, hasD (dats es) s = true → s ≤ hi
  hi0 : 0 ≤ hi
  hi60 : hi ≤ 60
  len : es.length ≤ i
theorem Bk.nil : Bk 0 [] 0 0 := ⟨WOk.nil, fun d h => (by cases h), IsAru.nil, fun s h => (by cases h), by omega, by omega, by simp⟩
theorem Bk.ar_hi {i : Nat} {es : List DaA} {ar hi : Int} (h : Bk i es ar hi) : ar ≤ hi := by
  rcases Int.lt_or_le 0 ar with h0 | h0
  · exact h.up _ (h.aru.1.2 ar (by omega) (by omega))
  · have := h.hi0; omega
theorem Bk.pos {i : Nat} {es : List DaA} {ar hi : Int} (h : Bk i es ar hi) {s : Int} (hs : hasD (dats es) s = true) : 1 ≤ s := by
  obtain ⟨d, hd, rfl⟩ := has_iff.1 hs
  exact (h.ok.rng d hd).1
theorem Bk.see {i : Nat} {es : List DaA} {ar hi n : Int} (h : Bk i es ar hi) (h1 : 1 ≤ n) (h2 : n ≤ 60) : Bk (i + 1) es ar (seeH hi n) ∧ seeH hi n = max hi n ∧ seeE n = 0 := by
  have e : seeH hi n = max hi n := by unfold seeH; rw [if_neg (by omega)]
  have e2 : seeE n = 0 := by unfold seeE; rw [if_neg (by omega)]
  have := h.hi0
  have := h.hi60
  refine ⟨?_, e, e2⟩
  rw [e]
  exact ⟨h.ok, h.one, h.aru, fun s hs => by have := h.up s hs; omega, by omega, by omega, by have := h.len; omega⟩
theorem Bk.put {i : Nat} {es es' : List DaA} {ar ar' hi n : Int} (h : Bk i es ar hi) (h1 : 1 ≤ n) (h2 : n ≤ 60) (he : dats es' = wpD (dats es) (oneD n)) (ha : IsAru (wpD (dats es) (oneD n)) ar') :
    Bk (i + 1) es' ar' (wpH (dats es) hi (oneD n)) ∧ wpH (dats es) hi (oneD n) = max hi n ∧ wpNew (dats es) (oneD n) = !hasD (dats es) n ∧ ar ≤ ar' ∧ ∀ s, hasD (dats es') s = (hasD (dats es) s || decide (n = s)) := by
  have hnew : wpNew (dats es) (oneD n) = !hasD (dats es) n := by
    unfold wpNew
    rw [oneD_ok h1 (by omega)]
    rfl
  have hH : wpH (dats es) hi (oneD n) = max hi n := by
    unfold wpH
    rw [hnew]
    cases hx : hasD (dats es) n with
    | false => rfl
    | true =>
      have := h.up n hx
      show hi = max hi n
      omega
  have hs : ∀ s, hasD (dats es') s = (hasD (dats es) s || decide (n = s)) := fun s => by rw [he, oneD_has _ h1 (by omega)]
  have h3 := h.hi0
  have h4 := h.hi60
  refine ⟨?_, hH, hnew, ?_, hs⟩
  · rw [hH]
    refine ⟨by rw [he]; exact wpD_ok h.ok (Nat.zero_le _), fun d hd => ?_, by rw [he]; exact ha, fun s hx => ?_, by omega, by omega, ?_⟩
    · rw [he] at hd
      unfold wpD at hd
      split at hd
      · rcases List.mem_append.1 hd with hd | hd
        · exact h.one d hd
        · rw [List.mem_singleton] at hd; subst hd; rfl
      · exact h.one d hd
    · rw [hs, Bool.or_eq_true, decide_eq_true_eq] at hx
      rcases hx with hx | hx
      · have := h.up s hx; omega
      · omega
    · have h5 := congrArg List.length he
      have h6 := wpD_len (dats es) (oneD n)
      have h7 := h.len
      rw [dats_len] at h5 h6
      omega
  · rcases Int.lt_or_le ar' ar with hlt | hle
    · exfalso
      have h5 := h.aru.1.2 (ar' + 1) (by have := ha.1.1; omega) (by omega)
      have h6 := ha.2
      rw [← he, hs, h5] at h6
      cases h6
    · exact hle
/-- The book beside the window. -/
def bkV (D : List Dat) : List Value := (List.range 62).map fun k : Nat => Value.bool (hasD D (k : Int))
theorem bkV_len (D : List Dat) : (bkV D).length = 62 := by simp [bkV]
theorem bkV_get (D : List Dat) {k : Nat} {s : Int} (h : k < 62) (hs : s = (k : Int)) : (bkV D)[k]? = some (.bool (hasD D s)) := by
  subst hs
  unfold bkV
  simp [h]
theorem bkV_nil : bkV (dats []) = List.replicate 62 (.bool false) := rfl
theorem bkV_set {D E : List Dat} {n : Int} {k : Nat} (hk : k < 62) (hn : n = (k : Int)) (h : ∀ s, hasD E s = (hasD D s || decide (n = s))) : (bkV D).set k (.bool true) = bkV E := by
  subst hn
  refine List.ext_getElem (by simp [bkV]) fun j h1 h2 => ?_
  rw [List.getElem_set]
  have hj : j < 62 := by simpa [bkV] using h2
  have e1 : (bkV E)[j] = .bool (hasD E (j : Int)) := by simp [bkV]
  have e2 : (bkV D)[j]'(by rw [bkV_len]; exact hj) = .bool (hasD D (j : Int)) := by simp [bkV]
  refine Eq.trans ?_ e1.symm
  rw [h]
  refine Eq.trans (congrArg (fun z => if k = j then Value.bool true else z) e2) ?_
  show (if k = j then Value.bool true else Value.bool (hasD D (j : Int))) = _
  split
  · rename_i e
    subst e
    simp
  · rename_i e
    rw [decide_eq_false (by omega), Bool.or_false]
theorem absent_nil {D : List Dat} {ar hi : Int} (h : IsAru D ar) (hl : ar ≤ hi) (h0 : 0 ≤ hi) : (absent D 1 hi.toNat = []) ↔ ar = hi := by
  constructor
  · intro e
    rcases Int.lt_or_le ar hi with hlt | hle
    · exfalso
      have hm : ar + 1 ∈ absent D 1 hi.toNat := by
        unfold absent
        rw [List.mem_filter, List.mem_map]
        have := h.1.1
        exact ⟨⟨ar.toNat, by rw [List.mem_range]; omega, by omega⟩, by rw [h.2]; rfl⟩
      rw [e] at hm
      cases hm
    · omega
  · intro e
    exact absent_upto h.1 _ (by omega)
theorem Bk.there {i : Nat} {es : List DaA} {ar hi : Int} (h : Bk i es ar hi) : (abvT (dats es) 0).map Dat.seq = pres (dats es) 1 hi.toNat := by
  rw [abv_seq]
  refine asc_extW ((sqs_asc h.ok).filter _) (pres_asc _ _) fun x => ?_
  rw [List.mem_filter, mem_sqs, mem_pres, decide_eq_true_eq]
  have := h.hi0
  exact and_congr_right fun hx => ⟨fun h1 => by have := h.up x hx; omega, fun h1 => by omega⟩
theorem Bk.gaps {i : Nat} {es : List DaA} {ar hi : Int} : gapsT (dats es) hi 4611686018427387904 = (absent (dats es) 1 hi.toNat).take 16 := rfl
theorem Bk.id {i : Nat} {es : List DaA} {ar hi : Int} (h : Bk i es ar hi) {s : Int} (hs : hasD (dats es) s = true) : (getT (dats es) s).msg.id = s := by
  obtain ⟨d, hd, rfl⟩ := has_iff.1 hs
  rw [getT_of h.ok.nodup hd]
  have h1 := h.one d hd
  rw [h1]
  rfl
theorem ownsRow_sub0 {w : World} {base E sz n c : Nat} {a : Option Addr} {xs : List Value} (h : w.ownsRow base E sz (.slice a n c) n xs) : subA a c 0 sz = a := by
  rcases h.2 with ⟨he, _⟩ | ⟨g, cap, cur, he, _⟩
  · simp only [Value.slice.injEq] at he
    rw [he.1]
    unfold subA
    split <;> rfl
  · simp only [Value.slice.injEq] at he
    rw [he.1]
    unfold subA
    split
    · rfl
    · simp [Addr.add]
theorem DW.pull {P : Program} {n : Nat} {ops : List Oper} {Q : Post} {done : List Nat} {S C : World → Prop} {f : Frm} {p : Prop} (hp : ∀ w, C w → p) (h : p → DW P n ops Q done S f C) : DW P n ops Q done S f C := fun w hw => h (hp w hw) w hw
theorem il_take {w : World} {a : Option Addr} {c : Nat} {G : List Int} (m : Nat) (h : (il a c G).holds w) : Rd w (subA a c 0 1) (iv (G.take m)) := by
  have h : w.ownsRow 0 3 1 (.slice a G.length c) G.length (iv G) := h
  rw [ownsRow_sub0 h]
  have := (ownsRow_rd h).take m
  rwa [show (iv G).take m = iv (G.take m) by simp [iv, List.map_take]] at this
theorem il_cap {w : World} {a : Option Addr} {c : Nat} {G : List Int} (h : (il a c G).holds w) : G.length ≤ c := by
  have h : w.ownsRow 0 3 1 (.slice a G.length c) G.length (iv G) := h
  exact ownsRow_cap h
end Go.Proofs.Ythmmmbphknoagaa

namespace Go.Proofs.Ythmmmbphknoagaa
open Go.Hb Go.ChangeShapes Go.WideShapes
attribute [local irreducible] LR CW At Ev thn blk finK noG again CallsTo DW QL dnext TW DP
set_option linter.unusedSimpArgs false
set_option linter.unusedVariables false
set_option maxRecDepth 100000

structure Pst where
  i : Nat
  es : List DaA
  ar : Int
  hi : Int
  fs : List DaA
  av : Option Addr
  cv : Nat
set_option maxHeartbeats 4000000 in
theorem t6 (a : Option Addr) (c : Nat) (l : List WdA) (w : World) (hr : Rd w a (l.flatMap WdA.row)) (hR : ∀ x ∈ l, WdR w x) (hm : l.length ≤ 140737488351232) : CallsTo Try.prog 6 [.slice a l.length c] w fun v w' => v = .bool true ∧ Grew w w' := by
  refine go_in (n := 198) (St.rd1 hr) Try.func6 rfl rfl ?_
  repeat'(first|(apply kp;iterate 2 exact rfl)|apply jJ|(apply jE;exact rfl)|(apply jp;exact rfl)|(apply jc;kernel_rfl)|((first|apply kf|apply kn|apply ke|apply kx|apply kc|apply kb);iterate 2 exact rfl)|((first|apply kz|apply ky);(·exact rfl);(·repeat(first|exact iO|exact iR rfl|apply iT));iterate 2 exact rfl)|(apply kg;iterate 2 exact rfl)|(apply kG;iterate 3 exact rfl)|(apply kB;(iterate 2 exact rfl);intro _)|(apply kA;exact rfl;intro _)|(apply Go.Hb.kK;(iterate 4 exact rfl);intro _)|(apply kU;(iterate 2 exact rfl);(·repeat(first|exact sH _ _ _|apply sT));(first|exact nfL_eq rfl|exact rfl);exact rfl)|((first|apply kh|apply kl);(iterate 2 exact rfl);(first|decide|omega);exact rfl)|(apply LR.call; (· exact rfl); (intro w1 h1; first | (refine (t24 w1).mono ?_; rintro v w2 ⟨bw, bm, rfl, hn⟩; refine LR.back (h1.got hn (wO_dep _ _ _ _ _)) ?_; clear hn h1) | (refine (t25 w1).mono ?_; rintro v w2 ⟨bv', rfl, hn⟩; refine LR.back (h1.got hn (vO_dep _ _ _ _ _)) ?_; clear hn h1)))|((first|(apply kR;iterate 2 exact rfl)|(apply kQ;exact rfl));all_goals(intro hc;try simp only[hcs]at hc;try(exfalso;first|contradiction|omega))))
  apply CW.loop [2, 5, 6, 7, 8, 9, 10, 11, 12, 13, 14, 15, 16, 17, 18, 19, 24, 25, 26, 27, 28, 29, 30, 31, 32, 33, 34, 35, 36, 37, 38, 39, 40, 41, 42, 43, 44, 45, 46, 47, 48, 49, 50, 51, 52, 53, 54, 55, 56, 57, 58, 59, 60, 61, 62, 63, 64, 65, 66, 67, 68, 69, 70, 71, 72, 73, 74, 75, 76, 77, 78, 79, 80, 81, 82, 83, 84, 85, 86, 87, 88, 89, 90, 91, 92, 93, 94, 95, 96, 97, 98, 99, 100, 101, 102, 103, 104, 105, 106, 107, 108, 109, 110, 111, 112, 113, 114, 115, 116, 117, 118, 119, 120, 121, 122, 123, 124, 125, 126, 127, 128, 129, 130, 131, 132, 133, 134, 135, 136, 137, 138, 139, 140, 141, 142, 143, 144, 145, 146, 147, 148, 149, 150, 151, 152, 153, 154, 155, 156, 157, 158, 159, 160, 161, 162, 163, 164, 165, 166, 167, 168, 169, 170, 171, 172, 173, 174, 175, 176, 177, 178, 179, 180, 181, 182, 183, 184, 185, 186, 187, 188, 189, 190, 191, 192, 193, 194, 195, 196] (fun s : Pst => s.i ≤ l.length ∧ s.i ≤ 80 ∧ Wn s.i s.es s.ar s.hi ∧ dats s.fs = dats s.es) (fun s => [(5, .int .i64 (s.i : Int))])
    (fun s => St w NoF [vO bv' s.av s.cv s.fs s.hi, wO bw bm s.es s.ar s.hi, rdA a (l.flatMap WdA.row)]) (fun s => l.length - s.i)
  · intro w' hw'
    exact ⟨⟨0, [], 0, 0, [], none, 0⟩, ⟨by simp, by simp, Wn.nil, rfl⟩, ⟨rfl, trivial⟩, hw'⟩
  rintro ⟨i, es, ar, hi, fs, av, cv⟩ g1 ⟨hil, hi80, hW, hfs⟩
  simp only at hil hi80 hW hfs ⊢
  have hes := hW.len
  have hfl : fs.length = es.length := by have := congrArg List.length hfs; rwa [dats_len, dats_len] at this
  have hokf : WOk (dats fs) := by rw [hfs]; exact hW.ok
  by_cases hlt : i < l.length
  · obtain ⟨bg, og, rfl⟩ := hr.form (rows_ne WdA.row_len (by decide) hlt)
    have hx := hR _ (List.getElem_mem hlt)
    repeat'(first|(apply kA;(exact rfl);intro b6)|(apply CW.reg_held (St w NoF [.own b6 (.cells l[i].row.toArray 59 (0, 0))]))|(apply kp;iterate 2 exact rfl)|apply jJ|(apply jE;exact rfl)|(apply jp;exact rfl)|(apply jc;kernel_rfl)|((first|apply kf|apply kn|apply ke|apply kx|apply kc|apply kb);iterate 2 exact rfl)|((first|apply kz|apply ky);(·exact rfl);(·repeat(first|exact iO|exact iR rfl|apply iT));iterate 2 exact rfl)|(apply kg;iterate 2 exact rfl)|(apply kG;iterate 3 exact rfl)|(apply kB;(iterate 2 exact rfl);intro _)|(apply kA;exact rfl;intro _)|(apply Go.Hb.kK;(iterate 4 exact rfl);intro _)|(apply kU;(iterate 2 exact rfl);(·repeat(first|exact sH _ _ _|apply sT));(first|exact nfL_eq rfl|exact rfl);exact rfl)|((first|apply kh|apply kl);(iterate 2 exact rfl);(first|decide|omega);exact rfl)|(apply idxX;(iterate 2 exact rfl);(iterate 2(first|omega|(dsimp only;omega)));exact rfl)|(apply LR.ev; (· apply Ev.load_agg_at (cs := l[i].row); (· exact rfl); (· exact rfl); (· intro w' hw'; exact rd_row WdA.row_len (hw'.rd_of (by (repeat (first | exact mH _ _ | apply mT)))) hlt (by simp))); (· exact rfl))|((first|(apply kR;iterate 2 exact rfl)|(apply kQ;exact rfl));all_goals(intro hc;try simp only[hcs]at hc;try(exfalso;first|contradiction|omega))))
    rotate_left 2
    · repeat'(first|(apply kp;iterate 2 exact rfl)|apply jJ|(apply jE;exact rfl)|(apply jp;exact rfl)|(apply jc;kernel_rfl)|((first|apply kf|apply kn|apply ke|apply kx|apply kc|apply kb);iterate 2 exact rfl)|((first|apply kz|apply ky);(·exact rfl);(·repeat(first|exact iO|exact iR rfl|apply iT));iterate 2 exact rfl)|(apply kg;iterate 2 exact rfl)|(apply kG;iterate 3 exact rfl)|(apply kB;(iterate 2 exact rfl);intro _)|(apply kA;exact rfl;intro _)|(apply Go.Hb.kK;(iterate 4 exact rfl);intro _)|(apply kU;(iterate 2 exact rfl);(·repeat(first|exact sH _ _ _|apply sT));(first|exact nfL_eq rfl|exact rfl);exact rfl)|((first|apply kh|apply kl);(iterate 2 exact rfl);(first|decide|omega);exact rfl)|(apply kq; (· exact rfl); (· intro w1 h1; exact CallsTo.q (t43 w1) h1))|((first|(apply kR;iterate 2 exact rfl)|(apply kQ;exact rfl));all_goals(intro hc;try simp only[hcs]at hc;try(exfalso;first|contradiction|omega))))
      (apply ret1; (· exact rfl); intro w' hS)
      exact ⟨rfl, hS.toKeep⟩
    focus
      all_goals (
        apply DW.quiet [0, 1, 2, 4, 5, 6]
        · decide +kernel
        · first | exact fun _ h => h | exact fun _ h => St.sub h (by repeat (first | exact List.Sublist.refl _ | apply List.Sublist.cons_cons | apply List.Sublist.cons))
        repeat'(first|(apply yp;iterate 3 exact rfl)|(apply QL.ev;(·exact rfl);(·first|((first|apply Ez|apply Ey);(·exact rfl);(·repeat(first|exact iO|exact iR rfl|apply iT));exact rfl)|((first|apply Ev.fieldAddr|apply Ev.len|apply EqOf.eq|apply EqOf.ne|apply Ev.conv|apply Ev.buildN);exact rfl)|((first|apply Ev.shr|apply Ev.shl);(iterate 2 exact rfl);first|decide|omega));·exact rfl)|(apply yq;iterate 5 exact rfl)|(apply QL.evg;(iterate 3 exact rfl);(·first|((first|apply Ez|apply Ey);(·exact rfl);(·repeat(first|exact iO|exact iR rfl|apply iT));exact rfl)|((first|apply Ev.fieldAddr|apply Ev.len|apply EqOf.eq|apply EqOf.ne|apply Ev.conv|apply Ev.buildN);exact rfl)|((first|apply Ev.shr|apply Ev.shl);(iterate 2 exact rfl);first|decide|omega));·exact rfl)|(apply yn;iterate 4 exact rfl)|((apply QL.split;iterate 3 exact rfl);all_goals(intro hc;try simp only[hcs]at hc;try(exfalso;first|contradiction|omega)))|apply QL.nil)
        all_goals (show DW _ _ _ _ _ _ _ _))
      all_goals (
        apply DW.loud 3
        · exact rfl
        · decide +kernel
        repeat'(first|(apply kg;iterate 2 exact rfl)|(apply kG;iterate 3 exact rfl)|apply kM|(apply kp;iterate 2 exact rfl)|((first|apply kz|apply ky);(·exact rfl);(·repeat(first|exact iO|exact iR rfl|apply iT));iterate 2 exact rfl)|(apply Go.Hb.kK;(iterate 4 exact rfl);intro _)|(apply kU;(iterate 2 exact rfl);(·repeat(first|exact sH _ _ _|apply sT));(first|exact nfL_eq rfl|exact rfl);exact rfl)|(apply kB;(iterate 2 exact rfl);intro _)|(apply kA;exact rfl;intro _)|(apply LR.call; (· exact rfl); (intro w1 h1; first | (refine (t26 bw bm es ar hi l[i].n w1 (h1.holds _ (by (repeat (first | exact mH _ _ | apply mT))))).mono ?_; rintro v w2 ⟨rfl, hst⟩; have h2 := h1.did (L' := [.own b6 (.cells l[i].row.toArray 59 (0, 0)), vO bv' av cv fs hi, wO bw bm es ar (seeH hi l[i].n), rdA (some ⟨bg, og, none⟩) (l.flatMap WdA.row)]) (by (repeat (first | exact sH _ _ _ | apply sT))) rfl hst (wO_dep _ _ _ _ _); refine LR.back h2 ?_; clear hst h1 h2) | (refine (t27 bv' av cv fs hi l[i].n w1 (h1.holds _ (by (repeat (first | exact mH _ _ | apply mT))))).mono ?_; rintro v w2 ⟨rfl, hst⟩; have h2 := h1.did (L' := [.own b6 (.cells l[i].row.toArray 59 (0, 0)), vO bv' av cv fs (seeH hi l[i].n), wO bw bm es ar (seeH hi l[i].n), rdA (some ⟨bg, og, none⟩) (l.flatMap WdA.row)]) (by (repeat (first | exact sH _ _ _ | apply sT))) rfl hst (vO_dep _ _ _ _ _); refine LR.back h2 ?_; clear hst h1 h2))))
        all_goals (refine At.stage_same (fun _ h => St.sub h (by repeat (first | exact List.Sublist.refl _ | apply List.Sublist.cons_cons | apply List.Sublist.cons))) ?_))
      all_goals (
        apply DW.loud 7
        · exact rfl
        · decide +kernel
        repeat'(first|(apply kg;iterate 2 exact rfl)|(apply kG;iterate 3 exact rfl)|apply kM|(apply kp;iterate 2 exact rfl)|((first|apply kz|apply ky);(·exact rfl);(·repeat(first|exact iO|exact iR rfl|apply iT));iterate 2 exact rfl)|(apply Go.Hb.kK;(iterate 4 exact rfl);intro _)|(apply kU;(iterate 2 exact rfl);(·repeat(first|exact sH _ _ _|apply sT));(first|exact nfL_eq rfl|exact rfl);exact rfl)|(apply kB;(iterate 2 exact rfl);intro _)|(apply kA;exact rfl;intro _)|(apply LR.call; (· exact rfl); (intro w1 h1; first | (refine (t26 bw bm es ar hi l[i].n w1 (h1.holds _ (by (repeat (first | exact mH _ _ | apply mT))))).mono ?_; rintro v w2 ⟨rfl, hst⟩; have h2 := h1.did (L' := [.own b6 (.cells l[i].row.toArray 59 (0, 0)), vO bv' av cv fs hi, wO bw bm es ar (seeH hi l[i].n), rdA (some ⟨bg, og, none⟩) (l.flatMap WdA.row)]) (by (repeat (first | exact sH _ _ _ | apply sT))) rfl hst (wO_dep _ _ _ _ _); refine LR.back h2 ?_; clear hst h1 h2) | (refine (t27 bv' av cv fs hi l[i].n w1 (h1.holds _ (by (repeat (first | exact mH _ _ | apply mT))))).mono ?_; rintro v w2 ⟨rfl, hst⟩; have h2 := h1.did (L' := [.own b6 (.cells l[i].row.toArray 59 (0, 0)), vO bv' av cv fs (seeH hi l[i].n), wO bw bm es ar (seeH hi l[i].n), rdA (some ⟨bg, og, none⟩) (l.flatMap WdA.row)]) (by (repeat (first | exact sH _ _ _ | apply sT))) rfl hst (vO_dep _ _ _ _ _); refine LR.back h2 ?_; clear hst h1 h2))))
        all_goals (refine At.stage_same (fun _ h => St.sub h (by repeat (first | exact List.Sublist.refl _ | apply List.Sublist.cons_cons | apply List.Sublist.cons))) ?_))
      all_goals (
        apply DW.quiet [8]
        · decide +kernel
        · first | exact fun _ h => h | exact fun _ h => St.sub h (by repeat (first | exact List.Sublist.refl _ | apply List.Sublist.cons_cons | apply List.Sublist.cons))
        repeat'(first|(apply yp;iterate 3 exact rfl)|(apply QL.ev;(·exact rfl);(·first|((first|apply Ez|apply Ey);(·exact rfl);(·repeat(first|exact iO|exact iR rfl|apply iT));exact rfl)|((first|apply Ev.fieldAddr|apply Ev.len|apply EqOf.eq|apply EqOf.ne|apply Ev.conv|apply Ev.buildN);exact rfl)|((first|apply Ev.shr|apply Ev.shl);(iterate 2 exact rfl);first|decide|omega));·exact rfl)|(apply yq;iterate 5 exact rfl)|(apply QL.evg;(iterate 3 exact rfl);(·first|((first|apply Ez|apply Ey);(·exact rfl);(·repeat(first|exact iO|exact iR rfl|apply iT));exact rfl)|((first|apply Ev.fieldAddr|apply Ev.len|apply EqOf.eq|apply EqOf.ne|apply Ev.conv|apply Ev.buildN);exact rfl)|((first|apply Ev.shr|apply Ev.shl);(iterate 2 exact rfl);first|decide|omega));·exact rfl)|(apply yn;iterate 4 exact rfl)|((apply QL.split;iterate 3 exact rfl);all_goals(intro hc;try simp only[hcs]at hc;try(exfalso;first|contradiction|omega)))|apply QL.nil)
        all_goals (show DW _ _ _ _ _ _ _ _))
      all_goals (first | (apply DW.done_thn; (· decide +kernel)) | (apply DW.done; (· decide +kernel)))
      repeat'(first|(apply kp;iterate 2 exact rfl)|apply jJ|(apply jE;exact rfl)|(apply jp;exact rfl)|(apply jc;kernel_rfl)|((first|apply kf|apply kn|apply ke|apply kx|apply kc|apply kb);iterate 2 exact rfl)|((first|apply kz|apply ky);(·exact rfl);(·repeat(first|exact iO|exact iR rfl|apply iT));iterate 2 exact rfl)|(apply kg;iterate 2 exact rfl)|(apply kG;iterate 3 exact rfl)|(apply kB;(iterate 2 exact rfl);intro _)|(apply kA;exact rfl;intro _)|(apply Go.Hb.kK;(iterate 4 exact rfl);intro _)|(apply kU;(iterate 2 exact rfl);(·repeat(first|exact sH _ _ _|apply sT));(first|exact nfL_eq rfl|exact rfl);exact rfl)|((first|apply kh|apply kl);(iterate 2 exact rfl);(first|decide|omega);exact rfl)|((first|(apply kR;iterate 2 exact rfl)|(apply kQ;exact rfl));all_goals(intro hc;try simp only[hcs]at hc;try(exfalso;first|contradiction|omega))))
      have hW' := hW.see l[i].n
      obtain ⟨hi', hhi⟩ : ∃ x, x = seeH hi l[i].n := ⟨_, rfl⟩
      rw [← hhi] at hW' ⊢
      obtain ⟨es', hes'⟩ : ∃ x, x = es := ⟨_, rfl⟩
      obtain ⟨fs', hfs'⟩ : ∃ x, x = fs := ⟨_, rfl⟩
      obtain ⟨ar', har'⟩ : ∃ x, x = ar := ⟨_, rfl⟩
      obtain ⟨av', hav'⟩ : ∃ x, x = av := ⟨_, rfl⟩
      obtain ⟨cv', hcv'⟩ : ∃ x, x = cv := ⟨_, rfl⟩
      have hfs2 : dats fs' = dats es' := by rw [hes', hfs']; exact hfs
      rw [← hes', ← har'] at hW'
      rw [← hes', ← hfs', ← har', ← hav', ← hcv']
      clear hes' hfs' har' hav' hcv' hhi
    rotate_left
    focus
      repeat'(first|(apply kA;(exact rfl);intro b7)|(apply kp;iterate 2 exact rfl)|apply jJ|(apply jE;exact rfl)|(apply jp;exact rfl)|(apply jc;kernel_rfl)|((first|apply kf|apply kn|apply ke|apply kx|apply kc|apply kb);iterate 2 exact rfl)|((first|apply kz|apply ky);(·exact rfl);(·repeat(first|exact iO|exact iR rfl|apply iT));iterate 2 exact rfl)|(apply kg;iterate 2 exact rfl)|(apply kG;iterate 3 exact rfl)|(apply kB;(iterate 2 exact rfl);intro _)|(apply kA;exact rfl;intro _)|(apply Go.Hb.kK;(iterate 4 exact rfl);intro _)|(apply kU;(iterate 2 exact rfl);(·repeat(first|exact sH _ _ _|apply sT));(first|exact nfL_eq rfl|exact rfl);exact rfl)|((first|apply kh|apply kl);(iterate 2 exact rfl);(first|decide|omega);exact rfl)|(apply LR.call; (· exact rfl); (intro w1 h1; refine (t28 l[i].x.d l[i].x.a l[i].x.c w1 (h1.oldRd hx.hr) hx.hz (by have := hx.hm; omega)).mono ?_; rintro v w2 ⟨a2, c2, rfl, hn⟩; refine LR.back (h1.newSl hn) ?_; clear hn h1))|((first|(apply kR;iterate 2 exact rfl)|(apply kQ;exact rfl));all_goals(intro hc;try simp only[hcs]at hc;try(exfalso;first|contradiction|omega))))
      apply LR.call
      · exact rfl
      intro w1 h1
      have hz2 : a2 = none → c2 = 0 := body_nz (x := ⟨l[i].x.d, a2, c2⟩) (h1.holds (osl (.slice a2 l[i].x.d.msg.body.length c2) 5 1 l[i].x.d.msg.body.length (bv l[i].x.d.msg.body)) (by (repeat (first | exact mH _ _ | apply mT))))
      refine (t29 bw bm es ar hi l[i].x.d a2 c2 w1 (h1.holds _ (by (repeat (first | exact mH _ _ | apply mT)))) hW.ok hW.aru (h1.rd_of_own (by (repeat (first | exact mH _ _ | apply mT)))) hz2 (fun k hk => St.apart (x := osl (.slice a2 l[i].x.d.msg.body.length c2) 5 1 l[i].x.d.msg.body.length (bv l[i].x.d.msg.body)) (h1.sub (L' := [osl (.slice a2 l[i].x.d.msg.body.length c2) 5 1 l[i].x.d.msg.body.length (bv l[i].x.d.msg.body), wO bw bm es ar hi]) (by (repeat (first | exact List.Sublist.refl _ | apply List.Sublist.cons_cons | apply List.Sublist.cons)))) (by (repeat (first | exact mH _ _ | apply mT))) rfl k (St.osl_foot hk)) hx.hm).mono ?_
      rintro v w2 ⟨es', ar', rfl, he, ha, hst⟩
      have h2 := h1.did (L' := [.own b7 (.cells (l[i].x.d.cells a2 c2).toArray 57 (0, 0)), osl (.slice a2 l[i].x.d.msg.body.length c2) 5 1 l[i].x.d.msg.body.length (bv l[i].x.d.msg.body), .own b6 (.cells l[i].row.toArray 59 (0, 0)), vO bv' av cv fs hi, wO bw bm es' ar' (wpH (dats es) hi l[i].x.d), rdA (some ⟨bg, og, none⟩) (l.flatMap WdA.row)]) (by (repeat (first | exact sH _ _ _ | apply sT))) rfl hst (wO_dep _ _ _ _ _)
      have hW' := hW.put hx.hm he ha
      refine LR.back h2 ?_
      clear hst h1 h2
      repeat'(first|(apply kp;iterate 2 exact rfl)|apply jJ|(apply jE;exact rfl)|(apply jp;exact rfl)|(apply jc;kernel_rfl)|((first|apply kf|apply kn|apply ke|apply kx|apply kc|apply kb);iterate 2 exact rfl)|((first|apply kz|apply ky);(·exact rfl);(·repeat(first|exact iO|exact iR rfl|apply iT));iterate 2 exact rfl)|(apply kg;iterate 2 exact rfl)|(apply kG;iterate 3 exact rfl)|(apply kB;(iterate 2 exact rfl);intro _)|(apply kA;exact rfl;intro _)|(apply Go.Hb.kK;(iterate 4 exact rfl);intro _)|(apply kU;(iterate 2 exact rfl);(·repeat(first|exact sH _ _ _|apply sT));(first|exact nfL_eq rfl|exact rfl);exact rfl)|((first|apply kh|apply kl);(iterate 2 exact rfl);(first|decide|omega);exact rfl)|((first|(apply kR;iterate 2 exact rfl)|(apply kQ;exact rfl));all_goals(intro hc;try simp only[hcs]at hc;try(exfalso;first|contradiction|omega))))
      apply LR.call
      · exact rfl
      intro w1 h1
      have ht := t30 bv' av cv fs hi l[i].x.d l[i].x.a l[i].x.c w1 (h1.holds _ (by (repeat (first | exact mH _ _ | apply mT)))) hokf (by omega) (h1.oldRd hx.hr) hx.hz (h1.oldApart (x := vO bv' av cv fs hi) (by (repeat (first | exact mH _ _ | apply mT))) rfl hx.hr) hx.hm
      rw [hfs, ← he] at ht
      refine ht.mono ?_
      clear ht
      rintro v w2 ⟨fs', av', cv', rfl, hfs2, hfl', hst⟩
      have h2 := h1.did (L' := [.own b7 (.cells (l[i].x.d.cells a2 c2).toArray 57 (0, 0)), osl (.slice a2 l[i].x.d.msg.body.length c2) 5 1 l[i].x.d.msg.body.length (bv l[i].x.d.msg.body), .own b6 (.cells l[i].row.toArray 59 (0, 0)), vO bv' av' cv' fs' (wpH (dats es) hi l[i].x.d), wO bw bm es' ar' (wpH (dats es) hi l[i].x.d), rdA (some ⟨bg, og, none⟩) (l.flatMap WdA.row)]) (by (repeat (first | exact sH _ _ _ | apply sT))) rfl hst (vO_dep _ _ _ _ _)
      refine LR.back h2 ?_
      clear hst h1 h2 he ha
      obtain ⟨hi', hhi⟩ : ∃ x, wpH (dats es) hi l[i].x.d = x := ⟨_, rfl⟩
      rw [hhi] at hW' ⊢
      repeat'(first|(apply kp;iterate 2 exact rfl)|apply jJ|(apply jE;exact rfl)|(apply jp;exact rfl)|(apply jc;kernel_rfl)|((first|apply kf|apply kn|apply ke|apply kx|apply kc|apply kb);iterate 2 exact rfl)|((first|apply kz|apply ky);(·exact rfl);(·repeat(first|exact iO|exact iR rfl|apply iT));iterate 2 exact rfl)|(apply kg;iterate 2 exact rfl)|(apply kG;iterate 3 exact rfl)|(apply kB;(iterate 2 exact rfl);intro _)|(apply kA;exact rfl;intro _)|(apply Go.Hb.kK;(iterate 4 exact rfl);intro _)|(apply kU;(iterate 2 exact rfl);(·repeat(first|exact sH _ _ _|apply sT));(first|exact nfL_eq rfl|exact rfl);exact rfl)|((first|apply kh|apply kl);(iterate 2 exact rfl);(first|decide|omega);exact rfl)|(apply kq; (· exact rfl); (· intro w1 h1; have hq := CallsTo.q (c84 l[i].x.d l[i].x.d a2 l[i].x.a c2 l[i].x.c w1 (h1.rd_of_own (by (repeat (first | exact mH _ _ | apply mT)))) (h1.oldRd hx.hr) (by have := hx.hm; omega)) h1; rw [sameD_self] at hq; show CallsTo Try.prog 31 [l[i].x.d.val a2 c2, l[i].x.d.val l[i].x.a l[i].x.c] w1 _; exact hq))|((first|(apply kR;iterate 2 exact rfl)|(apply kQ;exact rfl));all_goals(intro hc;try simp only[hcs]at hc;try(exfalso;first|contradiction|omega))))
      apply CW.loop [12, 80, 81, 82, 83, 84, 85, 86, 87, 88, 89, 90, 91, 92, 93, 94, 95, 96, 97, 98, 99] (fun s : Nat × List Int => s.1 ≤ l[i].x.d.msg.body.length ∧ s.2.length = l[i].x.d.msg.body.length) (fun s => [(12, Value.int .i64 (s.1 : Int))])
        (fun s => St w NoF [osl (.slice a2 l[i].x.d.msg.body.length c2) 5 1 l[i].x.d.msg.body.length (bv s.2), .own b7 (.cells (l[i].x.d.cells a2 c2).toArray 57 (0, 0)), .own b6 (.cells l[i].row.toArray 59 (0, 0)), vO bv' av' cv' fs' hi', wO bw bm es' ar' hi', rdA (some ⟨bg, og, none⟩) (l.flatMap WdA.row)]) (fun s => l[i].x.d.msg.body.length - s.1)
      · exact fun w' hw' => ⟨(0, l[i].x.d.msg.body), ⟨by simp, rfl⟩, ⟨rfl, trivial⟩, (front hw' 1 rfl rfl).sub (by (repeat (first | exact List.Sublist.refl _ | apply List.Sublist.cons_cons | apply List.Sublist.cons)))⟩
      rintro ⟨k, bs⟩ g2 ⟨hk, hbs⟩
      simp only at hk hbs ⊢
      have hmx := hx.hm
      by_cases hlt3 : k < l[i].x.d.msg.body.length
      · have hne : (bv bs) ≠ [] := fun e => by
          have e2 : bs.length = 0 := by simpa [bv] using congrArg List.length e
          omega
        refine LR_cls_cw fun w1 hw1 => ?_
        obtain ⟨bx, ox, rfl⟩ := (ownsRow_rd hw1.g0).form hne
        refine CW.sub (D := St w NoF _) ?_ (fun u e => e ▸ hw1)
        clear hw1 w1
        repeat'(first|(apply CW.reg_sinkC 12; (· exact rfl); (· decide +kernel))|(apply kp;iterate 2 exact rfl)|apply jJ|(apply jE;exact rfl)|(apply jp;exact rfl)|(apply jc;kernel_rfl)|((first|apply kf|apply kn|apply ke|apply kx|apply kc|apply kb);iterate 2 exact rfl)|((first|apply kz|apply ky);(·exact rfl);(·repeat(first|exact iO|exact iR rfl|apply iT));iterate 2 exact rfl)|(apply kg;iterate 2 exact rfl)|(apply kG;iterate 3 exact rfl)|(apply kB;(iterate 2 exact rfl);intro _)|(apply kA;exact rfl;intro _)|(apply Go.Hb.kK;(iterate 4 exact rfl);intro _)|(apply kU;(iterate 2 exact rfl);(·repeat(first|exact sH _ _ _|apply sT));(first|exact nfL_eq rfl|exact rfl);exact rfl)|((first|apply kh|apply kl);(iterate 2 exact rfl);(first|decide|omega);exact rfl)|(apply idxX;(iterate 2 exact rfl);(iterate 2(first|omega|(dsimp only;omega)));exact rfl)|((first|(apply kR;iterate 2 exact rfl)|(apply kQ;exact rfl));all_goals(intro hc;try simp only[hcs]at hc;try(exfalso;first|contradiction|omega))))
        all_goals (
          apply DW.quiet [0, 1, 2, 3, 4, 5, 6, 7, 8, 9, 10, 11]
          · decide +kernel
          · first | exact fun _ h => h | exact fun _ h => St.sub h (by repeat (first | exact List.Sublist.refl _ | apply List.Sublist.cons_cons | apply List.Sublist.cons))
          repeat'(first|(apply yp;iterate 3 exact rfl)|(apply QL.ev;(·exact rfl);(·first|((first|apply Ez|apply Ey);(·exact rfl);(·repeat(first|exact iO|exact iR rfl|apply iT));exact rfl)|((first|apply Ev.fieldAddr|apply Ev.len|apply EqOf.eq|apply EqOf.ne|apply Ev.conv|apply Ev.buildN);exact rfl)|((first|apply Ev.shr|apply Ev.shl);(iterate 2 exact rfl);first|decide|omega));·exact rfl)|(apply QL.ev; (· exact rfl); (· first | (apply Ev.indexAddr; (· exact rfl); (· exact rfl); (· omega); (· omega)) | (apply Ev.load_osl; (· exact rfl); (· (repeat (first | exact mH _ _ | apply mT))); (· exact bv_at (l := bs) (i := k) (by simp) (by omega))) | (apply Ev.xor; (· exact rfl); (· exact rfl))); (· exact rfl))|(apply yq;iterate 5 exact rfl)|(apply QL.evg;(iterate 3 exact rfl);(·first|((first|apply Ez|apply Ey);(·exact rfl);(·repeat(first|exact iO|exact iR rfl|apply iT));exact rfl)|((first|apply Ev.fieldAddr|apply Ev.len|apply EqOf.eq|apply EqOf.ne|apply Ev.conv|apply Ev.buildN);exact rfl)|((first|apply Ev.shr|apply Ev.shl);(iterate 2 exact rfl);first|decide|omega));·exact rfl)|(apply yn;iterate 4 exact rfl)|((apply QL.split;iterate 3 exact rfl);all_goals(intro hc;try simp only[hcs]at hc;try(exfalso;first|contradiction|omega)))|apply QL.nil)
          all_goals (show DW _ _ _ _ _ _ _ _))
        all_goals (apply DW.done; (· decide +kernel))
        all_goals apply At.sink
        refine LR.store_obj (v := .int .u8 (xorI .u8 bs[k] 90)) (z' := osl (.slice (some ⟨bx, ox, none⟩) l[i].x.d.msg.body.length c2) 5 1 l[i].x.d.msg.body.length (bv (bs.set k (xorI .u8 bs[k] 90)))) rfl rfl (sH _ _ _) rfl ?_ (osl.dep _ _ _ _ _) ?_
        · have st := Stores.osl (P := Try.prog) (T := 5) (q := 1) (b := bx) (o := ox) (i := (k : Int).toNat * 1) (n := l[i].x.d.msg.body.length) (c := c2) (v := .int .u8 (xorI .u8 bs[k] 90)) (vs := [.int .u8 (xorI .u8 bs[k] 90)]) (xs := bv bs) (E := 5) (sz := 1) inferInstance rfl rfl rfl (by simp; omega)
          rw [show (k : Int).toNat * 1 = k by omega] at st ⊢
          rwa [splice_bv _ _ _ (by omega)] at st
        repeat'(first|(apply kp;iterate 2 exact rfl)|apply jJ|(apply jE;exact rfl)|(apply jp;exact rfl)|(apply jc;kernel_rfl)|((first|apply kf|apply kn|apply ke|apply kx|apply kc|apply kb);iterate 2 exact rfl)|((first|apply kz|apply ky);(·exact rfl);(·repeat(first|exact iO|exact iR rfl|apply iT));iterate 2 exact rfl)|(apply kg;iterate 2 exact rfl)|(apply kG;iterate 3 exact rfl)|(apply kB;(iterate 2 exact rfl);intro _)|(apply kA;exact rfl;intro _)|(apply Go.Hb.kK;(iterate 4 exact rfl);intro _)|(apply kU;(iterate 2 exact rfl);(·repeat(first|exact sH _ _ _|apply sT));(first|exact nfL_eq rfl|exact rfl);exact rfl)|((first|apply kh|apply kl);(iterate 2 exact rfl);(first|decide|omega);exact rfl)|(apply addX;(iterate 2 exact rfl);(iterate 2(first|omega|(dsimp only;omega)));exact rfl)|((first|(apply kR;iterate 2 exact rfl)|(apply kQ;exact rfl));all_goals(intro hc;try simp only[hcs]at hc;try(exfalso;first|contradiction|omega))))
        apply At.again (k + 1, bs.set k (xorI .u8 bs[k] 90)) ⟨by show k + 1 ≤ _; omega, by simp [hbs]⟩
        · (repeat (first | exact Out.refl _ _ | exact Out.mix | (apply Out.upd; (· exact rfl)) | (apply Out.updL; (· exact rfl)) | (apply Out.mixs; (· exact rfl))))
        · exact ⟨rfl, trivial⟩
        · exact fun w' hw' => hw'
        · show l[i].x.d.msg.body.length - (k + 1) < l[i].x.d.msg.body.length - k
          omega
      repeat'(first|(apply kp;iterate 2 exact rfl)|apply jJ|(apply jE;exact rfl)|(apply jp;exact rfl)|(apply jc;kernel_rfl)|((first|apply kf|apply kn|apply ke|apply kx|apply kc|apply kb);iterate 2 exact rfl)|((first|apply kz|apply ky);(·exact rfl);(·repeat(first|exact iO|exact iR rfl|apply iT));iterate 2 exact rfl)|(apply kg;iterate 2 exact rfl)|(apply kG;iterate 3 exact rfl)|(apply kB;(iterate 2 exact rfl);intro _)|(apply kA;exact rfl;intro _)|(apply Go.Hb.kK;(iterate 4 exact rfl);intro _)|(apply kU;(iterate 2 exact rfl);(·repeat(first|exact sH _ _ _|apply sT));(first|exact nfL_eq rfl|exact rfl);exact rfl)|((first|apply kh|apply kl);(iterate 2 exact rfl);(first|decide|omega);exact rfl)|((first|(apply kR;iterate 2 exact rfl)|(apply kQ;exact rfl));all_goals(intro hc;try simp only[hcs]at hc;try(exfalso;first|contradiction|omega))))
    all_goals
      have hok := hW'.ok
      have hokf2 : WOk (dats fs') := by rw [hfs2]; exact hok
      have haru2 : IsAru (dats fs') ar' := by rw [hfs2]; exact hW'.aru
      have hes2 := hW'.len
      have hfl2 : fs'.length = es'.length := by have := congrArg List.length hfs2; rwa [dats_len, dats_len] at this
      have harh := hW'.ar_hi
      have hhim := hW'.him
      have hgl := getT_len hok l[i].n
      obtain ⟨G, hG⟩ : ∃ G, gapsT (dats es') hi' l[i].n = G := ⟨_, rfl⟩
      have hGl : G.length ≤ 16 := by
        rw [← hG]
        unfold gapsT
        rw [List.length_take]
        omega
      have hbl : ∀ o : List DaA, dats o = abvT (dats es') l[i].n → ∀ x ∈ o, x.d.msg.body.length ≤ 140737488355328 := fun o ho x hx => by
        have h1 : x.d ∈ abvT (dats es') l[i].n := by rw [← ho]; exact List.mem_map_of_mem hx
        obtain ⟨s, _, he⟩ := List.mem_map.1 h1
        have := getT_len hok s
        rw [← he]
        omega
      have hol : ∀ o : List DaA, dats o = abvT (dats es') l[i].n → o.length ≤ 100000 := fun o ho => by
        have h1 := congrArg List.length ho
        have h2 := abvS_len (dats es') l[i].n (sqs (dats es'))
        rw [sqs_len, dats_len] at h2
        have h3 : (abvT (dats es') l[i].n).length ≤ es'.length := h2
        rw [dats_len] at h1
        omega
      repeat'(first|(apply CW.reg_heldC)|(apply kp;iterate 2 exact rfl)|apply jJ|(apply jE;exact rfl)|(apply jp;exact rfl)|(apply jc;kernel_rfl)|((first|apply kf|apply kn|apply ke|apply kx|apply kc|apply kb);iterate 2 exact rfl)|((first|apply kz|apply ky);(·exact rfl);(·repeat(first|exact iO|exact iR rfl|apply iT));iterate 2 exact rfl)|(apply kg;iterate 2 exact rfl)|(apply kG;iterate 3 exact rfl)|(apply kB;(iterate 2 exact rfl);intro _)|(apply kA;exact rfl;intro _)|(apply Go.Hb.kK;(iterate 4 exact rfl);intro _)|(apply kU;(iterate 2 exact rfl);(·repeat(first|exact sH _ _ _|apply sT));(first|exact nfL_eq rfl|exact rfl);exact rfl)|((first|apply kh|apply kl);(iterate 2 exact rfl);(first|decide|omega);exact rfl)|(apply LR.call; (· exact rfl); (intro w1 h1; first | (have ht := t32 bw bm es' ar' hi' l[i].n w1 (h1.holds _ (by (repeat (first | exact mH _ _ | apply mT)))) hok; refine ht.mono ?_; rintro v w2 ⟨a3, c3, rfl, hn⟩; refine LR.back (h1.newSl hn) ?_; clear hn h1 ht) | (have ht := t33 bv' av' cv' fs' hi' l[i].n w1 (h1.holds _ (by (repeat (first | exact mH _ _ | apply mT)))) hokf2 (by omega); rw [hfs2] at ht; refine ht.mono ?_; rintro v w2 ⟨a4, c4, rfl, hn⟩; refine LR.back (h1.newSl hn) ?_; clear hn h1 ht) | (have ht := t34 bw bm es' ar' hi' l[i].n w1 (h1.holds _ (by (repeat (first | exact mH _ _ | apply mT)))) hok (by omega); refine ht.mono ?_; rintro v w2 ⟨a5, c5, o5, rfl, ho5, hn⟩; refine LR.back (h1.got hn (dO_dep _ _ _)) ?_; clear hn h1 ht)))|((first|(apply kR;iterate 2 exact rfl)|(apply kQ;exact rfl));all_goals(intro hc;try simp only[hcs]at hc;try(exfalso;first|contradiction|omega))))
      all_goals (
        apply DW.quiet [0, 1, 2, 3, 4, 5]
        · decide +kernel
        · first | exact fun _ h => h | exact fun _ h => St.sub h (by repeat (first | exact List.Sublist.refl _ | apply List.Sublist.cons_cons | apply List.Sublist.cons))
        repeat'(first|(apply yp;iterate 3 exact rfl)|(apply QL.ev;(·exact rfl);(·first|((first|apply Ez|apply Ey);(·exact rfl);(·repeat(first|exact iO|exact iR rfl|apply iT));exact rfl)|((first|apply Ev.fieldAddr|apply Ev.len|apply EqOf.eq|apply EqOf.ne|apply Ev.conv|apply Ev.buildN);exact rfl)|((first|apply Ev.shr|apply Ev.shl);(iterate 2 exact rfl);first|decide|omega));·exact rfl)|(apply yq;iterate 5 exact rfl)|(apply QL.evg;(iterate 3 exact rfl);(·first|((first|apply Ez|apply Ey);(·exact rfl);(·repeat(first|exact iO|exact iR rfl|apply iT));exact rfl)|((first|apply Ev.fieldAddr|apply Ev.len|apply EqOf.eq|apply EqOf.ne|apply Ev.conv|apply Ev.buildN);exact rfl)|((first|apply Ev.shr|apply Ev.shl);(iterate 2 exact rfl);first|decide|omega));·exact rfl)|(apply yn;iterate 4 exact rfl)|((apply QL.split;iterate 3 exact rfl);all_goals(intro hc;try simp only[hcs]at hc;try(exfalso;first|contradiction|omega)))|apply QL.nil)
        all_goals (show DW _ _ _ _ _ _ _ _))
      all_goals (
        apply DW.loud 6
        · exact rfl
        · decide +kernel
        repeat'(first|(apply kg;iterate 2 exact rfl)|(apply kG;iterate 3 exact rfl)|apply kM|(apply kp;iterate 2 exact rfl)|((first|apply kz|apply ky);(·exact rfl);(·repeat(first|exact iO|exact iR rfl|apply iT));iterate 2 exact rfl)|(apply Go.Hb.kK;(iterate 4 exact rfl);intro _)|(apply kU;(iterate 2 exact rfl);(·repeat(first|exact sH _ _ _|apply sT));(first|exact nfL_eq rfl|exact rfl);exact rfl)|(apply kB;(iterate 2 exact rfl);intro _)|(apply kA;exact rfl;intro _)|(apply kq; (· exact rfl); (· intro w1 h1; first | (have hq := CallsTo.q (c84 (getT (dats es') l[i].n) (getT (dats es') l[i].n) a3 a4 c3 c4 w1 (h1.rd_of_own (by (repeat (first | exact mH _ _ | apply mT)))) (h1.rd_of_own (by (repeat (first | exact mH _ _ | apply mT)))) (by omega)) h1; rw [sameD_self] at hq; show CallsTo Try.prog 31 [(getT (dats es') l[i].n).val a3 c3, (getT (dats es') l[i].n).val a4 c4] w1 _; exact hq) | exact CallsTo.q (t35 bw bm es' ar' hi' w1 (h1.holds _ (by (repeat (first | exact mH _ _ | apply mT))))) h1 | exact CallsTo.q (t37 bw bm es' ar' hi' w1 (h1.holds _ (by (repeat (first | exact mH _ _ | apply mT))))) h1 | exact CallsTo.q (t36 bv' av' cv' fs' hi' ar' w1 (h1.holds _ (by (repeat (first | exact mH _ _ | apply mT)))) hokf2 (by omega) haru2) h1 | exact CallsTo.q (t38 bv' av' cv' fs' hi' w1 (h1.holds _ (by (repeat (first | exact mH _ _ | apply mT))))) h1 | exact CallsTo.q (t19 a6 a7 c6 c7 G G w1 (h1.rd_of_own (by (repeat (first | exact mH _ _ | apply mT)))) (h1.rd_of_own (by (repeat (first | exact mH _ _ | apply mT)))) (by omega)) h1 | exact CallsTo.q (t41 a5 a8 c5 c8 o5 o8 w1 (dO_r (h1.holds (dO a5 c5 o5) (by (repeat (first | exact mH _ _ | apply mT))))) (dO_r (h1.holds (dO a8 c8 o8) (by (repeat (first | exact mH _ _ | apply mT))))) (fun x hx => ⟨dO_b (h1.holds (dO a5 c5 o5) (by (repeat (first | exact mH _ _ | apply mT)))) hx, hbl o5 ho5 x hx⟩) (fun x hx => dO_b (h1.holds (dO a8 c8 o8) (by (repeat (first | exact mH _ _ | apply mT)))) hx) (by rw [ho5, ho8]) (by have := hol o5 ho5; omega)) h1))|(apply LR.call; (· exact rfl); (intro w1 h1; first | (have ht := t39 bw bm es' ar' hi' l[i].n w1 (h1.holds _ (by (repeat (first | exact mH _ _ | apply mT)))) hW'.aru.1 harh hhim; rw [hG] at ht; refine ht.mono ?_; rintro v w2 ⟨a6, c6, rfl, hn⟩; refine LR.back (h1.newSl hn) ?_; clear hn h1 ht) | (have ht := t40 bv' av' cv' fs' hi' l[i].n w1 (h1.holds _ (by (repeat (first | exact mH _ _ | apply mT)))) hokf2 (by omega) hhim; rw [hfs2, hG] at ht; refine ht.mono ?_; rintro v w2 ⟨a7, c7, rfl, hn⟩; refine LR.back (h1.newSl hn) ?_; clear hn h1 ht) | (have ht := t42 bv' av' cv' fs' hi' l[i].n w1 (h1.holds _ (by (repeat (first | exact mH _ _ | apply mT)))) hokf2 (by omega); rw [hfs2] at ht; refine ht.mono ?_; rintro v w2 ⟨a8, c8, o8, rfl, ho8, hn⟩; refine LR.back (h1.got hn (dO_dep _ _ _)) ?_; clear hn h1 ht))))
        all_goals (refine At.stage_same (fun _ h => St.sub h (by repeat (first | exact List.Sublist.refl _ | apply List.Sublist.cons_cons | apply List.Sublist.cons))) ?_))
      all_goals (
        apply DW.quiet [7, 8, 9, 10, 12]
        · decide +kernel
        · first | exact fun _ h => h | exact fun _ h => St.sub h (by repeat (first | exact List.Sublist.refl _ | apply List.Sublist.cons_cons | apply List.Sublist.cons))
        repeat'(first|(apply yp;iterate 3 exact rfl)|(apply QL.ev;(·exact rfl);(·first|((first|apply Ez|apply Ey);(·exact rfl);(·repeat(first|exact iO|exact iR rfl|apply iT));exact rfl)|((first|apply Ev.fieldAddr|apply Ev.len|apply EqOf.eq|apply EqOf.ne|apply Ev.conv|apply Ev.buildN);exact rfl)|((first|apply Ev.shr|apply Ev.shl);(iterate 2 exact rfl);first|decide|omega));·exact rfl)|(apply yq;iterate 5 exact rfl)|(apply QL.evg;(iterate 3 exact rfl);(·first|((first|apply Ez|apply Ey);(·exact rfl);(·repeat(first|exact iO|exact iR rfl|apply iT));exact rfl)|((first|apply Ev.fieldAddr|apply Ev.len|apply EqOf.eq|apply EqOf.ne|apply Ev.conv|apply Ev.buildN);exact rfl)|((first|apply Ev.shr|apply Ev.shl);(iterate 2 exact rfl);first|decide|omega));·exact rfl)|(apply yn;iterate 4 exact rfl)|((apply QL.split;iterate 3 exact rfl);all_goals(intro hc;try simp only[hcs]at hc;try(exfalso;first|contradiction|omega)))|apply QL.nil)
        all_goals (show DW _ _ _ _ _ _ _ _))
      all_goals (
        apply DW.loud 11
        · exact rfl
        · decide +kernel
        repeat'(first|(apply kg;iterate 2 exact rfl)|(apply kG;iterate 3 exact rfl)|apply kM|(apply kp;iterate 2 exact rfl)|((first|apply kz|apply ky);(·exact rfl);(·repeat(first|exact iO|exact iR rfl|apply iT));iterate 2 exact rfl)|(apply Go.Hb.kK;(iterate 4 exact rfl);intro _)|(apply kU;(iterate 2 exact rfl);(·repeat(first|exact sH _ _ _|apply sT));(first|exact nfL_eq rfl|exact rfl);exact rfl)|(apply kB;(iterate 2 exact rfl);intro _)|(apply kA;exact rfl;intro _)|(apply kq; (· exact rfl); (· intro w1 h1; first | (have hq := CallsTo.q (c84 (getT (dats es') l[i].n) (getT (dats es') l[i].n) a3 a4 c3 c4 w1 (h1.rd_of_own (by (repeat (first | exact mH _ _ | apply mT)))) (h1.rd_of_own (by (repeat (first | exact mH _ _ | apply mT)))) (by omega)) h1; rw [sameD_self] at hq; show CallsTo Try.prog 31 [(getT (dats es') l[i].n).val a3 c3, (getT (dats es') l[i].n).val a4 c4] w1 _; exact hq) | exact CallsTo.q (t35 bw bm es' ar' hi' w1 (h1.holds _ (by (repeat (first | exact mH _ _ | apply mT))))) h1 | exact CallsTo.q (t37 bw bm es' ar' hi' w1 (h1.holds _ (by (repeat (first | exact mH _ _ | apply mT))))) h1 | exact CallsTo.q (t36 bv' av' cv' fs' hi' ar' w1 (h1.holds _ (by (repeat (first | exact mH _ _ | apply mT)))) hokf2 (by omega) haru2) h1 | exact CallsTo.q (t38 bv' av' cv' fs' hi' w1 (h1.holds _ (by (repeat (first | exact mH _ _ | apply mT))))) h1 | exact CallsTo.q (t19 a6 a7 c6 c7 G G w1 (h1.rd_of_own (by (repeat (first | exact mH _ _ | apply mT)))) (h1.rd_of_own (by (repeat (first | exact mH _ _ | apply mT)))) (by omega)) h1 | exact CallsTo.q (t41 a5 a8 c5 c8 o5 o8 w1 (dO_r (h1.holds (dO a5 c5 o5) (by (repeat (first | exact mH _ _ | apply mT))))) (dO_r (h1.holds (dO a8 c8 o8) (by (repeat (first | exact mH _ _ | apply mT))))) (fun x hx => ⟨dO_b (h1.holds (dO a5 c5 o5) (by (repeat (first | exact mH _ _ | apply mT)))) hx, hbl o5 ho5 x hx⟩) (fun x hx => dO_b (h1.holds (dO a8 c8 o8) (by (repeat (first | exact mH _ _ | apply mT)))) hx) (by rw [ho5, ho8]) (by have := hol o5 ho5; omega)) h1))|(apply LR.call; (· exact rfl); (intro w1 h1; first | (have ht := t39 bw bm es' ar' hi' l[i].n w1 (h1.holds _ (by (repeat (first | exact mH _ _ | apply mT)))) hW'.aru.1 harh hhim; rw [hG] at ht; refine ht.mono ?_; rintro v w2 ⟨a6, c6, rfl, hn⟩; refine LR.back (h1.newSl hn) ?_; clear hn h1 ht) | (have ht := t40 bv' av' cv' fs' hi' l[i].n w1 (h1.holds _ (by (repeat (first | exact mH _ _ | apply mT)))) hokf2 (by omega) hhim; rw [hfs2, hG] at ht; refine ht.mono ?_; rintro v w2 ⟨a7, c7, rfl, hn⟩; refine LR.back (h1.newSl hn) ?_; clear hn h1 ht) | (have ht := t42 bv' av' cv' fs' hi' l[i].n w1 (h1.holds _ (by (repeat (first | exact mH _ _ | apply mT)))) hokf2 (by omega); rw [hfs2] at ht; refine ht.mono ?_; rintro v w2 ⟨a8, c8, o8, rfl, ho8, hn⟩; refine LR.back (h1.got hn (dO_dep _ _ _)) ?_; clear hn h1 ht))))
        all_goals (refine At.stage_same (fun _ h => St.sub h (by repeat (first | exact List.Sublist.refl _ | apply List.Sublist.cons_cons | apply List.Sublist.cons))) ?_))
      all_goals (
        apply DW.loud 13
        · exact rfl
        · decide +kernel
        repeat'(first|(apply kg;iterate 2 exact rfl)|(apply kG;iterate 3 exact rfl)|apply kM|(apply kp;iterate 2 exact rfl)|((first|apply kz|apply ky);(·exact rfl);(·repeat(first|exact iO|exact iR rfl|apply iT));iterate 2 exact rfl)|(apply Go.Hb.kK;(iterate 4 exact rfl);intro _)|(apply kU;(iterate 2 exact rfl);(·repeat(first|exact sH _ _ _|apply sT));(first|exact nfL_eq rfl|exact rfl);exact rfl)|(apply kB;(iterate 2 exact rfl);intro _)|(apply kA;exact rfl;intro _)|(apply kq; (· exact rfl); (· intro w1 h1; first | (have hq := CallsTo.q (c84 (getT (dats es') l[i].n) (getT (dats es') l[i].n) a3 a4 c3 c4 w1 (h1.rd_of_own (by (repeat (first | exact mH _ _ | apply mT)))) (h1.rd_of_own (by (repeat (first | exact mH _ _ | apply mT)))) (by omega)) h1; rw [sameD_self] at hq; show CallsTo Try.prog 31 [(getT (dats es') l[i].n).val a3 c3, (getT (dats es') l[i].n).val a4 c4] w1 _; exact hq) | exact CallsTo.q (t35 bw bm es' ar' hi' w1 (h1.holds _ (by (repeat (first | exact mH _ _ | apply mT))))) h1 | exact CallsTo.q (t37 bw bm es' ar' hi' w1 (h1.holds _ (by (repeat (first | exact mH _ _ | apply mT))))) h1 | exact CallsTo.q (t36 bv' av' cv' fs' hi' ar' w1 (h1.holds _ (by (repeat (first | exact mH _ _ | apply mT)))) hokf2 (by omega) haru2) h1 | exact CallsTo.q (t38 bv' av' cv' fs' hi' w1 (h1.holds _ (by (repeat (first | exact mH _ _ | apply mT))))) h1 | exact CallsTo.q (t19 a6 a7 c6 c7 G G w1 (h1.rd_of_own (by (repeat (first | exact mH _ _ | apply mT)))) (h1.rd_of_own (by (repeat (first | exact mH _ _ | apply mT)))) (by omega)) h1 | exact CallsTo.q (t41 a5 a8 c5 c8 o5 o8 w1 (dO_r (h1.holds (dO a5 c5 o5) (by (repeat (first | exact mH _ _ | apply mT))))) (dO_r (h1.holds (dO a8 c8 o8) (by (repeat (first | exact mH _ _ | apply mT))))) (fun x hx => ⟨dO_b (h1.holds (dO a5 c5 o5) (by (repeat (first | exact mH _ _ | apply mT)))) hx, hbl o5 ho5 x hx⟩) (fun x hx => dO_b (h1.holds (dO a8 c8 o8) (by (repeat (first | exact mH _ _ | apply mT)))) hx) (by rw [ho5, ho8]) (by have := hol o5 ho5; omega)) h1))|(apply LR.call; (· exact rfl); (intro w1 h1; first | (have ht := t39 bw bm es' ar' hi' l[i].n w1 (h1.holds _ (by (repeat (first | exact mH _ _ | apply mT)))) hW'.aru.1 harh hhim; rw [hG] at ht; refine ht.mono ?_; rintro v w2 ⟨a6, c6, rfl, hn⟩; refine LR.back (h1.newSl hn) ?_; clear hn h1 ht) | (have ht := t40 bv' av' cv' fs' hi' l[i].n w1 (h1.holds _ (by (repeat (first | exact mH _ _ | apply mT)))) hokf2 (by omega) hhim; rw [hfs2, hG] at ht; refine ht.mono ?_; rintro v w2 ⟨a7, c7, rfl, hn⟩; refine LR.back (h1.newSl hn) ?_; clear hn h1 ht) | (have ht := t42 bv' av' cv' fs' hi' l[i].n w1 (h1.holds _ (by (repeat (first | exact mH _ _ | apply mT)))) hokf2 (by omega); rw [hfs2] at ht; refine ht.mono ?_; rintro v w2 ⟨a8, c8, o8, rfl, ho8, hn⟩; refine LR.back (h1.got hn (dO_dep _ _ _)) ?_; clear hn h1 ht))))
        all_goals (refine At.stage_same (fun _ h => St.sub h (by repeat (first | exact List.Sublist.refl _ | apply List.Sublist.cons_cons | apply List.Sublist.cons))) ?_))
      all_goals (
        apply DW.quiet [14, 15, 16, 17, 19]
        · decide +kernel
        · first | exact fun _ h => h | exact fun _ h => St.sub h (by repeat (first | exact List.Sublist.refl _ | apply List.Sublist.cons_cons | apply List.Sublist.cons))
        repeat'(first|(apply yp;iterate 3 exact rfl)|(apply QL.ev;(·exact rfl);(·first|((first|apply Ez|apply Ey);(·exact rfl);(·repeat(first|exact iO|exact iR rfl|apply iT));exact rfl)|((first|apply Ev.fieldAddr|apply Ev.len|apply EqOf.eq|apply EqOf.ne|apply Ev.conv|apply Ev.buildN);exact rfl)|((first|apply Ev.shr|apply Ev.shl);(iterate 2 exact rfl);first|decide|omega));·exact rfl)|(apply yq;iterate 5 exact rfl)|(apply QL.evg;(iterate 3 exact rfl);(·first|((first|apply Ez|apply Ey);(·exact rfl);(·repeat(first|exact iO|exact iR rfl|apply iT));exact rfl)|((first|apply Ev.fieldAddr|apply Ev.len|apply EqOf.eq|apply EqOf.ne|apply Ev.conv|apply Ev.buildN);exact rfl)|((first|apply Ev.shr|apply Ev.shl);(iterate 2 exact rfl);first|decide|omega));·exact rfl)|(apply yn;iterate 4 exact rfl)|((apply QL.split;iterate 3 exact rfl);all_goals(intro hc;try simp only[hcs]at hc;try(exfalso;first|contradiction|omega)))|apply QL.nil)
        all_goals (show DW _ _ _ _ _ _ _ _))
      all_goals (
        apply DW.loud 18
        · exact rfl
        · decide +kernel
        repeat'(first|(apply kg;iterate 2 exact rfl)|(apply kG;iterate 3 exact rfl)|apply kM|(apply kp;iterate 2 exact rfl)|((first|apply kz|apply ky);(·exact rfl);(·repeat(first|exact iO|exact iR rfl|apply iT));iterate 2 exact rfl)|(apply Go.Hb.kK;(iterate 4 exact rfl);intro _)|(apply kU;(iterate 2 exact rfl);(·repeat(first|exact sH _ _ _|apply sT));(first|exact nfL_eq rfl|exact rfl);exact rfl)|(apply kB;(iterate 2 exact rfl);intro _)|(apply kA;exact rfl;intro _)|(apply kq; (· exact rfl); (· intro w1 h1; first | (have hq := CallsTo.q (c84 (getT (dats es') l[i].n) (getT (dats es') l[i].n) a3 a4 c3 c4 w1 (h1.rd_of_own (by (repeat (first | exact mH _ _ | apply mT)))) (h1.rd_of_own (by (repeat (first | exact mH _ _ | apply mT)))) (by omega)) h1; rw [sameD_self] at hq; show CallsTo Try.prog 31 [(getT (dats es') l[i].n).val a3 c3, (getT (dats es') l[i].n).val a4 c4] w1 _; exact hq) | exact CallsTo.q (t35 bw bm es' ar' hi' w1 (h1.holds _ (by (repeat (first | exact mH _ _ | apply mT))))) h1 | exact CallsTo.q (t37 bw bm es' ar' hi' w1 (h1.holds _ (by (repeat (first | exact mH _ _ | apply mT))))) h1 | exact CallsTo.q (t36 bv' av' cv' fs' hi' ar' w1 (h1.holds _ (by (repeat (first | exact mH _ _ | apply mT)))) hokf2 (by omega) haru2) h1 | exact CallsTo.q (t38 bv' av' cv' fs' hi' w1 (h1.holds _ (by (repeat (first | exact mH _ _ | apply mT))))) h1 | exact CallsTo.q (t19 a6 a7 c6 c7 G G w1 (h1.rd_of_own (by (repeat (first | exact mH _ _ | apply mT)))) (h1.rd_of_own (by (repeat (first | exact mH _ _ | apply mT)))) (by omega)) h1 | exact CallsTo.q (t41 a5 a8 c5 c8 o5 o8 w1 (dO_r (h1.holds (dO a5 c5 o5) (by (repeat (first | exact mH _ _ | apply mT))))) (dO_r (h1.holds (dO a8 c8 o8) (by (repeat (first | exact mH _ _ | apply mT))))) (fun x hx => ⟨dO_b (h1.holds (dO a5 c5 o5) (by (repeat (first | exact mH _ _ | apply mT)))) hx, hbl o5 ho5 x hx⟩) (fun x hx => dO_b (h1.holds (dO a8 c8 o8) (by (repeat (first | exact mH _ _ | apply mT)))) hx) (by rw [ho5, ho8]) (by have := hol o5 ho5; omega)) h1))|(apply LR.call; (· exact rfl); (intro w1 h1; first | (have ht := t39 bw bm es' ar' hi' l[i].n w1 (h1.holds _ (by (repeat (first | exact mH _ _ | apply mT)))) hW'.aru.1 harh hhim; rw [hG] at ht; refine ht.mono ?_; rintro v w2 ⟨a6, c6, rfl, hn⟩; refine LR.back (h1.newSl hn) ?_; clear hn h1 ht) | (have ht := t40 bv' av' cv' fs' hi' l[i].n w1 (h1.holds _ (by (repeat (first | exact mH _ _ | apply mT)))) hokf2 (by omega) hhim; rw [hfs2, hG] at ht; refine ht.mono ?_; rintro v w2 ⟨a7, c7, rfl, hn⟩; refine LR.back (h1.newSl hn) ?_; clear hn h1 ht) | (have ht := t42 bv' av' cv' fs' hi' l[i].n w1 (h1.holds _ (by (repeat (first | exact mH _ _ | apply mT)))) hokf2 (by omega); rw [hfs2] at ht; refine ht.mono ?_; rintro v w2 ⟨a8, c8, o8, rfl, ho8, hn⟩; refine LR.back (h1.got hn (dO_dep _ _ _)) ?_; clear hn h1 ht))))
        all_goals (refine At.stage_same (fun _ h => St.sub h (by repeat (first | exact List.Sublist.refl _ | apply List.Sublist.cons_cons | apply List.Sublist.cons))) ?_))
      all_goals (
        apply DW.loud 20
        · exact rfl
        · decide +kernel
        repeat'(first|(apply kg;iterate 2 exact rfl)|(apply kG;iterate 3 exact rfl)|apply kM|(apply kp;iterate 2 exact rfl)|((first|apply kz|apply ky);(·exact rfl);(·repeat(first|exact iO|exact iR rfl|apply iT));iterate 2 exact rfl)|(apply Go.Hb.kK;(iterate 4 exact rfl);intro _)|(apply kU;(iterate 2 exact rfl);(·repeat(first|exact sH _ _ _|apply sT));(first|exact nfL_eq rfl|exact rfl);exact rfl)|(apply kB;(iterate 2 exact rfl);intro _)|(apply kA;exact rfl;intro _)|(apply kq; (· exact rfl); (· intro w1 h1; first | (have hq := CallsTo.q (c84 (getT (dats es') l[i].n) (getT (dats es') l[i].n) a3 a4 c3 c4 w1 (h1.rd_of_own (by (repeat (first | exact mH _ _ | apply mT)))) (h1.rd_of_own (by (repeat (first | exact mH _ _ | apply mT)))) (by omega)) h1; rw [sameD_self] at hq; show CallsTo Try.prog 31 [(getT (dats es') l[i].n).val a3 c3, (getT (dats es') l[i].n).val a4 c4] w1 _; exact hq) | exact CallsTo.q (t35 bw bm es' ar' hi' w1 (h1.holds _ (by (repeat (first | exact mH _ _ | apply mT))))) h1 | exact CallsTo.q (t37 bw bm es' ar' hi' w1 (h1.holds _ (by (repeat (first | exact mH _ _ | apply mT))))) h1 | exact CallsTo.q (t36 bv' av' cv' fs' hi' ar' w1 (h1.holds _ (by (repeat (first | exact mH _ _ | apply mT)))) hokf2 (by omega) haru2) h1 | exact CallsTo.q (t38 bv' av' cv' fs' hi' w1 (h1.holds _ (by (repeat (first | exact mH _ _ | apply mT))))) h1 | exact CallsTo.q (t19 a6 a7 c6 c7 G G w1 (h1.rd_of_own (by (repeat (first | exact mH _ _ | apply mT)))) (h1.rd_of_own (by (repeat (first | exact mH _ _ | apply mT)))) (by omega)) h1 | exact CallsTo.q (t41 a5 a8 c5 c8 o5 o8 w1 (dO_r (h1.holds (dO a5 c5 o5) (by (repeat (first | exact mH _ _ | apply mT))))) (dO_r (h1.holds (dO a8 c8 o8) (by (repeat (first | exact mH _ _ | apply mT))))) (fun x hx => ⟨dO_b (h1.holds (dO a5 c5 o5) (by (repeat (first | exact mH _ _ | apply mT)))) hx, hbl o5 ho5 x hx⟩) (fun x hx => dO_b (h1.holds (dO a8 c8 o8) (by (repeat (first | exact mH _ _ | apply mT)))) hx) (by rw [ho5, ho8]) (by have := hol o5 ho5; omega)) h1))|(apply LR.call; (· exact rfl); (intro w1 h1; first | (have ht := t39 bw bm es' ar' hi' l[i].n w1 (h1.holds _ (by (repeat (first | exact mH _ _ | apply mT)))) hW'.aru.1 harh hhim; rw [hG] at ht; refine ht.mono ?_; rintro v w2 ⟨a6, c6, rfl, hn⟩; refine LR.back (h1.newSl hn) ?_; clear hn h1 ht) | (have ht := t40 bv' av' cv' fs' hi' l[i].n w1 (h1.holds _ (by (repeat (first | exact mH _ _ | apply mT)))) hokf2 (by omega) hhim; rw [hfs2, hG] at ht; refine ht.mono ?_; rintro v w2 ⟨a7, c7, rfl, hn⟩; refine LR.back (h1.newSl hn) ?_; clear hn h1 ht) | (have ht := t42 bv' av' cv' fs' hi' l[i].n w1 (h1.holds _ (by (repeat (first | exact mH _ _ | apply mT)))) hokf2 (by omega); rw [hfs2] at ht; refine ht.mono ?_; rintro v w2 ⟨a8, c8, o8, rfl, ho8, hn⟩; refine LR.back (h1.got hn (dO_dep _ _ _)) ?_; clear hn h1 ht))))
        all_goals (refine At.stage_same (fun _ h => St.sub h (by repeat (first | exact List.Sublist.refl _ | apply List.Sublist.cons_cons | apply List.Sublist.cons))) ?_))
      all_goals (
        apply DW.quiet [21, 22, 23, 24, 25, 26, 28, 29, 30]
        · decide +kernel
        · first | exact fun _ h => h | exact fun _ h => St.sub h (by repeat (first | exact List.Sublist.refl _ | apply List.Sublist.cons_cons | apply List.Sublist.cons))
        repeat'(first|(apply yp;iterate 3 exact rfl)|(apply QL.ev;(·exact rfl);(·first|((first|apply Ez|apply Ey);(·exact rfl);(·repeat(first|exact iO|exact iR rfl|apply iT));exact rfl)|((first|apply Ev.fieldAddr|apply Ev.len|apply EqOf.eq|apply EqOf.ne|apply Ev.conv|apply Ev.buildN);exact rfl)|((first|apply Ev.shr|apply Ev.shl);(iterate 2 exact rfl);first|decide|omega));·exact rfl)|(apply yq;iterate 5 exact rfl)|(apply QL.evg;(iterate 3 exact rfl);(·first|((first|apply Ez|apply Ey);(·exact rfl);(·repeat(first|exact iO|exact iR rfl|apply iT));exact rfl)|((first|apply Ev.fieldAddr|apply Ev.len|apply EqOf.eq|apply EqOf.ne|apply Ev.conv|apply Ev.buildN);exact rfl)|((first|apply Ev.shr|apply Ev.shl);(iterate 2 exact rfl);first|decide|omega));·exact rfl)|(apply yn;iterate 4 exact rfl)|((apply QL.split;iterate 3 exact rfl);all_goals(intro hc;try simp only[hcs]at hc;try(exfalso;first|contradiction|omega)))|apply QL.nil)
        all_goals (show DW _ _ _ _ _ _ _ _))
      all_goals (
        apply DW.loud 27
        · exact rfl
        · decide +kernel
        repeat'(first|(apply kg;iterate 2 exact rfl)|(apply kG;iterate 3 exact rfl)|apply kM|(apply kp;iterate 2 exact rfl)|((first|apply kz|apply ky);(·exact rfl);(·repeat(first|exact iO|exact iR rfl|apply iT));iterate 2 exact rfl)|(apply Go.Hb.kK;(iterate 4 exact rfl);intro _)|(apply kU;(iterate 2 exact rfl);(·repeat(first|exact sH _ _ _|apply sT));(first|exact nfL_eq rfl|exact rfl);exact rfl)|(apply kB;(iterate 2 exact rfl);intro _)|(apply kA;exact rfl;intro _)|(apply kq; (· exact rfl); (· intro w1 h1; first | (have hq := CallsTo.q (c84 (getT (dats es') l[i].n) (getT (dats es') l[i].n) a3 a4 c3 c4 w1 (h1.rd_of_own (by (repeat (first | exact mH _ _ | apply mT)))) (h1.rd_of_own (by (repeat (first | exact mH _ _ | apply mT)))) (by omega)) h1; rw [sameD_self] at hq; show CallsTo Try.prog 31 [(getT (dats es') l[i].n).val a3 c3, (getT (dats es') l[i].n).val a4 c4] w1 _; exact hq) | exact CallsTo.q (t35 bw bm es' ar' hi' w1 (h1.holds _ (by (repeat (first | exact mH _ _ | apply mT))))) h1 | exact CallsTo.q (t37 bw bm es' ar' hi' w1 (h1.holds _ (by (repeat (first | exact mH _ _ | apply mT))))) h1 | exact CallsTo.q (t36 bv' av' cv' fs' hi' ar' w1 (h1.holds _ (by (repeat (first | exact mH _ _ | apply mT)))) hokf2 (by omega) haru2) h1 | exact CallsTo.q (t38 bv' av' cv' fs' hi' w1 (h1.holds _ (by (repeat (first | exact mH _ _ | apply mT))))) h1 | exact CallsTo.q (t19 a6 a7 c6 c7 G G w1 (h1.rd_of_own (by (repeat (first | exact mH _ _ | apply mT)))) (h1.rd_of_own (by (repeat (first | exact mH _ _ | apply mT)))) (by omega)) h1 | exact CallsTo.q (t41 a5 a8 c5 c8 o5 o8 w1 (dO_r (h1.holds (dO a5 c5 o5) (by (repeat (first | exact mH _ _ | apply mT))))) (dO_r (h1.holds (dO a8 c8 o8) (by (repeat (first | exact mH _ _ | apply mT))))) (fun x hx => ⟨dO_b (h1.holds (dO a5 c5 o5) (by (repeat (first | exact mH _ _ | apply mT)))) hx, hbl o5 ho5 x hx⟩) (fun x hx => dO_b (h1.holds (dO a8 c8 o8) (by (repeat (first | exact mH _ _ | apply mT)))) hx) (by rw [ho5, ho8]) (by have := hol o5 ho5; omega)) h1))|(apply LR.call; (· exact rfl); (intro w1 h1; first | (have ht := t39 bw bm es' ar' hi' l[i].n w1 (h1.holds _ (by (repeat (first | exact mH _ _ | apply mT)))) hW'.aru.1 harh hhim; rw [hG] at ht; refine ht.mono ?_; rintro v w2 ⟨a6, c6, rfl, hn⟩; refine LR.back (h1.newSl hn) ?_; clear hn h1 ht) | (have ht := t40 bv' av' cv' fs' hi' l[i].n w1 (h1.holds _ (by (repeat (first | exact mH _ _ | apply mT)))) hokf2 (by omega) hhim; rw [hfs2, hG] at ht; refine ht.mono ?_; rintro v w2 ⟨a7, c7, rfl, hn⟩; refine LR.back (h1.newSl hn) ?_; clear hn h1 ht) | (have ht := t42 bv' av' cv' fs' hi' l[i].n w1 (h1.holds _ (by (repeat (first | exact mH _ _ | apply mT)))) hokf2 (by omega); rw [hfs2] at ht; refine ht.mono ?_; rintro v w2 ⟨a8, c8, o8, rfl, ho8, hn⟩; refine LR.back (h1.got hn (dO_dep _ _ _)) ?_; clear hn h1 ht))))
        all_goals (refine At.stage_same (fun _ h => St.sub h (by repeat (first | exact List.Sublist.refl _ | apply List.Sublist.cons_cons | apply List.Sublist.cons))) ?_))
      all_goals (
        apply DW.loud 31
        · exact rfl
        · decide +kernel
        repeat'(first|(apply kg;iterate 2 exact rfl)|(apply kG;iterate 3 exact rfl)|apply kM|(apply kp;iterate 2 exact rfl)|((first|apply kz|apply ky);(·exact rfl);(·repeat(first|exact iO|exact iR rfl|apply iT));iterate 2 exact rfl)|(apply Go.Hb.kK;(iterate 4 exact rfl);intro _)|(apply kU;(iterate 2 exact rfl);(·repeat(first|exact sH _ _ _|apply sT));(first|exact nfL_eq rfl|exact rfl);exact rfl)|(apply kB;(iterate 2 exact rfl);intro _)|(apply kA;exact rfl;intro _)|(apply kq; (· exact rfl); (· intro w1 h1; first | (have hq := CallsTo.q (c84 (getT (dats es') l[i].n) (getT (dats es') l[i].n) a3 a4 c3 c4 w1 (h1.rd_of_own (by (repeat (first | exact mH _ _ | apply mT)))) (h1.rd_of_own (by (repeat (first | exact mH _ _ | apply mT)))) (by omega)) h1; rw [sameD_self] at hq; show CallsTo Try.prog 31 [(getT (dats es') l[i].n).val a3 c3, (getT (dats es') l[i].n).val a4 c4] w1 _; exact hq) | exact CallsTo.q (t35 bw bm es' ar' hi' w1 (h1.holds _ (by (repeat (first | exact mH _ _ | apply mT))))) h1 | exact CallsTo.q (t37 bw bm es' ar' hi' w1 (h1.holds _ (by (repeat (first | exact mH _ _ | apply mT))))) h1 | exact CallsTo.q (t36 bv' av' cv' fs' hi' ar' w1 (h1.holds _ (by (repeat (first | exact mH _ _ | apply mT)))) hokf2 (by omega) haru2) h1 | exact CallsTo.q (t38 bv' av' cv' fs' hi' w1 (h1.holds _ (by (repeat (first | exact mH _ _ | apply mT))))) h1 | exact CallsTo.q (t19 a6 a7 c6 c7 G G w1 (h1.rd_of_own (by (repeat (first | exact mH _ _ | apply mT)))) (h1.rd_of_own (by (repeat (first | exact mH _ _ | apply mT)))) (by omega)) h1 | exact CallsTo.q (t41 a5 a8 c5 c8 o5 o8 w1 (dO_r (h1.holds (dO a5 c5 o5) (by (repeat (first | exact mH _ _ | apply mT))))) (dO_r (h1.holds (dO a8 c8 o8) (by (repeat (first | exact mH _ _ | apply mT))))) (fun x hx => ⟨dO_b (h1.holds (dO a5 c5 o5) (by (repeat (first | exact mH _ _ | apply mT)))) hx, hbl o5 ho5 x hx⟩) (fun x hx => dO_b (h1.holds (dO a8 c8 o8) (by (repeat (first | exact mH _ _ | apply mT)))) hx) (by rw [ho5, ho8]) (by have := hol o5 ho5; omega)) h1))|(apply LR.call; (· exact rfl); (intro w1 h1; first | (have ht := t39 bw bm es' ar' hi' l[i].n w1 (h1.holds _ (by (repeat (first | exact mH _ _ | apply mT)))) hW'.aru.1 harh hhim; rw [hG] at ht; refine ht.mono ?_; rintro v w2 ⟨a6, c6, rfl, hn⟩; refine LR.back (h1.newSl hn) ?_; clear hn h1 ht) | (have ht := t40 bv' av' cv' fs' hi' l[i].n w1 (h1.holds _ (by (repeat (first | exact mH _ _ | apply mT)))) hokf2 (by omega) hhim; rw [hfs2, hG] at ht; refine ht.mono ?_; rintro v w2 ⟨a7, c7, rfl, hn⟩; refine LR.back (h1.newSl hn) ?_; clear hn h1 ht) | (have ht := t42 bv' av' cv' fs' hi' l[i].n w1 (h1.holds _ (by (repeat (first | exact mH _ _ | apply mT)))) hokf2 (by omega); rw [hfs2] at ht; refine ht.mono ?_; rintro v w2 ⟨a8, c8, o8, rfl, ho8, hn⟩; refine LR.back (h1.got hn (dO_dep _ _ _)) ?_; clear hn h1 ht))))
        all_goals (refine At.stage_same (fun _ h => St.sub h (by repeat (first | exact List.Sublist.refl _ | apply List.Sublist.cons_cons | apply List.Sublist.cons))) ?_))
      all_goals (
        apply DW.loud 32
        · exact rfl
        · decide +kernel
        repeat'(first|(apply kg;iterate 2 exact rfl)|(apply kG;iterate 3 exact rfl)|apply kM|(apply kp;iterate 2 exact rfl)|((first|apply kz|apply ky);(·exact rfl);(·repeat(first|exact iO|exact iR rfl|apply iT));iterate 2 exact rfl)|(apply Go.Hb.kK;(iterate 4 exact rfl);intro _)|(apply kU;(iterate 2 exact rfl);(·repeat(first|exact sH _ _ _|apply sT));(first|exact nfL_eq rfl|exact rfl);exact rfl)|(apply kB;(iterate 2 exact rfl);intro _)|(apply kA;exact rfl;intro _)|(apply kq; (· exact rfl); (· intro w1 h1; first | (have hq := CallsTo.q (c84 (getT (dats es') l[i].n) (getT (dats es') l[i].n) a3 a4 c3 c4 w1 (h1.rd_of_own (by (repeat (first | exact mH _ _ | apply mT)))) (h1.rd_of_own (by (repeat (first | exact mH _ _ | apply mT)))) (by omega)) h1; rw [sameD_self] at hq; show CallsTo Try.prog 31 [(getT (dats es') l[i].n).val a3 c3, (getT (dats es') l[i].n).val a4 c4] w1 _; exact hq) | exact CallsTo.q (t35 bw bm es' ar' hi' w1 (h1.holds _ (by (repeat (first | exact mH _ _ | apply mT))))) h1 | exact CallsTo.q (t37 bw bm es' ar' hi' w1 (h1.holds _ (by (repeat (first | exact mH _ _ | apply mT))))) h1 | exact CallsTo.q (t36 bv' av' cv' fs' hi' ar' w1 (h1.holds _ (by (repeat (first | exact mH _ _ | apply mT)))) hokf2 (by omega) haru2) h1 | exact CallsTo.q (t38 bv' av' cv' fs' hi' w1 (h1.holds _ (by (repeat (first | exact mH _ _ | apply mT))))) h1 | exact CallsTo.q (t19 a6 a7 c6 c7 G G w1 (h1.rd_of_own (by (repeat (first | exact mH _ _ | apply mT)))) (h1.rd_of_own (by (repeat (first | exact mH _ _ | apply mT)))) (by omega)) h1 | exact CallsTo.q (t41 a5 a8 c5 c8 o5 o8 w1 (dO_r (h1.holds (dO a5 c5 o5) (by (repeat (first | exact mH _ _ | apply mT))))) (dO_r (h1.holds (dO a8 c8 o8) (by (repeat (first | exact mH _ _ | apply mT))))) (fun x hx => ⟨dO_b (h1.holds (dO a5 c5 o5) (by (repeat (first | exact mH _ _ | apply mT)))) hx, hbl o5 ho5 x hx⟩) (fun x hx => dO_b (h1.holds (dO a8 c8 o8) (by (repeat (first | exact mH _ _ | apply mT)))) hx) (by rw [ho5, ho8]) (by have := hol o5 ho5; omega)) h1))|(apply LR.call; (· exact rfl); (intro w1 h1; first | (have ht := t39 bw bm es' ar' hi' l[i].n w1 (h1.holds _ (by (repeat (first | exact mH _ _ | apply mT)))) hW'.aru.1 harh hhim; rw [hG] at ht; refine ht.mono ?_; rintro v w2 ⟨a6, c6, rfl, hn⟩; refine LR.back (h1.newSl hn) ?_; clear hn h1 ht) | (have ht := t40 bv' av' cv' fs' hi' l[i].n w1 (h1.holds _ (by (repeat (first | exact mH _ _ | apply mT)))) hokf2 (by omega) hhim; rw [hfs2, hG] at ht; refine ht.mono ?_; rintro v w2 ⟨a7, c7, rfl, hn⟩; refine LR.back (h1.newSl hn) ?_; clear hn h1 ht) | (have ht := t42 bv' av' cv' fs' hi' l[i].n w1 (h1.holds _ (by (repeat (first | exact mH _ _ | apply mT)))) hokf2 (by omega); rw [hfs2] at ht; refine ht.mono ?_; rintro v w2 ⟨a8, c8, o8, rfl, ho8, hn⟩; refine LR.back (h1.got hn (dO_dep _ _ _)) ?_; clear hn h1 ht))))
        all_goals (refine At.stage_same (fun _ h => St.sub h (by repeat (first | exact List.Sublist.refl _ | apply List.Sublist.cons_cons | apply List.Sublist.cons))) ?_))
      all_goals (
        apply DW.quiet [33, 34, 35, 36, 37, 38, 39]
        · decide +kernel
        · first | exact fun _ h => h | exact fun _ h => St.sub h (by repeat (first | exact List.Sublist.refl _ | apply List.Sublist.cons_cons | apply List.Sublist.cons))
        repeat'(first|(apply yp;iterate 3 exact rfl)|(apply QL.ev;(·exact rfl);(·first|((first|apply Ez|apply Ey);(·exact rfl);(·repeat(first|exact iO|exact iR rfl|apply iT));exact rfl)|((first|apply Ev.fieldAddr|apply Ev.len|apply EqOf.eq|apply EqOf.ne|apply Ev.conv|apply Ev.buildN);exact rfl)|((first|apply Ev.shr|apply Ev.shl);(iterate 2 exact rfl);first|decide|omega));·exact rfl)|(apply yq;iterate 5 exact rfl)|(apply QL.evg;(iterate 3 exact rfl);(·first|((first|apply Ez|apply Ey);(·exact rfl);(·repeat(first|exact iO|exact iR rfl|apply iT));exact rfl)|((first|apply Ev.fieldAddr|apply Ev.len|apply EqOf.eq|apply EqOf.ne|apply Ev.conv|apply Ev.buildN);exact rfl)|((first|apply Ev.shr|apply Ev.shl);(iterate 2 exact rfl);first|decide|omega));·exact rfl)|(apply yn;iterate 4 exact rfl)|((apply QL.split;iterate 3 exact rfl);all_goals(intro hc;try simp only[hcs]at hc;try(exfalso;first|contradiction|omega)))|apply QL.nil)
        all_goals (show DW _ _ _ _ _ _ _ _))
      all_goals (
        apply DW.loud 40
        · exact rfl
        · decide +kernel
        repeat'(first|(apply kg;iterate 2 exact rfl)|(apply kG;iterate 3 exact rfl)|apply kM|(apply kp;iterate 2 exact rfl)|((first|apply kz|apply ky);(·exact rfl);(·repeat(first|exact iO|exact iR rfl|apply iT));iterate 2 exact rfl)|(apply Go.Hb.kK;(iterate 4 exact rfl);intro _)|(apply kU;(iterate 2 exact rfl);(·repeat(first|exact sH _ _ _|apply sT));(first|exact nfL_eq rfl|exact rfl);exact rfl)|(apply kB;(iterate 2 exact rfl);intro _)|(apply kA;exact rfl;intro _)|(apply kq; (· exact rfl); (· intro w1 h1; first | (have hq := CallsTo.q (c84 (getT (dats es') l[i].n) (getT (dats es') l[i].n) a3 a4 c3 c4 w1 (h1.rd_of_own (by (repeat (first | exact mH _ _ | apply mT)))) (h1.rd_of_own (by (repeat (first | exact mH _ _ | apply mT)))) (by omega)) h1; rw [sameD_self] at hq; show CallsTo Try.prog 31 [(getT (dats es') l[i].n).val a3 c3, (getT (dats es') l[i].n).val a4 c4] w1 _; exact hq) | exact CallsTo.q (t35 bw bm es' ar' hi' w1 (h1.holds _ (by (repeat (first | exact mH _ _ | apply mT))))) h1 | exact CallsTo.q (t37 bw bm es' ar' hi' w1 (h1.holds _ (by (repeat (first | exact mH _ _ | apply mT))))) h1 | exact CallsTo.q (t36 bv' av' cv' fs' hi' ar' w1 (h1.holds _ (by (repeat (first | exact mH _ _ | apply mT)))) hokf2 (by omega) haru2) h1 | exact CallsTo.q (t38 bv' av' cv' fs' hi' w1 (h1.holds _ (by (repeat (first | exact mH _ _ | apply mT))))) h1 | exact CallsTo.q (t19 a6 a7 c6 c7 G G w1 (h1.rd_of_own (by (repeat (first | exact mH _ _ | apply mT)))) (h1.rd_of_own (by (repeat (first | exact mH _ _ | apply mT)))) (by omega)) h1 | exact CallsTo.q (t41 a5 a8 c5 c8 o5 o8 w1 (dO_r (h1.holds (dO a5 c5 o5) (by (repeat (first | exact mH _ _ | apply mT))))) (dO_r (h1.holds (dO a8 c8 o8) (by (repeat (first | exact mH _ _ | apply mT))))) (fun x hx => ⟨dO_b (h1.holds (dO a5 c5 o5) (by (repeat (first | exact mH _ _ | apply mT)))) hx, hbl o5 ho5 x hx⟩) (fun x hx => dO_b (h1.holds (dO a8 c8 o8) (by (repeat (first | exact mH _ _ | apply mT)))) hx) (by rw [ho5, ho8]) (by have := hol o5 ho5; omega)) h1))|(apply LR.call; (· exact rfl); (intro w1 h1; first | (have ht := t39 bw bm es' ar' hi' l[i].n w1 (h1.holds _ (by (repeat (first | exact mH _ _ | apply mT)))) hW'.aru.1 harh hhim; rw [hG] at ht; refine ht.mono ?_; rintro v w2 ⟨a6, c6, rfl, hn⟩; refine LR.back (h1.newSl hn) ?_; clear hn h1 ht) | (have ht := t40 bv' av' cv' fs' hi' l[i].n w1 (h1.holds _ (by (repeat (first | exact mH _ _ | apply mT)))) hokf2 (by omega) hhim; rw [hfs2, hG] at ht; refine ht.mono ?_; rintro v w2 ⟨a7, c7, rfl, hn⟩; refine LR.back (h1.newSl hn) ?_; clear hn h1 ht) | (have ht := t42 bv' av' cv' fs' hi' l[i].n w1 (h1.holds _ (by (repeat (first | exact mH _ _ | apply mT)))) hokf2 (by omega); rw [hfs2] at ht; refine ht.mono ?_; rintro v w2 ⟨a8, c8, o8, rfl, ho8, hn⟩; refine LR.back (h1.got hn (dO_dep _ _ _)) ?_; clear hn h1 ht))))
        all_goals (refine At.stage_same (fun _ h => St.sub h (by repeat (first | exact List.Sublist.refl _ | apply List.Sublist.cons_cons | apply List.Sublist.cons))) ?_))
      all_goals (
        apply DW.loud 41
        · exact rfl
        · decide +kernel
        repeat'(first|(apply kg;iterate 2 exact rfl)|(apply kG;iterate 3 exact rfl)|apply kM|(apply kp;iterate 2 exact rfl)|((first|apply kz|apply ky);(·exact rfl);(·repeat(first|exact iO|exact iR rfl|apply iT));iterate 2 exact rfl)|(apply Go.Hb.kK;(iterate 4 exact rfl);intro _)|(apply kU;(iterate 2 exact rfl);(·repeat(first|exact sH _ _ _|apply sT));(first|exact nfL_eq rfl|exact rfl);exact rfl)|(apply kB;(iterate 2 exact rfl);intro _)|(apply kA;exact rfl;intro _)|(apply kq; (· exact rfl); (· intro w1 h1; first | (have hq := CallsTo.q (c84 (getT (dats es') l[i].n) (getT (dats es') l[i].n) a3 a4 c3 c4 w1 (h1.rd_of_own (by (repeat (first | exact mH _ _ | apply mT)))) (h1.rd_of_own (by (repeat (first | exact mH _ _ | apply mT)))) (by omega)) h1; rw [sameD_self] at hq; show CallsTo Try.prog 31 [(getT (dats es') l[i].n).val a3 c3, (getT (dats es') l[i].n).val a4 c4] w1 _; exact hq) | exact CallsTo.q (t35 bw bm es' ar' hi' w1 (h1.holds _ (by (repeat (first | exact mH _ _ | apply mT))))) h1 | exact CallsTo.q (t37 bw bm es' ar' hi' w1 (h1.holds _ (by (repeat (first | exact mH _ _ | apply mT))))) h1 | exact CallsTo.q (t36 bv' av' cv' fs' hi' ar' w1 (h1.holds _ (by (repeat (first | exact mH _ _ | apply mT)))) hokf2 (by omega) haru2) h1 | exact CallsTo.q (t38 bv' av' cv' fs' hi' w1 (h1.holds _ (by (repeat (first | exact mH _ _ | apply mT))))) h1 | exact CallsTo.q (t19 a6 a7 c6 c7 G G w1 (h1.rd_of_own (by (repeat (first | exact mH _ _ | apply mT)))) (h1.rd_of_own (by (repeat (first | exact mH _ _ | apply mT)))) (by omega)) h1 | exact CallsTo.q (t41 a5 a8 c5 c8 o5 o8 w1 (dO_r (h1.holds (dO a5 c5 o5) (by (repeat (first | exact mH _ _ | apply mT))))) (dO_r (h1.holds (dO a8 c8 o8) (by (repeat (first | exact mH _ _ | apply mT))))) (fun x hx => ⟨dO_b (h1.holds (dO a5 c5 o5) (by (repeat (first | exact mH _ _ | apply mT)))) hx, hbl o5 ho5 x hx⟩) (fun x hx => dO_b (h1.holds (dO a8 c8 o8) (by (repeat (first | exact mH _ _ | apply mT)))) hx) (by rw [ho5, ho8]) (by have := hol o5 ho5; omega)) h1))|(apply LR.call; (· exact rfl); (intro w1 h1; first | (have ht := t39 bw bm es' ar' hi' l[i].n w1 (h1.holds _ (by (repeat (first | exact mH _ _ | apply mT)))) hW'.aru.1 harh hhim; rw [hG] at ht; refine ht.mono ?_; rintro v w2 ⟨a6, c6, rfl, hn⟩; refine LR.back (h1.newSl hn) ?_; clear hn h1 ht) | (have ht := t40 bv' av' cv' fs' hi' l[i].n w1 (h1.holds _ (by (repeat (first | exact mH _ _ | apply mT)))) hokf2 (by omega) hhim; rw [hfs2, hG] at ht; refine ht.mono ?_; rintro v w2 ⟨a7, c7, rfl, hn⟩; refine LR.back (h1.newSl hn) ?_; clear hn h1 ht) | (have ht := t42 bv' av' cv' fs' hi' l[i].n w1 (h1.holds _ (by (repeat (first | exact mH _ _ | apply mT)))) hokf2 (by omega); rw [hfs2] at ht; refine ht.mono ?_; rintro v w2 ⟨a8, c8, o8, rfl, ho8, hn⟩; refine LR.back (h1.got hn (dO_dep _ _ _)) ?_; clear hn h1 ht))))
        all_goals (refine At.stage_same (fun _ h => St.sub h (by repeat (first | exact List.Sublist.refl _ | apply List.Sublist.cons_cons | apply List.Sublist.cons))) ?_))
      all_goals (
        apply DW.quiet [42, 43]
        · decide +kernel
        · first | exact fun _ h => h | exact fun _ h => St.sub h (by repeat (first | exact List.Sublist.refl _ | apply List.Sublist.cons_cons | apply List.Sublist.cons))
        repeat'(first|(apply yp;iterate 3 exact rfl)|(apply QL.ev;(·exact rfl);(·first|((first|apply Ez|apply Ey);(·exact rfl);(·repeat(first|exact iO|exact iR rfl|apply iT));exact rfl)|((first|apply Ev.fieldAddr|apply Ev.len|apply EqOf.eq|apply EqOf.ne|apply Ev.conv|apply Ev.buildN);exact rfl)|((first|apply Ev.shr|apply Ev.shl);(iterate 2 exact rfl);first|decide|omega));·exact rfl)|(apply yq;iterate 5 exact rfl)|(apply QL.evg;(iterate 3 exact rfl);(·first|((first|apply Ez|apply Ey);(·exact rfl);(·repeat(first|exact iO|exact iR rfl|apply iT));exact rfl)|((first|apply Ev.fieldAddr|apply Ev.len|apply EqOf.eq|apply EqOf.ne|apply Ev.conv|apply Ev.buildN);exact rfl)|((first|apply Ev.shr|apply Ev.shl);(iterate 2 exact rfl);first|decide|omega));·exact rfl)|(apply yn;iterate 4 exact rfl)|((apply QL.split;iterate 3 exact rfl);all_goals(intro hc;try simp only[hcs]at hc;try(exfalso;first|contradiction|omega)))|apply QL.nil)
        all_goals (show DW _ _ _ _ _ _ _ _))
      all_goals (first | (apply DW.done_thn; (· decide +kernel)) | (apply DW.done; (· decide +kernel)))
      repeat'(first|(apply kp;iterate 2 exact rfl)|apply jJ|(apply jE;exact rfl)|(apply jp;exact rfl)|(apply jc;kernel_rfl)|((first|apply kf|apply kn|apply ke|apply kx|apply kc|apply kb);iterate 2 exact rfl)|((first|apply kz|apply ky);(·exact rfl);(·repeat(first|exact iO|exact iR rfl|apply iT));iterate 2 exact rfl)|(apply kg;iterate 2 exact rfl)|(apply kG;iterate 3 exact rfl)|(apply kB;(iterate 2 exact rfl);intro _)|(apply kA;exact rfl;intro _)|(apply Go.Hb.kK;(iterate 4 exact rfl);intro _)|(apply kU;(iterate 2 exact rfl);(·repeat(first|exact sH _ _ _|apply sT));(first|exact nfL_eq rfl|exact rfl);exact rfl)|((first|apply kh|apply kl);(iterate 2 exact rfl);(first|decide|omega);exact rfl)|((first|(apply kR;iterate 2 exact rfl)|(apply kQ;exact rfl));all_goals(intro hc;try simp only[hcs]at hc;try(exfalso;first|contradiction|omega))))
    all_goals
      have hol5 := hol o5 ho5
      have hbl5 := hbl o5 ho5
      apply CW.loop [18, 19, 162, 163, 164, 165, 166, 167, 168, 169, 170, 171, 172, 173, 174, 175, 176, 177, 178, 179, 180, 181, 182, 183, 184, 185, 186, 187, 188, 189, 190, 191, 192, 193, 194, 195, 196] (fun s : Nat × List DaA => s.1 ≤ o5.length ∧ s.2.length = o5.length ∧ ∀ x ∈ s.2, x.d.msg.body.length ≤ 140737488355328) (fun s => [(18, Value.int .i64 (s.1 : Int))])
        (fun s => St w NoF [dS a5 c5 s.2, bunD s.2, vO bv' av' cv' fs' hi', wO bw bm es' ar' hi', rdA (some ⟨bg, og, none⟩) (l.flatMap WdA.row)]) (fun s => o5.length - s.1)
      · intro w' hw'
        have h1 : St w NoF [dO a5 c5 o5, vO bv' av' cv' fs' hi', wO bw bm es' ar' hi', rdA (some ⟨bg, og, none⟩) (l.flatMap WdA.row)] w' := hw'.sub (by (repeat (first | exact List.Sublist.refl _ | apply List.Sublist.cons_cons | apply List.Sublist.cons)))
        exact ⟨(0, o5), ⟨by simp, rfl, hbl5⟩, ⟨rfl, trivial⟩, h1.part (osl.dep _ _ _ _ _) (bun_dep DaA.dep o5)⟩
      rintro ⟨k5, o⟩ g5 ⟨hk5', hoe, hob⟩
      simp only at hk5' hoe hob ⊢
      rw [← hoe] at hk5' hol5 ⊢
      by_cases hk5 : k5 < o.length
      · refine LR_cls_cw fun w1 hw1 => ?_
        obtain ⟨bx, ox, rfl⟩ := (ownsRow_rd hw1.g0).form (rows_ne DaA.row_len (by decide) hk5)
        refine CW.sub (D := St w NoF _) ?_ (fun u e => e ▸ hw1)
        clear hw1 w1
        have hX := hob _ (List.getElem_mem hk5)
        repeat'(first|(apply kp;iterate 2 exact rfl)|apply jJ|(apply jE;exact rfl)|(apply jp;exact rfl)|(apply jc;kernel_rfl)|((first|apply kf|apply kn|apply ke|apply kx|apply kc|apply kb);iterate 2 exact rfl)|((first|apply kz|apply ky);(·exact rfl);(·repeat(first|exact iO|exact iR rfl|apply iT));iterate 2 exact rfl)|(apply kg;iterate 2 exact rfl)|(apply kG;iterate 3 exact rfl)|(apply kB;(iterate 2 exact rfl);intro _)|(apply kA;exact rfl;intro _)|(apply Go.Hb.kK;(iterate 4 exact rfl);intro _)|(apply kU;(iterate 2 exact rfl);(·repeat(first|exact sH _ _ _|apply sT));(first|exact nfL_eq rfl|exact rfl);exact rfl)|((first|apply kh|apply kl);(iterate 2 exact rfl);(first|decide|omega);exact rfl)|((first|(apply kR;iterate 2 exact rfl)|(apply kQ;exact rfl));all_goals(intro hc;try simp only[hcs]at hc;try(exfalso;first|contradiction|omega))))
        apply CW.loop [19, 168, 169, 170, 171, 172, 173, 174, 175, 176, 177, 178, 179, 180, 181, 182, 183, 184, 185, 186, 187, 188, 189, 190, 191, 192, 193, 194, 195, 196] (fun s : Nat × List Int => s.1 ≤ o[k5].d.msg.body.length ∧ s.2.length = o[k5].d.msg.body.length) (fun s => [(19, Value.int .i64 (s.1 : Int))])
          (fun s => St w NoF [osl (.slice o[k5].a o[k5].d.msg.body.length o[k5].c) 5 1 o[k5].d.msg.body.length (bv s.2), bunD (o.take k5 ++ o.drop (k5 + 1)), dS (some ⟨bx, ox, none⟩) c5 o, vO bv' av' cv' fs' hi', wO bw bm es' ar' hi', rdA (some ⟨bg, og, none⟩) (l.flatMap WdA.row)]) (fun s => o[k5].d.msg.body.length - s.1)
        · intro w' hw'
          exact ⟨(0, o[k5].d.msg.body), ⟨by simp, rfl⟩, ⟨rfl, trivial⟩, bun_openW DaA.dep hk5 (front hw' 1 rfl rfl)⟩
        rintro ⟨k6, bs⟩ g6 ⟨hk6, hbs6⟩
        simp only at hk6 hbs6 ⊢
        by_cases hlt6 : k6 < o[k5].d.msg.body.length
        · have hne : (bv bs) ≠ [] := fun e => by
            have e2 : bs.length = 0 := by simpa [bv] using congrArg List.length e
            omega
          refine LR_cls_cw fun w1 hw1 => ?_
          obtain ⟨by', oy, hay⟩ := (ownsRow_rd hw1.g0).form hne
          refine CW.sub (D := St w NoF _) ?_ (fun u e => e ▸ hw1)
          clear hw1 w1
          have hrow : o[k5].row[17]? = some (.slice (some ⟨by', oy, none⟩) o[k5].d.msg.body.length o[k5].c) := by rw [← hay]; rfl
          repeat'(first|(apply CW.reg_sinkC 18; (· exact rfl); (· decide +kernel))|(apply kp;iterate 2 exact rfl)|apply jJ|(apply jE;exact rfl)|(apply jp;exact rfl)|(apply jc;kernel_rfl)|((first|apply kf|apply kn|apply ke|apply kx|apply kc|apply kb);iterate 2 exact rfl)|((first|apply kz|apply ky);(·exact rfl);(·repeat(first|exact iO|exact iR rfl|apply iT));iterate 2 exact rfl)|(apply kg;iterate 2 exact rfl)|(apply kG;iterate 3 exact rfl)|(apply kB;(iterate 2 exact rfl);intro _)|(apply kA;exact rfl;intro _)|(apply Go.Hb.kK;(iterate 4 exact rfl);intro _)|(apply kU;(iterate 2 exact rfl);(·repeat(first|exact sH _ _ _|apply sT));(first|exact nfL_eq rfl|exact rfl);exact rfl)|((first|apply kh|apply kl);(iterate 2 exact rfl);(first|decide|omega);exact rfl)|(apply LR.ev; (· first | (apply Ev.indexAddr; (· exact rfl); (· exact rfl); (· omega); (· omega)) | (apply Ev.load; (· exact rfl); (· intro w' hw'; exact row_cell DaA.row_len (hw'.rd_of_own (n := o.length) (by (repeat (first | exact mH _ _ | apply mT)))) hk5 17 rfl (by omega)))); (· exact rfl))|((first|(apply kR;iterate 2 exact rfl)|(apply kQ;exact rfl));all_goals(intro hc;try simp only[hcs]at hc;try(exfalso;first|contradiction|omega))))
          rw [hay]
          all_goals (
            apply DW.quiet [0, 1, 2, 3, 4, 5, 6, 7, 8, 9, 10, 11, 12, 13, 14, 15, 16, 17]
            · decide +kernel
            · first | exact fun _ h => h | exact fun _ h => St.sub h (by repeat (first | exact List.Sublist.refl _ | apply List.Sublist.cons_cons | apply List.Sublist.cons))
            repeat'(first|(apply yp;iterate 3 exact rfl)|(apply QL.ev;(·exact rfl);(·first|((first|apply Ez|apply Ey);(·exact rfl);(·repeat(first|exact iO|exact iR rfl|apply iT));exact rfl)|((first|apply Ev.fieldAddr|apply Ev.len|apply EqOf.eq|apply EqOf.ne|apply Ev.conv|apply Ev.buildN);exact rfl)|((first|apply Ev.shr|apply Ev.shl);(iterate 2 exact rfl);first|decide|omega));·exact rfl)|(apply QL.ev; (· exact rfl); (· first | (apply Ev.indexAddr; (· exact rfl); (· exact rfl); (· omega); (· omega)) | (apply Ev.load (v := .slice (some ⟨by', oy, none⟩) o[k5].d.msg.body.length o[k5].c); (· exact rfl); (· intro w' hw'; exact row_cell DaA.row_len (hw'.rd_of_own (n := o.length) (by (repeat (first | exact mH _ _ | apply mT)))) hk5 17 hrow (by omega))) | (apply Ev.load_osl; (· exact rfl); (· (repeat (first | exact mH _ _ | apply mT))); (· exact bv_at (l := bs) (i := k6) (by simp) (by omega))) | (apply Ev.xor; (· exact rfl); (· exact rfl))); (· exact rfl))|(apply yq;iterate 5 exact rfl)|(apply QL.evg;(iterate 3 exact rfl);(·first|((first|apply Ez|apply Ey);(·exact rfl);(·repeat(first|exact iO|exact iR rfl|apply iT));exact rfl)|((first|apply Ev.fieldAddr|apply Ev.len|apply EqOf.eq|apply EqOf.ne|apply Ev.conv|apply Ev.buildN);exact rfl)|((first|apply Ev.shr|apply Ev.shl);(iterate 2 exact rfl);first|decide|omega));·exact rfl)|(apply yn;iterate 4 exact rfl)|((apply QL.split;iterate 3 exact rfl);all_goals(intro hc;try simp only[hcs]at hc;try(exfalso;first|contradiction|omega)))|apply QL.nil)
            all_goals (show DW _ _ _ _ _ _ _ _))
          all_goals (apply DW.done; (· decide +kernel))
          all_goals apply At.sink
          refine LR.store_obj (v := .int .u8 (xorI .u8 bs[k6] 90)) (z' := osl (.slice (some ⟨by', oy, none⟩) o[k5].d.msg.body.length o[k5].c) 5 1 o[k5].d.msg.body.length (bv (bs.set k6 (xorI .u8 bs[k6] 90)))) rfl rfl (sH _ _ _) rfl ?_ (osl.dep _ _ _ _ _) ?_
          · have st := Stores.osl (P := Try.prog) (T := 5) (q := 1) (b := by') (o := oy) (i := (k6 : Int).toNat * 1) (n := o[k5].d.msg.body.length) (c := o[k5].c) (v := .int .u8 (xorI .u8 bs[k6] 90)) (vs := [.int .u8 (xorI .u8 bs[k6] 90)]) (xs := bv bs) (E := 5) (sz := 1) inferInstance rfl rfl rfl (by simp; omega)
            rw [show (k6 : Int).toNat * 1 = k6 by omega] at st ⊢
            rwa [splice_bv _ _ _ (by omega)] at st
          repeat'(first|(apply kp;iterate 2 exact rfl)|apply jJ|(apply jE;exact rfl)|(apply jp;exact rfl)|(apply jc;kernel_rfl)|((first|apply kf|apply kn|apply ke|apply kx|apply kc|apply kb);iterate 2 exact rfl)|((first|apply kz|apply ky);(·exact rfl);(·repeat(first|exact iO|exact iR rfl|apply iT));iterate 2 exact rfl)|(apply kg;iterate 2 exact rfl)|(apply kG;iterate 3 exact rfl)|(apply kB;(iterate 2 exact rfl);intro _)|(apply kA;exact rfl;intro _)|(apply Go.Hb.kK;(iterate 4 exact rfl);intro _)|(apply kU;(iterate 2 exact rfl);(·repeat(first|exact sH _ _ _|apply sT));(first|exact nfL_eq rfl|exact rfl);exact rfl)|((first|apply kh|apply kl);(iterate 2 exact rfl);(first|decide|omega);exact rfl)|(apply addX;(iterate 2 exact rfl);(iterate 2(first|omega|(dsimp only;omega)));exact rfl)|((first|(apply kR;iterate 2 exact rfl)|(apply kQ;exact rfl));all_goals(intro hc;try simp only[hcs]at hc;try(exfalso;first|contradiction|omega))))
          apply At.again (k6 + 1, bs.set k6 (xorI .u8 bs[k6] 90)) ⟨by show k6 + 1 ≤ _; omega, by simp [hbs6]⟩
          · (repeat (first | exact Out.refl _ _ | exact Out.mix | (apply Out.upd; (· exact rfl)) | (apply Out.updL; (· exact rfl)) | (apply Out.mixs; (· exact rfl))))
          · exact ⟨rfl, trivial⟩
          · exact fun w' hw' => hw'
          · show o[k5].d.msg.body.length - (k6 + 1) < o[k5].d.msg.body.length - k6
            omega
        · repeat'(first|(apply kp;iterate 2 exact rfl)|apply jJ|(apply jE;exact rfl)|(apply jp;exact rfl)|(apply jc;kernel_rfl)|((first|apply kf|apply kn|apply ke|apply kx|apply kc|apply kb);iterate 2 exact rfl)|((first|apply kz|apply ky);(·exact rfl);(·repeat(first|exact iO|exact iR rfl|apply iT));iterate 2 exact rfl)|(apply kg;iterate 2 exact rfl)|(apply kG;iterate 3 exact rfl)|(apply kB;(iterate 2 exact rfl);intro _)|(apply kA;exact rfl;intro _)|(apply Go.Hb.kK;(iterate 4 exact rfl);intro _)|(apply kU;(iterate 2 exact rfl);(·repeat(first|exact sH _ _ _|apply sT));(first|exact nfL_eq rfl|exact rfl);exact rfl)|((first|apply kh|apply kl);(iterate 2 exact rfl);(first|decide|omega);exact rfl)|(apply LR.ev; (· first | (apply Ev.indexAddr; (· exact rfl); (· exact rfl); (· omega); (· omega)) | (apply Ev.load; (· exact rfl); (· intro w' hw'; exact row_cell DaA.row_len (hw'.rd_of_own (n := o.length) (by (repeat (first | exact mH _ _ | apply mT)))) hk5 17 rfl (by omega)))); (· exact rfl))|(apply addX;(iterate 2 exact rfl);(iterate 2(first|omega|(dsimp only;omega)));exact rfl)|((first|(apply kR;iterate 2 exact rfl)|(apply kQ;exact rfl));all_goals(intro hc;try simp only[hcs]at hc;try(exfalso;first|contradiction|omega))))
          refine At.again (k5 + 1, o.set k5 (o[k5].put bs)) ⟨by show k5 + 1 ≤ o.length; omega, by show (o.set k5 _).length = _; rw [List.length_set], fun x hx => ?_⟩ ?_ ⟨rfl, trivial⟩ ?_ (by show o.length - (k5 + 1) < o.length - k5; omega)
          · rcases List.mem_or_eq_of_mem_set hx with hx | rfl
            · exact hob x hx
            · show bs.length ≤ _
              omega
          · (repeat (first | exact Out.refl _ _ | exact Out.mix | (apply Out.upd; (· exact rfl)) | (apply Out.updL; (· exact rfl)) | (apply Out.mixs; (· exact rfl))))
          · intro w' hw'
            have hbd : osl (.slice o[k5].a o[k5].d.msg.body.length o[k5].c) 5 1 o[k5].d.msg.body.length (bv bs) = (o[k5].put bs).body := by
              show _ = osl (.slice o[k5].a bs.length o[k5].c) 5 1 bs.length (bv bs)
              rw [hbs6]
            rw [hbd] at hw'
            have h1 := bun_shutW DaA.dep DaA.ex hk5 hw'
            have h2 : St w NoF [dS (some ⟨bx, ox, none⟩) c5 o, bunD (o.set k5 (o[k5].put bs)), vO bv' av' cv' fs' hi', wO bw bm es' ar' hi', rdA (some ⟨bg, og, none⟩) (l.flatMap WdA.row)] w' := front h1 1 rfl rfl
            rw [← dS_put (some ⟨bx, ox, none⟩) c5 hk5 hbs6] at h2
            exact h2
      · repeat'(first|(apply kp;iterate 2 exact rfl)|apply jJ|(apply jE;exact rfl)|(apply jp;exact rfl)|(apply jc;kernel_rfl)|((first|apply kf|apply kn|apply ke|apply kx|apply kc|apply kb);iterate 2 exact rfl)|((first|apply kz|apply ky);(·exact rfl);(·repeat(first|exact iO|exact iR rfl|apply iT));iterate 2 exact rfl)|(apply kg;iterate 2 exact rfl)|(apply kG;iterate 3 exact rfl)|(apply kB;(iterate 2 exact rfl);intro _)|(apply kA;exact rfl;intro _)|(apply Go.Hb.kK;(iterate 4 exact rfl);intro _)|(apply kU;(iterate 2 exact rfl);(·repeat(first|exact sH _ _ _|apply sT));(first|exact nfL_eq rfl|exact rfl);exact rfl)|((first|apply kh|apply kl);(iterate 2 exact rfl);(first|decide|omega);exact rfl)|(apply addX;(iterate 2 exact rfl);(iterate 2(first|omega|(dsimp only;omega)));exact rfl)|((first|(apply kR;iterate 2 exact rfl)|(apply kQ;exact rfl));all_goals(intro hc;try simp only[hcs]at hc;try(exfalso;first|contradiction|omega))))
        refine At.again (⟨i + 1, es', ar', hi', fs', av', cv'⟩ : Pst) ⟨by simp only; omega, by simp only; omega, hW', hfs2⟩ ?_ ⟨rfl, trivial⟩ (fun w' hw' => hw'.sub (by (repeat (first | exact List.Sublist.refl _ | apply List.Sublist.cons_cons | apply List.Sublist.cons)))) (by simp only; omega)
        (repeat (first | exact Out.refl _ _ | exact Out.mix | (apply Out.upd; (· exact rfl)) | (apply Out.updL; (· exact rfl)) | (apply Out.mixs; (· exact rfl))))
  · repeat'(first|(apply kp;iterate 2 exact rfl)|apply jJ|(apply jE;exact rfl)|(apply jp;exact rfl)|(apply jc;kernel_rfl)|((first|apply kf|apply kn|apply ke|apply kx|apply kc|apply kb);iterate 2 exact rfl)|((first|apply kz|apply ky);(·exact rfl);(·repeat(first|exact iO|exact iR rfl|apply iT));iterate 2 exact rfl)|(apply kg;iterate 2 exact rfl)|(apply kG;iterate 3 exact rfl)|(apply kB;(iterate 2 exact rfl);intro _)|(apply kA;exact rfl;intro _)|(apply Go.Hb.kK;(iterate 4 exact rfl);intro _)|(apply kU;(iterate 2 exact rfl);(·repeat(first|exact sH _ _ _|apply sT));(first|exact nfL_eq rfl|exact rfl);exact rfl)|((first|apply kh|apply kl);(iterate 2 exact rfl);(first|decide|omega);exact rfl)|(apply kq; (· exact rfl); (· intro w1 h1; exact CallsTo.q (t43 w1) h1))|((first|(apply kR;iterate 2 exact rfl)|(apply kQ;exact rfl));all_goals(intro hc;try simp only[hcs]at hc;try(exfalso;first|contradiction|omega))))
    (apply ret1; (· exact rfl); intro w' hS)
    exact ⟨rfl, hS.toKeep⟩
end Go.Proofs.Ythmmmbphknoagaa
