/-
  The law ChangeNames holds, as its row says it: the numbers and examples of chapter 21. Conditions: none.
-/
import Derived.Test.YtkolmkdbjagfcaaRCNM4

namespace Go.Proofs.Ytkolmkdbjagfcaa
open Go.Hb
attribute [local irreducible] LR CW At Ev thn blk finK noG again CallsTo DW QL dnext TW DP
set_option linter.unusedSimpArgs false
set_option linter.unusedVariables false
set_option maxRecDepth 100000

abbrev oB (b : Nat) (n : Int) : Asrt := .own b (.cells [.bool true, .int .i64 n].toArray 177 (0, 0))
def toldD (o : List DaA) : List EvD := (dats o).map msgE
theorem tellD_len (d : Dat) : (tellD d).length ≤ 1 := by unfold tellD; split <;> simp
structure Ost2 where
  n : Nat
  o : List DaA
  a : Option Addr
  c : Nat
set_option maxHeartbeats 4000000 in
theorem q72 (b bw bm : Nat) (es : List DaA) (aru high safe : Int) (w : World) (hb : w.heap[b]? = some (.cells [.bool true, .int .i64 0].toArray 177 (0, 0))) (h : (wO bw bm es aru high).holds w) (hne : ¬ (wO bw bm es aru high).foot b) (hD : WOk (dats es)) (hl : es.length ≤ 1000) :
    CallsTo Try.prog 72 [.pointer (some ⟨b, 0, none⟩), .pointer (some ⟨bw, 0, none⟩), .int .i64 safe] w fun v w' => ∃ n a' c' o, v = .tuple [.slice a' o.length c', .int .i64 0].toArray ∧ (∀ s : Int, 1 ≤ s → s ≤ (n : Nat) → hasD (dats es) s = true) ∧ stopB (dats es) safe n = true ∧ toldD o = preT (dats es) n ∧ o.length ≤ n ∧ n ≤ es.length ∧ St w (fun k => k = b) [dO a' c' o, oB b n] w' := by
  have hS0 : St w (fun k => k = b) [wR bw bm es aru high, oB b 0] w := by
    have h1 : St w (oB b 0).foot [oB b 0] w := St.one (show (oB b 0).holds w from hb) (fun k hk => by rw [show k = b from hk]; exact (Array.getElem?_eq_some_iff.1 hb).1) (Asrt.dep_own _ _)
    have h2 : St w (fun k => k = b) [oB b 0] w := h1
    exact h2.old h (fun k hk => ⟨both_live h k hk, fun e => hne (by rw [← e]; exact hk)⟩) (wO_dep _ _ _ _ _)
  refine go_in (n := 64) hS0 Try.func72 rfl rfl ?_
  repeat'(first|(apply kp;iterate 2 exact rfl)|apply jJ|(apply jE;exact rfl)|(apply jp;exact rfl)|(apply jc;kernel_rfl)|((first|apply kf|apply kn|apply ke|apply kx|apply kc|apply kb);iterate 2 exact rfl)|((first|apply kz|apply ky);(·exact rfl);(·repeat(first|exact iO|exact iR rfl|apply iT));iterate 2 exact rfl)|(apply kg;iterate 2 exact rfl)|(apply kG;iterate 3 exact rfl)|(apply kB;(iterate 2 exact rfl);intro _)|(apply kA;exact rfl;intro _)|(apply Go.Hb.kK;(iterate 4 exact rfl);intro _)|(apply kU;(iterate 2 exact rfl);(·repeat(first|exact sH _ _ _|apply sT));(first|exact nfL_eq rfl|exact rfl);exact rfl)|((first|apply kh|apply kl);(iterate 2 exact rfl);(first|decide|omega);exact rfl)|((first|(apply kR;iterate 2 exact rfl)|(apply kQ;exact rfl));all_goals(intro hc;try simp only[hcs]at hc;try(exfalso;first|contradiction|omega))))
  have hab0 : (abvT (dats es) 0).length ≤ es.length := by
    have h5 := abvS_len (dats es) 0 (sqs (dats es))
    rw [sqs_len, dats_len] at h5
    exact h5
  apply CW.loop [8, 9, 10, 11, 25, 26, 27, 28, 29, 30, 31, 32, 33, 34, 35, 36, 37, 38, 39, 40, 41, 42, 43, 44, 45, 46, 47, 48, 49, 50, 51, 52, 53, 54, 55, 56, 57, 58, 59, 60, 61, 62] (fun s : Ost2 => Upto (dats es) s.n ∧ s.n + (abvT (dats es) s.n).length ≤ es.length ∧ toldD s.o = preT (dats es) s.n ∧ s.o.length ≤ s.n) (fun s => [(8, .slice s.a s.o.length s.c)])
    (fun s => St w (fun k => k = b) [oB b s.n, dS s.a s.c s.o, bunD s.o, wR bw bm es aru high]) (fun s => es.length - s.n)
  · intro w' hw'
    refine ⟨⟨0, [], none, 0⟩, ⟨⟨by simp, fun s h1 h2 => by simp only at h2; omega⟩, by simpa using hab0, rfl, by simp⟩, ⟨rfl, trivial⟩, ?_⟩
    have j1 : St w (fun k => k = b) [dS none 0 [], bunD [], wR bw bm es aru high, oB b 0] w' := (hw'.bun_nil DaA.dep).nilsl 44 18
    exact front j1 3 rfl rfl |>.perm (by exact List.Perm.refl _)
  rintro ⟨n, o, a, c⟩ g1 ⟨hU, hnl, htold, hon⟩
  simp only at hU hnl htold hon ⊢
  have hnb := hU.le hD
  cases hx : hasD (dats es) ((n : Int) + 1)
  · repeat'(first|(apply kp;iterate 2 exact rfl)|apply jJ|(apply jE;exact rfl)|(apply jp;exact rfl)|(apply jc;kernel_rfl)|((first|apply kf|apply kn|apply ke|apply kx|apply kc|apply kb);iterate 2 exact rfl)|((first|apply kz|apply ky);(·exact rfl);(·repeat(first|exact iO|exact iR rfl|apply iT));iterate 2 exact rfl)|(apply kg;iterate 2 exact rfl)|(apply kG;iterate 3 exact rfl)|(apply kB;(iterate 2 exact rfl);intro _)|(apply kA;exact rfl;intro _)|(apply Go.Hb.kK;(iterate 4 exact rfl);intro _)|(apply kU;(iterate 2 exact rfl);(·repeat(first|exact sH _ _ _|apply sT));(first|exact nfL_eq rfl|exact rfl);exact rfl)|((first|apply kh|apply kl);(iterate 2 exact rfl);(first|decide|omega);exact rfl)|(apply addX;(iterate 2 exact rfl);(iterate 2(first|omega|(dsimp only;omega)));exact rfl)|(apply LR.call; (· exact rfl); (intro w1 hw1; have ht := t32 bw bm es aru high ((n : Int) + 1) w1 (w_out hw1 (by (repeat (first | exact mH _ _ | apply mT)))) hD; rw [hx] at ht; refine ht.mono ?_; rintro v w2 ⟨a2, c2, rfl, hn⟩; refine LR.back (hw1.newSl hn) ?_; clear hn hw1 ht))|((first|(apply kR;iterate 2 exact rfl)|(apply kQ;exact rfl));all_goals(intro hc;try simp only[hcs]at hc;try(exfalso;first|contradiction|omega))))
    · (apply ret2; (· exact rfl); intro w' hS)
      refine ⟨n, a, c, o, rfl, fun s h1 h2 => hU.2 s h1 h2, by unfold stopB; rw [hx]; rfl, htold, hon, by omega, ?_⟩
      have j1 : St w (fun k => k = b) [oB b n, dS a c o, bunD o] w' := hS.sub (by (repeat (first | exact List.Sublist.refl _ | apply List.Sublist.cons_cons | apply List.Sublist.cons)))
      have j2 : St w (fun k => k = b) [dS a c o, bunD o, oB b n] w' := front (front j1 2 rfl rfl) 2 rfl rfl
      exact j2.join rfl rfl
  · repeat'(first|(apply Go.Hb.kK;(iterate 4 exact rfl);intro bs)|(apply kp;iterate 2 exact rfl)|apply jJ|(apply jE;exact rfl)|(apply jp;exact rfl)|(apply jc;kernel_rfl)|((first|apply kf|apply kn|apply ke|apply kx|apply kc|apply kb);iterate 2 exact rfl)|((first|apply kz|apply ky);(·exact rfl);(·repeat(first|exact iO|exact iR rfl|apply iT));iterate 2 exact rfl)|(apply kg;iterate 2 exact rfl)|(apply kG;iterate 3 exact rfl)|(apply kB;(iterate 2 exact rfl);intro _)|(apply kA;exact rfl;intro _)|(apply Go.Hb.kK;(iterate 4 exact rfl);intro _)|(apply kU;(iterate 2 exact rfl);(·repeat(first|exact sH _ _ _|apply sT));(first|exact nfL_eq rfl|exact rfl);exact rfl)|((first|apply kh|apply kl);(iterate 2 exact rfl);(first|decide|omega);exact rfl)|(apply addX;(iterate 2 exact rfl);(iterate 2(first|omega|(dsimp only;omega)));exact rfl)|(apply LR.call; (· exact rfl); (intro w1 hw1; have ht := t32 bw bm es aru high ((n : Int) + 1) w1 (w_out hw1 (by (repeat (first | exact mH _ _ | apply mT)))) hD; rw [hx] at ht; refine ht.mono ?_; rintro v w2 ⟨a2, c2, rfl, hn⟩; refine LR.back (hw1.newSl hn) ?_; clear hn hw1 ht))|(apply LR.append (xs := o.flatMap DaA.row) (news := DaA.row ⟨getT (dats es) ((n : Int) + 1), a2, c2⟩) (m := 1); (· exact rfl); (· exact rfl); (· intro a' c'; (repeat (first | exact sH _ _ _ | apply sT))); (· exact fun w' hw' => hw'.rd_of_blk (mH _ _)); (· exact fun hx => by cases hx); (· exact rfl); (· simp [DaA.row, Dat.cells, Msg.cells, Value.oneCell']); (· omega); (· unfold maxLen; omega); (· exact rfl); (intro a4 c4))|((first|(apply kR;iterate 2 exact rfl)|(apply kQ;exact rfl));all_goals(intro hc;try simp only[hcs]at hc;try(exfalso;first|contradiction|omega))))
    · have hq := getT_seq hx
      (apply ret2; (· exact rfl); intro w' hS)
      refine ⟨n, a, c, o, rfl, fun s h1 h2 => hU.2 s h1 h2, by unfold stopB; rw [hx, show (getT (dats es) ((n : Int) + 1)).msg.safe = true by assumption, decide_eq_true (by omega)]; rfl, htold, hon, by omega, ?_⟩
      have j1 : St w (fun k => k = b) [oB b n, dS a c o, bunD o] w' := hS.sub (by (repeat (first | exact List.Sublist.refl _ | apply List.Sublist.cons_cons | apply List.Sublist.cons)))
      have j2 : St w (fun k => k = b) [dS a c o, bunD o, oB b n] w' := front (front j1 2 rfl rfl) 2 rfl rfl
      exact j2.join rfl rfl
    · have hs := tellD_len (getT (dats es) ((n : Int) + 1))
      refine At.again (⟨n + 1, o ++ [⟨getT (dats es) ((n : Int) + 1), a2, c2⟩], a4, c4⟩ : Ost2) ⟨by simpa using hU.next hx, ?_, ?_, ?_⟩ ?_ ⟨?_, trivial⟩ (fun w' hw' => ?_) ?_
      · have hh := congrArg List.length (abv_head hD hx)
        rw [List.length_cons] at hh
        show n + 1 + (abvT (dats es) ((n + 1 : Nat) : Int)).length ≤ es.length
        rw [show ((n + 1 : Nat) : Int) = (n : Int) + 1 by omega]
        omega
      · show toldD (o ++ [⟨getT (dats es) ((n : Int) + 1), a2, c2⟩]) = preT (dats es) n ++ tellD (getT (dats es) ((n : Int) + 1))
        rw [show tellD (getT (dats es) ((n : Int) + 1)) = [msgE (getT (dats es) ((n : Int) + 1))] by (unfold tellD; rw [if_neg (by assumption)]), ← htold]
        unfold toldD; rw [dats_snoc, List.map_append]; rfl
      · simp only [List.length_append, List.length_cons, List.length_nil]
        omega
      · (repeat (first | exact Out.refl _ _ | exact Out.mix | (apply Out.upd; (· exact rfl)) | (apply Out.updL; (· exact rfl)) | (apply Out.mixs; (· exact rfl))))
      · show Value.slice a4 (o.length + 1) c4 = .slice a4 (o ++ [(⟨getT (dats es) ((n : Int) + 1), a2, c2⟩ : DaA)]).length c4; simp
      · have j0 : St w (fun k => k = b) [(⟨getT (dats es) ((n : Int) + 1), a2, c2⟩ : DaA).body, oB b ((n : Int) + 1), osl (.slice a4 (o.length + 1) c4) 44 18 (o.length + 1) (o.flatMap DaA.row ++ (⟨getT (dats es) ((n : Int) + 1), a2, c2⟩ : DaA).row), bunD o, wR bw bm es aru high] w' := hw'.sub (by (repeat (first | exact List.Sublist.refl _ | apply List.Sublist.cons_cons | apply List.Sublist.cons)))
        have j1 : St w (fun k => k = b) [(⟨getT (dats es) ((n : Int) + 1), a2, c2⟩ : DaA).body, osl (.slice a4 (o.length + 1) c4) 44 18 (o.length + 1) (o.flatMap DaA.row ++ (⟨getT (dats es) ((n : Int) + 1), a2, c2⟩ : DaA).row), bunD o, oB b ((n : Int) + 1), wR bw bm es aru high] w' := front (front (front j0 3 rfl rfl) 3 rfl rfl) 2 rfl rfl
        exact front (d_push j1) 2 rfl rfl
      · show es.length - (n + 1) < es.length - n
        have hh := congrArg List.length (abv_head hD hx)
        rw [List.length_cons] at hh
        omega
    · have hs := tellD_len (getT (dats es) ((n : Int) + 1))
      refine At.again (⟨n + 1, o, a, c⟩ : Ost2) ⟨by simpa using hU.next hx, ?_, ?_, ?_⟩ ?_ ⟨?_, trivial⟩ (fun w' hw' => ?_) ?_
      · have hh := congrArg List.length (abv_head hD hx)
        rw [List.length_cons] at hh
        show n + 1 + (abvT (dats es) ((n + 1 : Nat) : Int)).length ≤ es.length
        rw [show ((n + 1 : Nat) : Int) = (n : Int) + 1 by omega]
        omega
      · show toldD (o) = preT (dats es) n ++ tellD (getT (dats es) ((n : Int) + 1))
        rw [show tellD (getT (dats es) ((n : Int) + 1)) = [] by (unfold tellD; rw [if_pos (by assumption)]), ← htold]
        rw [List.append_nil]
      · simp only [List.length_append, List.length_cons, List.length_nil]
        omega
      · (repeat (first | exact Out.refl _ _ | exact Out.mix | (apply Out.upd; (· exact rfl)) | (apply Out.updL; (· exact rfl)) | (apply Out.mixs; (· exact rfl))))
      · rfl
      · exact hw'.sub (by (repeat (first | exact List.Sublist.refl _ | apply List.Sublist.cons_cons | apply List.Sublist.cons)))
      · show es.length - (n + 1) < es.length - n
        have hh := congrArg List.length (abv_head hD hx)
        rw [List.length_cons] at hh
        omega
    · have hs := tellD_len (getT (dats es) ((n : Int) + 1))
      refine At.again (⟨n + 1, o ++ [⟨getT (dats es) ((n : Int) + 1), a2, c2⟩], a4, c4⟩ : Ost2) ⟨by simpa using hU.next hx, ?_, ?_, ?_⟩ ?_ ⟨?_, trivial⟩ (fun w' hw' => ?_) ?_
      · have hh := congrArg List.length (abv_head hD hx)
        rw [List.length_cons] at hh
        show n + 1 + (abvT (dats es) ((n + 1 : Nat) : Int)).length ≤ es.length
        rw [show ((n + 1 : Nat) : Int) = (n : Int) + 1 by omega]
        omega
      · show toldD (o ++ [⟨getT (dats es) ((n : Int) + 1), a2, c2⟩]) = preT (dats es) n ++ tellD (getT (dats es) ((n : Int) + 1))
        rw [show tellD (getT (dats es) ((n : Int) + 1)) = [msgE (getT (dats es) ((n : Int) + 1))] by (unfold tellD; rw [if_neg (by assumption)]), ← htold]
        unfold toldD; rw [dats_snoc, List.map_append]; rfl
      · simp only [List.length_append, List.length_cons, List.length_nil]
        omega
      · (repeat (first | exact Out.refl _ _ | exact Out.mix | (apply Out.upd; (· exact rfl)) | (apply Out.updL; (· exact rfl)) | (apply Out.mixs; (· exact rfl))))
      · show Value.slice a4 (o.length + 1) c4 = .slice a4 (o ++ [(⟨getT (dats es) ((n : Int) + 1), a2, c2⟩ : DaA)]).length c4; simp
      · have j0 : St w (fun k => k = b) [(⟨getT (dats es) ((n : Int) + 1), a2, c2⟩ : DaA).body, oB b ((n : Int) + 1), osl (.slice a4 (o.length + 1) c4) 44 18 (o.length + 1) (o.flatMap DaA.row ++ (⟨getT (dats es) ((n : Int) + 1), a2, c2⟩ : DaA).row), bunD o, wR bw bm es aru high] w' := hw'.sub (by (repeat (first | exact List.Sublist.refl _ | apply List.Sublist.cons_cons | apply List.Sublist.cons)))
        have j1 : St w (fun k => k = b) [(⟨getT (dats es) ((n : Int) + 1), a2, c2⟩ : DaA).body, osl (.slice a4 (o.length + 1) c4) 44 18 (o.length + 1) (o.flatMap DaA.row ++ (⟨getT (dats es) ((n : Int) + 1), a2, c2⟩ : DaA).row), bunD o, oB b ((n : Int) + 1), wR bw bm es aru high] w' := front (front (front j0 3 rfl rfl) 3 rfl rfl) 2 rfl rfl
        exact front (d_push j1) 2 rfl rfl
      · show es.length - (n + 1) < es.length - n
        have hh := congrArg List.length (abv_head hD hx)
        rw [List.length_cons] at hh
        omega
    · have hs := tellD_len (getT (dats es) ((n : Int) + 1))
      refine At.again (⟨n + 1, o, a, c⟩ : Ost2) ⟨by simpa using hU.next hx, ?_, ?_, ?_⟩ ?_ ⟨?_, trivial⟩ (fun w' hw' => ?_) ?_
      · have hh := congrArg List.length (abv_head hD hx)
        rw [List.length_cons] at hh
        show n + 1 + (abvT (dats es) ((n + 1 : Nat) : Int)).length ≤ es.length
        rw [show ((n + 1 : Nat) : Int) = (n : Int) + 1 by omega]
        omega
      · show toldD (o) = preT (dats es) n ++ tellD (getT (dats es) ((n : Int) + 1))
        rw [show tellD (getT (dats es) ((n : Int) + 1)) = [] by (unfold tellD; rw [if_pos (by assumption)]), ← htold]
        rw [List.append_nil]
      · simp only [List.length_append, List.length_cons, List.length_nil]
        omega
      · (repeat (first | exact Out.refl _ _ | exact Out.mix | (apply Out.upd; (· exact rfl)) | (apply Out.updL; (· exact rfl)) | (apply Out.mixs; (· exact rfl))))
      · rfl
      · exact hw'.sub (by (repeat (first | exact List.Sublist.refl _ | apply List.Sublist.cons_cons | apply List.Sublist.cons)))
      · show es.length - (n + 1) < es.length - n
        have hh := congrArg List.length (abv_head hD hx)
        rw [List.length_cons] at hh
        omega
end Go.Proofs.Ytkolmkdbjagfcaa

namespace Go.Proofs.Ytkolmkdbjagfcaa
open Go.Hb
attribute [local irreducible] LR CW At Ev thn blk finK noG again CallsTo DW QL dnext TW DP
set_option linter.unusedSimpArgs false
set_option linter.unusedVariables false
set_option maxRecDepth 100000

set_option maxHeartbeats 4000000 in
theorem q35 (bw bm : Nat) (es : List DaA) (aru high safe : Int) (w : World) (h : (wO bw bm es aru high).holds w) (hD : WOk (dats es)) (hl : es.length ≤ 1000) :
    CallsTo Try.prog 35 [.pointer (some ⟨bw, 0, none⟩), .int .i64 safe] w fun v w' => ∃ n a' c' x, v = .tuple [.int .i64 (n : Nat), .slice a' x.length c', .bool true].toArray ∧ (∀ s : Int, 1 ≤ s → s ≤ (n : Nat) → hasD (dats es) s = true) ∧ stopB (dats es) safe n = true ∧ x = (preT (dats es) n).map numE ∧ x.length ≤ n ∧ n ≤ es.length ∧ NewSl w w' (.slice a' x.length c') 3 1 x.length (iv x) := by
  refine go_in (n := 39) (wO_in h) Try.func35 rfl rfl ?_
  repeat'(first|(apply kp;iterate 2 exact rfl)|apply jJ|(apply jE;exact rfl)|(apply jp;exact rfl)|(apply jc;kernel_rfl)|((first|apply kf|apply kn|apply ke|apply kx|apply kc|apply kb);iterate 2 exact rfl)|((first|apply kz|apply ky);(·exact rfl);(·repeat(first|exact iO|exact iR rfl|apply iT));iterate 2 exact rfl)|(apply kg;iterate 2 exact rfl)|(apply kG;iterate 3 exact rfl)|(apply kB;(iterate 2 exact rfl);intro _)|(apply kA;exact rfl;intro _)|(apply Go.Hb.kK;(iterate 4 exact rfl);intro _)|(apply kU;(iterate 2 exact rfl);(·repeat(first|exact sH _ _ _|apply sT));(first|exact nfL_eq rfl|exact rfl);exact rfl)|((first|apply kh|apply kl);(iterate 2 exact rfl);(first|decide|omega);exact rfl)|(apply LR.call; (· exact rfl); (intro w1 h1; refine (q71 w1).mono ?_; rintro v w2 ⟨b, rfl, hn⟩; refine LR.back (h1.got hn (Asrt.dep_own _ _)) ?_; clear hn h1))|((first|(apply kR;iterate 2 exact rfl)|(apply kQ;exact rfl));all_goals(intro hc;try simp only[hcs]at hc;try(exfalso;first|contradiction|omega))))
  apply LR.call
  · exact rfl
  intro w1 h1
  have hne : ¬ (wO bw bm es aru high).foot b := St.apart (x := oB b 0) (h1.sub (L' := [oB b 0, wR bw bm es aru high]) (by (repeat (first | exact List.Sublist.refl _ | apply List.Sublist.cons_cons | apply List.Sublist.cons)))) (y := wR bw bm es aru high) (by (repeat (first | exact mH _ _ | apply mT))) rfl b rfl
  refine (q72 b bw bm es aru high safe w1 (h1.own_at (by (repeat (first | exact mH _ _ | apply mT)))) (w_out h1 (by (repeat (first | exact mH _ _ | apply mT)))) hne hD hl).mono ?_
  rintro v w2 ⟨n, a1, c1, o, rfl, hall, hstop, htold, hon, hnes, st⟩
  have st2 : St w1 (oB b 0).foot [oB b n, dO a1 c1 o] w2 := front st 1 rfl rfl
  have h2 := h1.two (L' := [oB b n, wR bw bm es aru high]) st2 rfl rfl rfl (by (repeat (first | exact sH _ _ _ | apply sT)))
  refine LR.back h2 ?_
  clear h2 st st2 h1 hne
  repeat'(first|(apply kp;iterate 2 exact rfl)|apply jJ|(apply jE;exact rfl)|(apply jp;exact rfl)|(apply jc;kernel_rfl)|((first|apply kf|apply kn|apply ke|apply kx|apply kc|apply kb);iterate 2 exact rfl)|((first|apply kz|apply ky);(·exact rfl);(·repeat(first|exact iO|exact iR rfl|apply iT));iterate 2 exact rfl)|(apply kg;iterate 2 exact rfl)|(apply kG;iterate 3 exact rfl)|(apply kB;(iterate 2 exact rfl);intro _)|(apply kA;exact rfl;intro _)|(apply Go.Hb.kK;(iterate 4 exact rfl);intro _)|(apply kU;(iterate 2 exact rfl);(·repeat(first|exact sH _ _ _|apply sT));(first|exact nfL_eq rfl|exact rfl);exact rfl)|((first|apply kh|apply kl);(iterate 2 exact rfl);(first|decide|omega);exact rfl)|((first|(apply kR;iterate 2 exact rfl)|(apply kQ;exact rfl));all_goals(intro hc;try simp only[hcs]at hc;try(exfalso;first|contradiction|omega))))
  have hnums : (preT (dats es) n).map numE = (dats o).map Dat.seq := by
    rw [← htold]
    unfold toldD
    rw [List.map_map]
    rfl
  have hol : o.length ≤ 1000 := by omega
  apply CW.loop [10, 11, 20, 21, 22, 23, 24, 25, 26, 27, 28, 29, 30, 31, 32, 33] (fun s : Nst => s.k ≤ o.length) (fun s => [(10, .slice s.a ((dats (o.take s.k)).map Dat.seq).length s.c), (11, .int .i64 (s.k : Int))])
    (fun s => St w NoF [il s.a s.c ((dats (o.take s.k)).map Dat.seq), dS a1 c1 o, oB b n]) (fun s => o.length - s.k)
  · intro w' hw'
    refine ⟨⟨0, none, 0⟩, by simp, ⟨rfl, rfl, trivial⟩, ?_⟩
    have j1 := (hw'.part (osl.dep _ _ _ _ _) (bun_dep DaA.dep o)).nilsl 3 1
    exact j1.sub (by (repeat (first | exact List.Sublist.refl _ | apply List.Sublist.cons_cons | apply List.Sublist.cons)))
  rintro ⟨k, a2, c2⟩ g1 hk
  simp only at hk ⊢
  have hlen : ((dats (o.take k)).map Dat.seq).length = k := by simp [dats]; omega
  by_cases hlt : k < o.length
  · refine LR_cls_cw fun w1 hw1 => ?_
    obtain ⟨bg, og, rfl⟩ := (hw1.rd_of_own (a := a1) (n := o.length) (by (repeat (first | exact mH _ _ | apply mT)))).form (rows_ne DaA.row_len (by decide) hlt)
    refine CW.sub (D := St w NoF _) ?_ (fun u e => e ▸ hw1)
    clear hw1 w1
    have hsucc : (dats (o.take (k + 1))).map Dat.seq = (dats (o.take k)).map Dat.seq ++ [o[k].d.seq] := by
      unfold dats
      rw [List.take_add_one, List.getElem?_eq_getElem hlt, List.map_append, List.map_append]
      rfl
    generalize (dats (o.take k)).map Dat.seq = L at hlen hsucc ⊢
    repeat'(first|(apply Go.Hb.kK;(iterate 4 exact rfl);intro bs)|(apply kp;iterate 2 exact rfl)|apply jJ|(apply jE;exact rfl)|(apply jp;exact rfl)|(apply jc;kernel_rfl)|((first|apply kf|apply kn|apply ke|apply kx|apply kc|apply kb);iterate 2 exact rfl)|((first|apply kz|apply ky);(·exact rfl);(·repeat(first|exact iO|exact iR rfl|apply iT));iterate 2 exact rfl)|(apply kg;iterate 2 exact rfl)|(apply kG;iterate 3 exact rfl)|(apply kB;(iterate 2 exact rfl);intro _)|(apply kA;exact rfl;intro _)|(apply Go.Hb.kK;(iterate 4 exact rfl);intro _)|(apply kU;(iterate 2 exact rfl);(·repeat(first|exact sH _ _ _|apply sT));(first|exact nfL_eq rfl|exact rfl);exact rfl)|((first|apply kh|apply kl);(iterate 2 exact rfl);(first|decide|omega);exact rfl)|(apply idxX;(iterate 2 exact rfl);(iterate 2(first|omega|(dsimp only;omega)));exact rfl)|(apply LR.ev; (· apply Ev.load; (· exact rfl); (· exact fun w' hw' => row_cell DaA.row_len (hw'.rd_of_own (n := o.length) (by (repeat (first | exact mH _ _ | apply mT)))) hlt 2 rfl (by omega))); (· exact rfl))|(apply addX;(iterate 2 exact rfl);(iterate 2(first|omega|(dsimp only;omega)));exact rfl)|(apply LR.append (xs := iv L) (news := [Value.int .i64 o[k].d.seq]) (m := 1); (· exact rfl); (· exact rfl); (· intro a' c'; (repeat (first | exact sH _ _ _ | apply sT))); (· exact fun w' hw' => hw'.rd_of_blk (mH _ _)); (· exact fun hx => by cases hx); (· exact rfl); (· exact rfl); (· omega); (· unfold maxLen; omega); (· exact rfl); (intro a3 c3))|((first|(apply kR;iterate 2 exact rfl)|(apply kQ;exact rfl));all_goals(intro hc;try simp only[hcs]at hc;try(exfalso;first|contradiction|omega))))
    refine At.again (⟨k + 1, a3, c3⟩ : Nst) (by simp only; omega) ?_ ⟨?_, rfl, trivial⟩ ?_ (by simp only; omega)
    · (repeat (first | exact Out.refl _ _ | exact Out.mix | (apply Out.upd; (· exact rfl)) | (apply Out.updL; (· exact rfl)) | (apply Out.mixs; (· exact rfl))))
    · simp only
      rw [hsucc]
      simp only [List.length_append, List.length_cons, List.length_nil]
      rfl
    · intro w' hw'
      simp only
      rw [hsucc]
      have e : il a3 c3 (L ++ [o[k].d.seq]) = osl (.slice a3 (L.length + 1) c3) 3 1 (L.length + 1) (iv L ++ [Value.int .i64 o[k].d.seq]) := by simp [il, iv]
      rw [e]
      exact hw'.sub (by (repeat (first | exact List.Sublist.refl _ | apply List.Sublist.cons_cons | apply List.Sublist.cons)))
  · have hke : k = o.length := by omega
    subst hke
    rw [List.take_length] at hlen ⊢
    repeat'(first|(apply kp;iterate 2 exact rfl)|apply jJ|(apply jE;exact rfl)|(apply jp;exact rfl)|(apply jc;kernel_rfl)|((first|apply kf|apply kn|apply ke|apply kx|apply kc|apply kb);iterate 2 exact rfl)|((first|apply kz|apply ky);(·exact rfl);(·repeat(first|exact iO|exact iR rfl|apply iT));iterate 2 exact rfl)|(apply kg;iterate 2 exact rfl)|(apply kG;iterate 3 exact rfl)|(apply kB;(iterate 2 exact rfl);intro _)|(apply kA;exact rfl;intro _)|(apply Go.Hb.kK;(iterate 4 exact rfl);intro _)|(apply kU;(iterate 2 exact rfl);(·repeat(first|exact sH _ _ _|apply sT));(first|exact nfL_eq rfl|exact rfl);exact rfl)|((first|apply kh|apply kl);(iterate 2 exact rfl);(first|decide|omega);exact rfl)|(apply kq; (· exact rfl); (· intro w1 h1; exact CallsTo.q (q73 b n w1 (h1.own_at (by (repeat (first | exact mH _ _ | apply mT))))) h1))|((first|(apply kR;iterate 2 exact rfl)|(apply kQ;exact rfl));all_goals(intro hc;try simp only[hcs]at hc;try(exfalso;first|contradiction|omega))))
    (apply ret3; (· exact rfl); intro w' hS)
    exact ⟨n, a2, c2, (dats o).map Dat.seq, rfl, hall, hstop, hnums.symm, by rw [hlen]; exact hon, hnes, hS.toNew (by (repeat (first | exact mH _ _ | apply mT)))⟩
end Go.Proofs.Ytkolmkdbjagfcaa

namespace Go.Proofs.Ytkolmkdbjagfcaa
open Go.Hb
attribute [local irreducible] LR CW At Ev thn blk finK noG again CallsTo DW QL dnext TW DP
set_option linter.unusedSimpArgs false
set_option linter.unusedVariables false
set_option maxRecDepth 100000

theorem Ev.andE {P : Program} {C : World → Prop} {f : Frm} {T T' T'' : TypeId} {x y : Operand} {k : IntKind} {a b c : Int} (h : andI k a b = c) (hx : f.ev x = .int k a) (hy : f.ev y = .int k b) : Ev P C f (.binOp .and T' x y T'') T (.int k c) := h ▸ Ev.and hx hy
structure Yst where
  i : Nat
  es : List DaA
  ar : Int
  hi : Int
def oldC (n s : Int) (f : Bool) : Dat := ⟨2, 1, n, s, 0, ⟨5, s, 1, 0, 0, 1, 1, f, 0, 0, 0, 0, []⟩⟩
set_option maxHeartbeats 4000000 in
theorem q18 (a : Option Addr) (c : Nat) (l : List Int) (kk : Int) (w : World) (hr : Rd w a (iv l)) (hm : l.length ≤ 17592186043904) :
    CallsTo Try.prog 18 [.agg [.slice a l.length c, .int .i64 kk].toArray] w fun v w' => ∃ bw bm es ar hi, v = .pointer (some ⟨bw, 0, none⟩) ∧ WOk (dats es) ∧ es.length ≤ 60 ∧ New1 (wO bw bm es ar hi) w w' := by
  refine go_in (n := 47) (St.rd1 hr) Try.func18 rfl rfl ?_
  repeat'(first|(apply kB;(iterate 2 exact rfl);intro b1)|(apply kp;iterate 2 exact rfl)|apply jJ|(apply jE;exact rfl)|(apply jp;exact rfl)|(apply jc;kernel_rfl)|((first|apply kf|apply kn|apply ke|apply kx|apply kc|apply kb);iterate 2 exact rfl)|((first|apply kz|apply ky);(·exact rfl);(·repeat(first|exact iO|exact iR rfl|apply iT));iterate 2 exact rfl)|(apply kg;iterate 2 exact rfl)|(apply kG;iterate 3 exact rfl)|(apply kB;(iterate 2 exact rfl);intro _)|(apply kA;exact rfl;intro _)|(apply Go.Hb.kK;(iterate 4 exact rfl);intro _)|(apply kU;(iterate 2 exact rfl);(·repeat(first|exact sH _ _ _|apply sT));(first|exact nfL_eq rfl|exact rfl);exact rfl)|((first|apply kh|apply kl);(iterate 2 exact rfl);(first|decide|omega);exact rfl)|(apply LR.call; (· exact rfl); (intro w1 h1; refine (t24 w1).mono ?_; rintro v w2 ⟨bw, bm, rfl, hn⟩; refine LR.back (h1.got hn (wO_dep _ _ _ _ _)) ?_; clear hn h1))|((first|(apply kR;iterate 2 exact rfl)|(apply kQ;exact rfl));all_goals(intro hc;try simp only[hcs]at hc;try(exfalso;first|contradiction|omega))))
  apply CW.loop [4, 5, 6, 8, 9, 10, 11, 12, 13, 14, 15, 16, 17, 18, 19, 20, 21, 22, 23, 24, 25, 26, 27, 28, 29, 30, 31, 32, 33, 34, 35, 36, 37, 38, 39, 40, 41, 42, 43, 44, 45] (fun s : Yst => s.i ≤ l.length ∧ s.i ≤ 60 ∧ WOk (dats s.es) ∧ IsAru (dats s.es) s.ar ∧ s.es.length ≤ s.i) (fun s => [(4, .int .i64 (s.i : Int))])
    (fun s => St w NoF [wO bw bm s.es s.ar s.hi, .own b1 (.cells [.slice a l.length c, .int .i64 kk].toArray 57 (0, 0)), rdA a (iv l)]) (fun s => l.length - s.i)
  · intro w' hw'
    exact ⟨⟨0, [], 0, 0⟩, ⟨by simp, by simp, WOk.nil, IsAru.nil, by simp⟩, ⟨rfl, trivial⟩, hw'⟩
  rintro ⟨i, es, ar, hi⟩ g1 ⟨hil, hi60, hok, har, hel⟩
  simp only at hil hi60 hok har hel ⊢
  by_cases hlt : i < l.length ∧ i < 60
  · have hlt0 := hlt.1
    obtain ⟨bg, og, rfl⟩ := hr.form (fun e => by have h2 := congrArg List.length e; simp only [iv_length, List.length_nil] at h2; omega)
    obtain ⟨x, hx⟩ : ∃ x, andI .i64 l[i] 65535 = x := ⟨_, rfl⟩
    have hxb := and_bd l[i] 65535 (by omega)
    rw [show ((65535 : Nat) : Int) = 65535 from rfl, hx] at hxb
    have h30 := tmod_bdT x 30 (by omega)
    have h30' : 0 ≤ x.tmod 30 := Int.tmod_nonneg _ hxb.1
    obtain ⟨y, hy⟩ : ∃ y, andI .i64 (x.fdiv (2 ^ (min (6 : Int).toNat IntKind.i64.bits))) 3 = y := ⟨_, rfl⟩
    have hyb := and_bd (x.fdiv (2 ^ (min (6 : Int).toNat IntKind.i64.bits))) 3 (by omega)
    rw [show ((3 : Nat) : Int) = 3 from rfl, hy] at hyb
    obtain ⟨z, hz⟩ : ∃ z, andI .i64 (x.fdiv (2 ^ (min (8 : Int).toNat IntKind.i64.bits))) 3 = z := ⟨_, rfl⟩
    obtain ⟨u, hu⟩ : ∃ u, andI .i64 (x.fdiv (2 ^ (min (10 : Int).toNat IntKind.i64.bits))) 7 = u := ⟨_, rfl⟩
    repeat'(first|(apply LR.ev; (· first | exact Ev.andE hx rfl rfl | exact Ev.andE hy rfl rfl | exact Ev.andE hz rfl rfl | exact Ev.andE hu rfl rfl); (· exact rfl))|(apply kp;iterate 2 exact rfl)|apply jJ|(apply jE;exact rfl)|(apply jp;exact rfl)|(apply jc;kernel_rfl)|((first|apply kf|apply kn|apply ke|apply kx|apply kc|apply kb);iterate 2 exact rfl)|((first|apply kz|apply ky);(·exact rfl);(·repeat(first|exact iO|exact iR rfl|apply iT));iterate 2 exact rfl)|(apply kg;iterate 2 exact rfl)|(apply kG;iterate 3 exact rfl)|(apply kB;(iterate 2 exact rfl);intro _)|(apply kA;exact rfl;intro _)|(apply Go.Hb.kK;(iterate 4 exact rfl);intro _)|(apply kU;(iterate 2 exact rfl);(·repeat(first|exact sH _ _ _|apply sT));(first|exact nfL_eq rfl|exact rfl);exact rfl)|((first|apply kh|apply kl);(iterate 2 exact rfl);(first|decide|omega);exact rfl)|(apply idxX;(iterate 2 exact rfl);(iterate 2(first|omega|(dsimp only;omega)));exact rfl)|(apply LR.ev; (· apply Ev.load_rd; (· exact rfl); (· repeat (first | exact mH _ _ | apply mT)); (· exact iv_at (i := i) (by simp) hlt0)); (· exact rfl))|(apply LR.ev; (· apply Ev.rem; (· exact rfl); (· exact rfl); (· first | decide | omega)); (· exact rfl))|(apply addX;(iterate 2 exact rfl);(iterate 2(first|omega|(dsimp only;omega)));exact rfl)|(apply kq; (· exact rfl); (· intro w1 h1; exact CallsTo.q (q28 _ _ _ w1) h1))|((first|(apply kR;iterate 2 exact rfl)|(apply kQ;exact rfl));all_goals(intro hc;try simp only[hcs]at hc;try(exfalso;first|contradiction|omega))))
    · apply LR.call
      · exact rfl
      intro w1 h1
      refine CallsTo.mono (show CallsTo Try.prog 12 [.pointer (some ⟨bw, 0, none⟩), (oldC (1 + x.tmod 30) (1 + y) (decide (z = 0))).val none 0] w1 _ from t29 bw bm es ar hi (oldC (1 + x.tmod 30) (1 + y) (decide (z = 0))) none 0 w1 (h1.holds _ (by (repeat (first | exact mH _ _ | apply mT)))) hok har (Rd.nil _ _) (fun _ => rfl) (fun k hk => by obtain ⟨_, _, e, _⟩ := hk; cases e) (Nat.zero_le _)) ?_
      rintro v w2 ⟨es', ar', rfl, he, haru, hst⟩
      refine LR.back (St.did h1 (by (repeat (first | exact sH _ _ _ | apply sT))) rfl hst (wO_dep _ _ _ _ _)) ?_
      clear hst h1
      have hl2 := wpD_len (dats es) (oldC (1 + x.tmod 30) (1 + y) (decide (z = 0)))
      rw [← he, dats_len, dats_len] at hl2
      repeat'(first|(apply kp;iterate 2 exact rfl)|apply jJ|(apply jE;exact rfl)|(apply jp;exact rfl)|(apply jc;kernel_rfl)|((first|apply kf|apply kn|apply ke|apply kx|apply kc|apply kb);iterate 2 exact rfl)|((first|apply kz|apply ky);(·exact rfl);(·repeat(first|exact iO|exact iR rfl|apply iT));iterate 2 exact rfl)|(apply kg;iterate 2 exact rfl)|(apply kG;iterate 3 exact rfl)|(apply kB;(iterate 2 exact rfl);intro _)|(apply kA;exact rfl;intro _)|(apply Go.Hb.kK;(iterate 4 exact rfl);intro _)|(apply kU;(iterate 2 exact rfl);(·repeat(first|exact sH _ _ _|apply sT));(first|exact nfL_eq rfl|exact rfl);exact rfl)|((first|apply kh|apply kl);(iterate 2 exact rfl);(first|decide|omega);exact rfl)|(apply addX;(iterate 2 exact rfl);(iterate 2(first|omega|(dsimp only;omega)));exact rfl)|((first|(apply kR;iterate 2 exact rfl)|(apply kQ;exact rfl));all_goals(intro hc;try simp only[hcs]at hc;try(exfalso;first|contradiction|omega))))
      refine At.again (⟨i + 1, es', ar', wpH (dats es) hi (oldC (1 + x.tmod 30) (1 + y) (decide (z = 0)))⟩ : Yst) ⟨by simp only; omega, by simp only; omega, by simp only; rw [he]; exact wpD_ok hok (Nat.zero_le _), by simp only; rw [he]; exact haru, by simp only; omega⟩ ?_ ⟨rfl, trivial⟩ (fun w' hw' => hw'.sub (by (repeat (first | exact List.Sublist.refl _ | apply List.Sublist.cons_cons | apply List.Sublist.cons)))) (by simp only; omega)
      (repeat (first | exact Out.refl _ _ | exact Out.mix | (apply Out.upd; (· exact rfl)) | (apply Out.updL; (· exact rfl)) | (apply Out.mixs; (· exact rfl))))
    · apply LR.call
      · exact rfl
      intro w1 h1
      refine CallsTo.mono (show CallsTo Try.prog 12 [.pointer (some ⟨bw, 0, none⟩), (oneC (1 + x.tmod 30) (1 + y) (decide (z = 0))).val none 0] w1 _ from t29 bw bm es ar hi (oneC (1 + x.tmod 30) (1 + y) (decide (z = 0))) none 0 w1 (h1.holds _ (by (repeat (first | exact mH _ _ | apply mT)))) hok har (Rd.nil _ _) (fun _ => rfl) (fun k hk => by obtain ⟨_, _, e, _⟩ := hk; cases e) (Nat.zero_le _)) ?_
      rintro v w2 ⟨es', ar', rfl, he, haru, hst⟩
      refine LR.back (St.did h1 (by (repeat (first | exact sH _ _ _ | apply sT))) rfl hst (wO_dep _ _ _ _ _)) ?_
      clear hst h1
      have hl2 := wpD_len (dats es) (oneC (1 + x.tmod 30) (1 + y) (decide (z = 0)))
      rw [← he, dats_len, dats_len] at hl2
      repeat'(first|(apply kp;iterate 2 exact rfl)|apply jJ|(apply jE;exact rfl)|(apply jp;exact rfl)|(apply jc;kernel_rfl)|((first|apply kf|apply kn|apply ke|apply kx|apply kc|apply kb);iterate 2 exact rfl)|((first|apply kz|apply ky);(·exact rfl);(·repeat(first|exact iO|exact iR rfl|apply iT));iterate 2 exact rfl)|(apply kg;iterate 2 exact rfl)|(apply kG;iterate 3 exact rfl)|(apply kB;(iterate 2 exact rfl);intro _)|(apply kA;exact rfl;intro _)|(apply Go.Hb.kK;(iterate 4 exact rfl);intro _)|(apply kU;(iterate 2 exact rfl);(·repeat(first|exact sH _ _ _|apply sT));(first|exact nfL_eq rfl|exact rfl);exact rfl)|((first|apply kh|apply kl);(iterate 2 exact rfl);(first|decide|omega);exact rfl)|(apply addX;(iterate 2 exact rfl);(iterate 2(first|omega|(dsimp only;omega)));exact rfl)|((first|(apply kR;iterate 2 exact rfl)|(apply kQ;exact rfl));all_goals(intro hc;try simp only[hcs]at hc;try(exfalso;first|contradiction|omega))))
      refine At.again (⟨i + 1, es', ar', wpH (dats es) hi (oneC (1 + x.tmod 30) (1 + y) (decide (z = 0)))⟩ : Yst) ⟨by simp only; omega, by simp only; omega, by simp only; rw [he]; exact wpD_ok hok (Nat.zero_le _), by simp only; rw [he]; exact haru, by simp only; omega⟩ ?_ ⟨rfl, trivial⟩ (fun w' hw' => hw'.sub (by (repeat (first | exact List.Sublist.refl _ | apply List.Sublist.cons_cons | apply List.Sublist.cons)))) (by simp only; omega)
      (repeat (first | exact Out.refl _ _ | exact Out.mix | (apply Out.upd; (· exact rfl)) | (apply Out.updL; (· exact rfl)) | (apply Out.mixs; (· exact rfl))))
  · repeat'(first|(apply kp;iterate 2 exact rfl)|apply jJ|(apply jE;exact rfl)|(apply jp;exact rfl)|(apply jc;kernel_rfl)|((first|apply kf|apply kn|apply ke|apply kx|apply kc|apply kb);iterate 2 exact rfl)|((first|apply kz|apply ky);(·exact rfl);(·repeat(first|exact iO|exact iR rfl|apply iT));iterate 2 exact rfl)|(apply kg;iterate 2 exact rfl)|(apply kG;iterate 3 exact rfl)|(apply kB;(iterate 2 exact rfl);intro _)|(apply kA;exact rfl;intro _)|(apply Go.Hb.kK;(iterate 4 exact rfl);intro _)|(apply kU;(iterate 2 exact rfl);(·repeat(first|exact sH _ _ _|apply sT));(first|exact nfL_eq rfl|exact rfl);exact rfl)|((first|apply kh|apply kl);(iterate 2 exact rfl);(first|decide|omega);exact rfl)|((first|(apply kR;iterate 2 exact rfl)|(apply kQ;exact rfl));all_goals(intro hc;try simp only[hcs]at hc;try(exfalso;first|contradiction|omega))))
    all_goals (
      (apply ret1; (· exact rfl); intro w' hS)
      exact ⟨bw, bm, es, ar, hi, rfl, hok, by omega, St.new1 (R := [.own b1 (.cells [.slice a l.length c, .int .i64 kk].toArray 57 (0, 0)), rdA a (iv l)]) hS rfl⟩)
end Go.Proofs.Ytkolmkdbjagfcaa

namespace Go.Proofs.Ytkolmkdbjagfcaa
open Go.Hb
attribute [local irreducible] LR CW At Ev thn blk finK noG again CallsTo DW QL dnext TW DP
set_option linter.unusedSimpArgs false
set_option linter.unusedVariables false
set_option maxRecDepth 100000

theorem fold_ok : ∀ (l D : List Dat), (∀ d ∈ l, d.msg.body.length ≤ 140737488351232) → WOk D → WOk (l.foldl wpD D)
  | [], _, _, h => h
  | d :: r, D, hl, h => fold_ok r _ (fun x hx => hl x (List.mem_cons_of_mem _ hx)) (wpD_ok h (hl d (List.mem_cons_self ..)))
theorem us_ok : WOk usL := by
  rw [← us_fold]
  refine fold_ok usL [] (fun d hd => ?_) WOk.nil
  have hh : usL.all (fun d => d.msg.body.isEmpty) = true := by decide
  have h1 : d.msg.body = [] := by simpa using List.all_eq_true.1 hh d hd
  rw [h1]
  exact Nat.zero_le _
theorem us_sqs : sqs usL = [1, 2, 3, 4, 6, 7] := by
  refine asc_extC (sqs_asc us_ok) (by decide) fun x => ?_
  rw [mem_sqs, has_iff]
  constructor
  · rintro ⟨d, hd, rfl⟩
    have hh : usL.all (fun d => decide (d.seq ∈ ([1, 2, 3, 4, 6, 7] : List Int))) = true := by decide
    simpa using List.all_eq_true.1 hh d hd
  · intro hx
    have hh : ([1, 2, 3, 4, 6, 7] : List Int).all (fun x => usL.any fun d => decide (d.seq = x)) = true := by decide
    have h1 := List.all_eq_true.1 hh x hx
    rw [List.any_eq_true] at h1
    obtain ⟨d, hd, he⟩ := h1
    exact ⟨d, hd, by simpa using he⟩
theorem eO_r {w : World} {a : Option Addr} {c : Nat} {o : List EvA} (h : (eO a c o).holds w) : Rd w a (o.flatMap EvA.row) := by
  have : (eS a c o).holds w := h.1
  exact ownsRow_rd this
theorem eO_b {w : World} {a : Option Addr} {c : Nat} {o : List EvA} (h : (eO a c o).holds w) {x : EvA} (hx : x ∈ o) : Rd w x.x.a (bv x.x.d.msg.body) := by
  have : (EvA.body x).holds w := h.2.1.1 x hx
  exact ownsRow_rd this
def awC : Cfg := ⟨5, 1, 2, 1, 6, true, 0⟩
theorem us_told : toldT usL endC.done endC.safe 6 (trC endC 6 nextC) (nxC nextC) = [msgE (oneC 2 2 true), msgE (oneC 3 3 false), cfgE awC, msgE (oneC 4 1 true), msgE (oneC 6 1 false), cfgE nextC] := by
  unfold toldT abvT abvS
  rw [us_sqs]
  rfl
theorem may_end : mayC endC 6 nextC = true := by decide
theorem lst6 {α : Type} {l : List α} (h : l.length = 6) : ∃ a b c d e f, l = [a, b, c, d, e, f] := by
  match l, h with
  | [a, b, c, d, e, f], _ => exact ⟨a, b, c, d, e, f, rfl⟩
set_option maxHeartbeats 4000000 in
theorem q17 (w : World) : CallsTo Try.prog 17 [] w fun v w' => v = .bool true ∧ Grew w w' := by
  refine go_in (n := 36) (St.refl _ NoF) Try.func17 rfl rfl ?_
  repeat'(first|(apply kp;iterate 2 exact rfl)|apply jJ|(apply jE;exact rfl)|(apply jp;exact rfl)|(apply jc;kernel_rfl)|((first|apply kf|apply kn|apply ke|apply kx|apply kc|apply kb);iterate 2 exact rfl)|((first|apply kz|apply ky);(·exact rfl);(·repeat(first|exact iO|exact iR rfl|apply iT));iterate 2 exact rfl)|(apply kg;iterate 2 exact rfl)|(apply kG;iterate 3 exact rfl)|(apply kB;(iterate 2 exact rfl);intro _)|(apply kA;exact rfl;intro _)|(apply Go.Hb.kK;(iterate 4 exact rfl);intro _)|(apply kU;(iterate 2 exact rfl);(·repeat(first|exact sH _ _ _|apply sT));(first|exact nfL_eq rfl|exact rfl);exact rfl)|((first|apply kh|apply kl);(iterate 2 exact rfl);(first|decide|omega);exact rfl)|(apply kq; (· exact rfl); (· intro w1 h1; first | exact CallsTo.q (q24 w1) h1 | exact CallsTo.q (q25 w1) h1))|(apply LR.call; (· exact rfl); (intro w1 h1; refine (q26 w1).mono ?_; rintro v w2 ⟨bw, bm, es, ar, hi, rfl, hes, hn⟩; refine LR.back (h1.got hn (wO_dep _ _ _ _ _)) ?_; clear hn h1))|((first|(apply kR;iterate 2 exact rfl)|(apply kQ;exact rfl));all_goals(intro hc;try simp only[hcs]at hc;try(exfalso;first|contradiction|omega))))
  have hok : WOk (dats es) := by rw [hes]; exact us_ok
  have hel : es.length = 6 := by have := congrArg List.length hes; rw [dats_len] at this; exact this
  apply LR.call
  · exact rfl
  intro w1 h1
  refine CallsTo.mono (show CallsTo Try.prog 14 [endC.val, .pointer (some ⟨bw, 0, none⟩), .int .i64 6, nextC.val] w1 _ from q14 bw bm es ar hi endC 6 nextC w1 (h1.holds _ (by (repeat (first | exact mH _ _ | apply mT)))) hok (by omega) ⟨by decide, by decide⟩ ⟨by decide, by decide⟩ ⟨by decide, by decide⟩ may_end) ?_
  rintro v w2 ⟨a1, c1, l, rfl, hl, _, hn⟩
  rw [hes, us_told] at hl
  have hlen : l.length = 6 := by have := congrArg List.length hl; rwa [List.length_map] at this
  obtain ⟨e0, e1, e2, e3, e4, e5, rfl⟩ := lst6 hlen
  clear hlen
  have hnum : ([e0, e1, e2, e3, e4, e5].map EvA.e).map numE = [2, 3, 0, 4, 6, -1] := by rw [hl]; rfl
  simp only [List.map_cons, List.map_nil, List.cons.injEq, and_true] at hl
  obtain ⟨_, _, hl2, _, _, hl5⟩ := hl
  have hc2 : e2.cfg = awC := congrArg EvD.cfg hl2
  have hc5 : e5.cfg = nextC := congrArg EvD.cfg hl5
  clear hl2 hl5
  obtain ⟨bg, og, rfl⟩ := (eO_r hn.holds).form (rows_ne EvA.row_len (by omega) (i := 0) (by simp))
  refine LR.back ((h1.got hn (eO_dep _ _ _)).part (osl.dep _ _ _ _ _) (bun_dep EvA.dep _)) ?_
  clear hn h1
  have hcel : ∀ w' k m (hk : k < [e0, e1, e2, e3, e4, e5].length), Rd w' (some ⟨bg, og, none⟩) ([e0, e1, e2, e3, e4, e5].flatMap EvA.row) → ∀ q, q = og + k * 26 + m → ∀ j v, ([e0, e1, e2, e3, e4, e5][k]'hk).row[m + j]? = some v → w'.cell? ((⟨bg, q, none⟩ : Addr).add j) = some v := fun w' k m hk h q hq j v hv => by
    have e : (⟨bg, q, none⟩ : Addr).add j = ⟨bg, q + j, none⟩ := by
      unfold Addr.add
      split
      · rename_i e0; subst e0; rfl
      · rfl
    rw [e]
    exact row_cell EvA.row_len h hk (m + j) hv (by omega)
  repeat'(first|(apply CW.reg_heldC)|(apply kp;iterate 2 exact rfl)|apply jJ|(apply jE;exact rfl)|(apply jp;exact rfl)|(apply jc;kernel_rfl)|((first|apply kf|apply kn|apply ke|apply kx|apply kc|apply kb);iterate 2 exact rfl)|((first|apply kz|apply ky);(·exact rfl);(·repeat(first|exact iO|exact iR rfl|apply iT));iterate 2 exact rfl)|(apply kg;iterate 2 exact rfl)|(apply kG;iterate 3 exact rfl)|(apply kB;(iterate 2 exact rfl);intro _)|(apply kA;exact rfl;intro _)|(apply Go.Hb.kK;(iterate 4 exact rfl);intro _)|(apply kU;(iterate 2 exact rfl);(·repeat(first|exact sH _ _ _|apply sT));(first|exact nfL_eq rfl|exact rfl);exact rfl)|((first|apply kh|apply kl);(iterate 2 exact rfl);(first|decide|omega);exact rfl)|((first|(apply kR;iterate 2 exact rfl)|(apply kQ;exact rfl));all_goals(intro hc;try simp only[hcs]at hc;try(exfalso;first|contradiction|omega))))
  all_goals (
    apply DW.quiet [0, 1, 2, 3]
    · decide +kernel
    · first | exact fun _ h => h | exact fun _ h => St.sub h (by repeat (first | exact List.Sublist.refl _ | apply List.Sublist.cons_cons | apply List.Sublist.cons))
    repeat'(first|(apply yp;iterate 3 exact rfl)|(apply QL.ev;(·exact rfl);(·first|((first|apply Ez|apply Ey);(·exact rfl);(·repeat(first|exact iO|exact iR rfl|apply iT));exact rfl)|((first|apply Ev.fieldAddr|apply Ev.len|apply EqOf.eq|apply EqOf.ne|apply Ev.conv|apply Ev.buildN);exact rfl)|((first|apply Ev.shr|apply Ev.shl);(iterate 2 exact rfl);first|decide|omega));·exact rfl)|(apply QL.ev; (· exact rfl); (· first | (apply Ev.indexAddr; (· exact rfl); (· exact rfl); (· omega); (· simp; done)) | (apply Ev.cfg_eq (c := awC); (· exact rfl); (· exact rfl)) | (apply Ev.cfg_eq (c := nextC); (· exact rfl); (· exact rfl)) | (apply Ev.load_agg_at (cs := awC.cells); (· exact rfl); (· exact rfl); (· intro w' hw' j v hv; exact hcel w' 2 1 (by simp) (hw'.rd_of_own (n := 6) (by (repeat (first | exact mH _ _ | apply mT)))) _ (by omega) j v (cfg_row (e := e2) (by rw [hc2]; exact hv)))) | (apply Ev.load_agg_at (cs := nextC.cells); (· exact rfl); (· exact rfl); (· intro w' hw' j v hv; exact hcel w' 5 1 (by simp) (hw'.rd_of_own (n := 6) (by (repeat (first | exact mH _ _ | apply mT)))) _ (by omega) j v (cfg_row (e := e5) (by rw [hc5]; exact hv))))); (· exact rfl))|(apply QL.evg; (· exact rfl); (· exact rfl); (· exact rfl); (· first | (apply Ev.indexAddr; (· exact rfl); (· exact rfl); (· omega); (· simp; done)) | (apply Ev.cfg_eq (c := awC); (· exact rfl); (· exact rfl)) | (apply Ev.cfg_eq (c := nextC); (· exact rfl); (· exact rfl)) | (apply Ev.load_agg_at (cs := awC.cells); (· exact rfl); (· exact rfl); (· intro w' hw' j v hv; exact hcel w' 2 1 (by simp) (hw'.rd_of_own (n := 6) (by (repeat (first | exact mH _ _ | apply mT)))) _ (by omega) j v (cfg_row (e := e2) (by rw [hc2]; exact hv)))) | (apply Ev.load_agg_at (cs := nextC.cells); (· exact rfl); (· exact rfl); (· intro w' hw' j v hv; exact hcel w' 5 1 (by simp) (hw'.rd_of_own (n := 6) (by (repeat (first | exact mH _ _ | apply mT)))) _ (by omega) j v (cfg_row (e := e5) (by rw [hc5]; exact hv))))); (· exact rfl))|(apply yq;iterate 5 exact rfl)|(apply QL.evg;(iterate 3 exact rfl);(·first|((first|apply Ez|apply Ey);(·exact rfl);(·repeat(first|exact iO|exact iR rfl|apply iT));exact rfl)|((first|apply Ev.fieldAddr|apply Ev.len|apply EqOf.eq|apply EqOf.ne|apply Ev.conv|apply Ev.buildN);exact rfl)|((first|apply Ev.shr|apply Ev.shl);(iterate 2 exact rfl);first|decide|omega));·exact rfl)|(apply yn;iterate 4 exact rfl)|((apply QL.split;iterate 3 exact rfl);all_goals(intro hc;try simp only[hcs]at hc;try(exfalso;first|contradiction|omega)))|apply QL.nil)
    all_goals (show DW _ _ _ _ _ _ _ _))
  apply DP.begin []
  refine DP.more (PI.lr 5 15 [(12, .bool true)] (fun b => .slice (some ⟨b, 0, none⟩) 6 6) (fun b => [.own b (.cells ([.int .i64 2, .int .i64 3, .int .i64 0, .int .i64 4, .int .i64 6, .int .i64 (-1)] : List Value).toArray 3 (0, 0))]) rfl (fun b x hx => by simp only [List.mem_singleton] at hx; subst hx; rfl) ?_) ?_
  · intro h w2
    apply kg
    · exact rfl
    · exact rfl
    apply kK
    · exact rfl
    · exact rfl
    · exact rfl
    · exact rfl
    intro b
    apply kM
    exact At.made rfl
  refine DP.go 4 [5] [15] [[12]] rfl rfl rfl rfl (by decide +kernel) ⟨⟨rfl, trivial⟩, fun _ _ _ => trivial, trivial⟩ (fun A w' hA => St.sub hA (by simp only [List.cons_append, List.nil_append]; repeat (first | exact List.nil_sublist _ | exact List.Sublist.refl _ | apply List.Sublist.cons_cons | apply List.Sublist.cons))) ?_
  intro gg A LA hLA
  simp only [List.cons_append, List.nil_append] at hLA
  subst hLA
  repeat'(first|(apply kg;iterate 2 exact rfl)|(apply kG;iterate 3 exact rfl)|apply kM|(apply kp;iterate 2 exact rfl)|((first|apply kz|apply ky);(·exact rfl);(·repeat(first|exact iO|exact iR rfl|apply iT));iterate 2 exact rfl)|(apply Go.Hb.kK;(iterate 4 exact rfl);intro _)|(apply kU;(iterate 2 exact rfl);(·repeat(first|exact sH _ _ _|apply sT));(first|exact nfL_eq rfl|exact rfl);exact rfl)|(apply kB;(iterate 2 exact rfl);intro _)|(apply kA;exact rfl;intro _)|(apply kq; (· exact rfl); (· intro w1 h1; first | exact CallsTo.q (q25 w1) h1 | exact CallsTo.q (t19 a2 (some ⟨bp15, 0, none⟩) c2 6 [2, 3, 0, 4, 6, -1] [2, 3, 0, 4, 6, -1] w1 (h1.rd_of_own (by (repeat (first | exact mH _ _ | apply mT)))) (h1.rd_of_blk (by (repeat (first | exact mH _ _ | apply mT)))) (by decide)) h1))|(apply LR.call; (· exact rfl); (intro w1 h1; have hq := q21 (some ⟨bg, og, none⟩) c1 [e0, e1, e2, e3, e4, e5] w1 (h1.rd_of_own (n := 6) (by (repeat (first | exact mH _ _ | apply mT)))) (by simp); rw [hnum] at hq; refine CallsTo.mono hq ?_; rintro v w2 ⟨a2, c2, rfl, hn⟩; refine LR.back (h1.newSl hn) ?_; clear hn h1 hq)))
  apply At.pdone (ds := [15]) rfl
  · repeat (first | exact MixR.base _ | (apply MixR.upd; case hd => exact rfl))
  · repeat (first | exact Tl.nil | apply Tl.cons)
  · exact (fun A w' hA => St.sub hA (by simp only [List.cons_append, List.nil_append]; repeat (first | exact List.nil_sublist _ | exact List.Sublist.refl _ | apply List.Sublist.cons_cons | apply List.Sublist.cons)))
  refine DP.take 5 15 (fun b => .slice (some ⟨b, 0, none⟩) 6 6) (fun b => [.own b (.cells ([.int .i64 2, .int .i64 3, .int .i64 0, .int .i64 4, .int .i64 6, .int .i64 (-1)] : List Value).toArray 3 (0, 0))]) [] [15] [[12]] rfl rfl rfl rfl rfl rfl rfl (by decide +kernel) ⟨⟨rfl, trivial⟩, fun _ _ _ => trivial, trivial⟩ (fun A w' hA => St.sub hA (by simp only [List.cons_append, List.nil_append]; repeat (first | exact List.nil_sublist _ | exact List.Sublist.refl _ | apply List.Sublist.cons_cons | apply List.Sublist.cons))) (fun bp15 => ?_)
  refine DP.nil ?_
  refine DW.castL (by simp only [List.cons_append, List.nil_append]; exact rfl) ?_
  all_goals (
    apply DW.loud 6
    · exact rfl
    · decide +kernel
    repeat'(first|(apply kg;iterate 2 exact rfl)|(apply kG;iterate 3 exact rfl)|apply kM|(apply kp;iterate 2 exact rfl)|((first|apply kz|apply ky);(·exact rfl);(·repeat(first|exact iO|exact iR rfl|apply iT));iterate 2 exact rfl)|(apply Go.Hb.kK;(iterate 4 exact rfl);intro _)|(apply kU;(iterate 2 exact rfl);(·repeat(first|exact sH _ _ _|apply sT));(first|exact nfL_eq rfl|exact rfl);exact rfl)|(apply kB;(iterate 2 exact rfl);intro _)|(apply kA;exact rfl;intro _)|(apply kq; (· exact rfl); (· intro w1 h1; first | exact CallsTo.q (q25 w1) h1 | exact CallsTo.q (t19 a2 (some ⟨bp15, 0, none⟩) c2 6 [2, 3, 0, 4, 6, -1] [2, 3, 0, 4, 6, -1] w1 (h1.rd_of_own (by (repeat (first | exact mH _ _ | apply mT)))) (h1.rd_of_blk (by (repeat (first | exact mH _ _ | apply mT)))) (by decide)) h1))|(apply LR.call; (· exact rfl); (intro w1 h1; have hq := q21 (some ⟨bg, og, none⟩) c1 [e0, e1, e2, e3, e4, e5] w1 (h1.rd_of_own (n := 6) (by (repeat (first | exact mH _ _ | apply mT)))) (by simp); rw [hnum] at hq; refine CallsTo.mono hq ?_; rintro v w2 ⟨a2, c2, rfl, hn⟩; refine LR.back (h1.newSl hn) ?_; clear hn h1 hq)))
    all_goals (refine At.stage_same (fun _ h => St.sub h (by repeat (first | exact List.Sublist.refl _ | apply List.Sublist.cons_cons | apply List.Sublist.cons))) ?_))
  all_goals (
    apply DW.quiet [7, 8, 9, 10, 11, 12, 13, 14, 15, 16, 17, 18, 19, 20, 21, 22]
    · decide +kernel
    · first | exact fun _ h => h | exact fun _ h => St.sub h (by repeat (first | exact List.Sublist.refl _ | apply List.Sublist.cons_cons | apply List.Sublist.cons))
    repeat'(first|(apply yp;iterate 3 exact rfl)|(apply QL.ev;(·exact rfl);(·first|((first|apply Ez|apply Ey);(·exact rfl);(·repeat(first|exact iO|exact iR rfl|apply iT));exact rfl)|((first|apply Ev.fieldAddr|apply Ev.len|apply EqOf.eq|apply EqOf.ne|apply Ev.conv|apply Ev.buildN);exact rfl)|((first|apply Ev.shr|apply Ev.shl);(iterate 2 exact rfl);first|decide|omega));·exact rfl)|(apply QL.ev; (· exact rfl); (· first | (apply Ev.indexAddr; (· exact rfl); (· exact rfl); (· omega); (· simp; done)) | (apply Ev.cfg_eq (c := awC); (· exact rfl); (· exact rfl)) | (apply Ev.cfg_eq (c := nextC); (· exact rfl); (· exact rfl)) | (apply Ev.load_agg_at (cs := awC.cells); (· exact rfl); (· exact rfl); (· intro w' hw' j v hv; exact hcel w' 2 1 (by simp) (hw'.rd_of_own (n := 6) (by (repeat (first | exact mH _ _ | apply mT)))) _ (by omega) j v (cfg_row (e := e2) (by rw [hc2]; exact hv)))) | (apply Ev.load_agg_at (cs := nextC.cells); (· exact rfl); (· exact rfl); (· intro w' hw' j v hv; exact hcel w' 5 1 (by simp) (hw'.rd_of_own (n := 6) (by (repeat (first | exact mH _ _ | apply mT)))) _ (by omega) j v (cfg_row (e := e5) (by rw [hc5]; exact hv))))); (· exact rfl))|(apply QL.evg; (· exact rfl); (· exact rfl); (· exact rfl); (· first | (apply Ev.indexAddr; (· exact rfl); (· exact rfl); (· omega); (· simp; done)) | (apply Ev.cfg_eq (c := awC); (· exact rfl); (· exact rfl)) | (apply Ev.cfg_eq (c := nextC); (· exact rfl); (· exact rfl)) | (apply Ev.load_agg_at (cs := awC.cells); (· exact rfl); (· exact rfl); (· intro w' hw' j v hv; exact hcel w' 2 1 (by simp) (hw'.rd_of_own (n := 6) (by (repeat (first | exact mH _ _ | apply mT)))) _ (by omega) j v (cfg_row (e := e2) (by rw [hc2]; exact hv)))) | (apply Ev.load_agg_at (cs := nextC.cells); (· exact rfl); (· exact rfl); (· intro w' hw' j v hv; exact hcel w' 5 1 (by simp) (hw'.rd_of_own (n := 6) (by (repeat (first | exact mH _ _ | apply mT)))) _ (by omega) j v (cfg_row (e := e5) (by rw [hc5]; exact hv))))); (· exact rfl))|(apply yq;iterate 5 exact rfl)|(apply QL.evg;(iterate 3 exact rfl);(·first|((first|apply Ez|apply Ey);(·exact rfl);(·repeat(first|exact iO|exact iR rfl|apply iT));exact rfl)|((first|apply Ev.fieldAddr|apply Ev.len|apply EqOf.eq|apply EqOf.ne|apply Ev.conv|apply Ev.buildN);exact rfl)|((first|apply Ev.shr|apply Ev.shl);(iterate 2 exact rfl);first|decide|omega));·exact rfl)|(apply yn;iterate 4 exact rfl)|((apply QL.split;iterate 3 exact rfl);all_goals(intro hc;try simp only[hcs]at hc;try(exfalso;first|contradiction|omega)))|apply QL.nil)
    all_goals (show DW _ _ _ _ _ _ _ _))
  all_goals (
    apply DW.loud 23
    · exact rfl
    · decide +kernel
    repeat'(first|(apply kg;iterate 2 exact rfl)|(apply kG;iterate 3 exact rfl)|apply kM|(apply kp;iterate 2 exact rfl)|((first|apply kz|apply ky);(·exact rfl);(·repeat(first|exact iO|exact iR rfl|apply iT));iterate 2 exact rfl)|(apply Go.Hb.kK;(iterate 4 exact rfl);intro _)|(apply kU;(iterate 2 exact rfl);(·repeat(first|exact sH _ _ _|apply sT));(first|exact nfL_eq rfl|exact rfl);exact rfl)|(apply kB;(iterate 2 exact rfl);intro _)|(apply kA;exact rfl;intro _)|(apply kq; (· exact rfl); (· intro w1 h1; first | exact CallsTo.q (q25 w1) h1 | exact CallsTo.q (t19 a2 (some ⟨bp15, 0, none⟩) c2 6 [2, 3, 0, 4, 6, -1] [2, 3, 0, 4, 6, -1] w1 (h1.rd_of_own (by (repeat (first | exact mH _ _ | apply mT)))) (h1.rd_of_blk (by (repeat (first | exact mH _ _ | apply mT)))) (by decide)) h1))|(apply LR.call; (· exact rfl); (intro w1 h1; have hq := q21 (some ⟨bg, og, none⟩) c1 [e0, e1, e2, e3, e4, e5] w1 (h1.rd_of_own (n := 6) (by (repeat (first | exact mH _ _ | apply mT)))) (by simp); rw [hnum] at hq; refine CallsTo.mono hq ?_; rintro v w2 ⟨a2, c2, rfl, hn⟩; refine LR.back (h1.newSl hn) ?_; clear hn h1 hq)))
    all_goals (refine At.stage_same (fun _ h => St.sub h (by repeat (first | exact List.Sublist.refl _ | apply List.Sublist.cons_cons | apply List.Sublist.cons))) ?_))
  all_goals (
    apply DW.quiet [24, 25, 26]
    · decide +kernel
    · first | exact fun _ h => h | exact fun _ h => St.sub h (by repeat (first | exact List.Sublist.refl _ | apply List.Sublist.cons_cons | apply List.Sublist.cons))
    repeat'(first|(apply yp;iterate 3 exact rfl)|(apply QL.ev;(·exact rfl);(·first|((first|apply Ez|apply Ey);(·exact rfl);(·repeat(first|exact iO|exact iR rfl|apply iT));exact rfl)|((first|apply Ev.fieldAddr|apply Ev.len|apply EqOf.eq|apply EqOf.ne|apply Ev.conv|apply Ev.buildN);exact rfl)|((first|apply Ev.shr|apply Ev.shl);(iterate 2 exact rfl);first|decide|omega));·exact rfl)|(apply QL.ev; (· exact rfl); (· first | (apply Ev.indexAddr; (· exact rfl); (· exact rfl); (· omega); (· simp; done)) | (apply Ev.cfg_eq (c := awC); (· exact rfl); (· exact rfl)) | (apply Ev.cfg_eq (c := nextC); (· exact rfl); (· exact rfl)) | (apply Ev.load_agg_at (cs := awC.cells); (· exact rfl); (· exact rfl); (· intro w' hw' j v hv; exact hcel w' 2 1 (by simp) (hw'.rd_of_own (n := 6) (by (repeat (first | exact mH _ _ | apply mT)))) _ (by omega) j v (cfg_row (e := e2) (by rw [hc2]; exact hv)))) | (apply Ev.load_agg_at (cs := nextC.cells); (· exact rfl); (· exact rfl); (· intro w' hw' j v hv; exact hcel w' 5 1 (by simp) (hw'.rd_of_own (n := 6) (by (repeat (first | exact mH _ _ | apply mT)))) _ (by omega) j v (cfg_row (e := e5) (by rw [hc5]; exact hv))))); (· exact rfl))|(apply QL.evg; (· exact rfl); (· exact rfl); (· exact rfl); (· first | (apply Ev.indexAddr; (· exact rfl); (· exact rfl); (· omega); (· simp; done)) | (apply Ev.cfg_eq (c := awC); (· exact rfl); (· exact rfl)) | (apply Ev.cfg_eq (c := nextC); (· exact rfl); (· exact rfl)) | (apply Ev.load_agg_at (cs := awC.cells); (· exact rfl); (· exact rfl); (· intro w' hw' j v hv; exact hcel w' 2 1 (by simp) (hw'.rd_of_own (n := 6) (by (repeat (first | exact mH _ _ | apply mT)))) _ (by omega) j v (cfg_row (e := e2) (by rw [hc2]; exact hv)))) | (apply Ev.load_agg_at (cs := nextC.cells); (· exact rfl); (· exact rfl); (· intro w' hw' j v hv; exact hcel w' 5 1 (by simp) (hw'.rd_of_own (n := 6) (by (repeat (first | exact mH _ _ | apply mT)))) _ (by omega) j v (cfg_row (e := e5) (by rw [hc5]; exact hv))))); (· exact rfl))|(apply yq;iterate 5 exact rfl)|(apply QL.evg;(iterate 3 exact rfl);(·first|((first|apply Ez|apply Ey);(·exact rfl);(·repeat(first|exact iO|exact iR rfl|apply iT));exact rfl)|((first|apply Ev.fieldAddr|apply Ev.len|apply EqOf.eq|apply EqOf.ne|apply Ev.conv|apply Ev.buildN);exact rfl)|((first|apply Ev.shr|apply Ev.shl);(iterate 2 exact rfl);first|decide|omega));·exact rfl)|(apply yn;iterate 4 exact rfl)|((apply QL.split;iterate 3 exact rfl);all_goals(intro hc;try simp only[hcs]at hc;try(exfalso;first|contradiction|omega)))|apply QL.nil)
    all_goals (show DW _ _ _ _ _ _ _ _))
  all_goals (first | (apply DW.done_thn; (· decide +kernel)) | (apply DW.done; (· decide +kernel)))
  repeat'(first|(apply kp;iterate 2 exact rfl)|apply jJ|(apply jE;exact rfl)|(apply jp;exact rfl)|(apply jc;kernel_rfl)|((first|apply kf|apply kn|apply ke|apply kx|apply kc|apply kb);iterate 2 exact rfl)|((first|apply kz|apply ky);(·exact rfl);(·repeat(first|exact iO|exact iR rfl|apply iT));iterate 2 exact rfl)|(apply kg;iterate 2 exact rfl)|(apply kG;iterate 3 exact rfl)|(apply kB;(iterate 2 exact rfl);intro _)|(apply kA;exact rfl;intro _)|(apply Go.Hb.kK;(iterate 4 exact rfl);intro _)|(apply kU;(iterate 2 exact rfl);(·repeat(first|exact sH _ _ _|apply sT));(first|exact nfL_eq rfl|exact rfl);exact rfl)|((first|apply kh|apply kl);(iterate 2 exact rfl);(first|decide|omega);exact rfl)|((first|(apply kR;iterate 2 exact rfl)|(apply kQ;exact rfl));all_goals(intro hc;try simp only[hcs]at hc;try(exfalso;first|contradiction|omega))))
  (apply ret1; (· exact rfl); intro w' hS)
  exact ⟨rfl, hS.toKeep⟩
end Go.Proofs.Ytkolmkdbjagfcaa

namespace Go.Proofs.Ytkolmkdbjagfcaa
open Go.Hb
set_option linter.unusedSimpArgs false
set_option linter.unusedVariables false
set_option maxRecDepth 100000

theorem ints_of : ∀ (css : List (List Value)), (∀ c ∈ css, ∃ n : Int, c = [.int .i64 n] ∧ i64 n) → ∃ l : List Int, css.flatten = iv l ∧ l.length = css.length ∧ ∀ x ∈ l, i64 x
  | [], _ => ⟨[], rfl, rfl, fun p hp => by simp at hp⟩
  | c :: r, h => by
    obtain ⟨n, rfl, hp⟩ := h c List.mem_cons_self
    obtain ⟨l, h1, h2, h3⟩ := ints_of r fun c hc => h c (List.mem_cons_of_mem _ hc)
    refine ⟨n :: l, by rw [List.flatten_cons, h1]; rfl, by simp [h2], fun q hq => ?_⟩
    rcases List.mem_cons.1 hq with rfl | hq
    · exact hp
    · exact h3 q hq
theorem opn_ints : Opn Try.prog 55 (fun w cs => ∃ (a : Option Addr) (c : Nat) (l : List Int), cs = [.slice a l.length c] ∧ Rd w a (iv l) ∧ (∀ x ∈ l, i64 x) ∧ (a = none → c = 0) ∧ l.length ≤ c ∧ l.length ≤ 17592186043904) := by
  refine (opn_slice Try.underlying55 (sz := 1) (by_ := 8) (by kernel_rfl) (by omega) (by kernel_rfl) opn_i64).mono ?_
  rintro w cs ⟨a, len, cap, css, rfl, rfl, hg, hr, hz, hc, hm⟩
  obtain ⟨l, h1, h2, h3⟩ := ints_of css fun c hc => (hg c hc).1
  rw [h1] at hr
  have hm : css.length * 8 ≤ 140737488351232 := hm
  exact ⟨a, cap, l, by rw [h2], hr, h3, hz, by omega, by omega⟩
def TkI (t : Tk) : Prop := i64 t.r1 ∧ i64 t.r2 ∧ i64 t.hop ∧ i64 t.seq ∧ i64 t.aru ∧ i64 t.low ∧ i64 t.stamp ∧ i64 t.idle ∧ ∀ x ∈ t.ask, i64 x
theorem opn_tok : Opn Try.prog 72 (fun w cs => ∃ (t : Tk) (a : Option Addr) (c : Nat), cs = t.cells a c ∧ Rd w a (iv t.ask) ∧ TkI t ∧ (a = none → c = 0) ∧ t.ask.length ≤ c ∧ t.ask.length ≤ 17592186043904) := by
  refine (opn_struct Try.underlying72).mono fun w cs ⟨hl, h⟩ => ?_
  have hl : cs.length = 9 := hl
  match cs, hl with
  | [y0, y1, y2, y3, y4, y5, y6, y7, y8], hl =>
    obtain ⟨x0, x1, h0, g0, g1⟩ := h 0 _ rfl _ opn_ring
    obtain ⟨x2, h2, g2⟩ := h 1 _ rfl _ opn_i64
    obtain ⟨x3, h3, g3⟩ := h 2 _ rfl _ opn_i64
    obtain ⟨x4, h4, g4⟩ := h 3 _ rfl _ opn_i64
    obtain ⟨x5, h5, g5⟩ := h 4 _ rfl _ opn_i64
    obtain ⟨x6, h6, g6⟩ := h 5 _ rfl _ opn_i64
    obtain ⟨x7, h7, g7⟩ := h 6 _ rfl _ opn_i64
    obtain ⟨a, c, l, h8, hr, hb, hz, hc, hm⟩ := h 7 _ rfl _ opn_ints
    have k0 : [y0, y1] = [Value.int .i64 x0, .int .i64 x1] := h0
    have k2 : [y2] = [Value.int .i64 x2] := h2
    have k3 : [y3] = [Value.int .i64 x3] := h3
    have k4 : [y4] = [Value.int .i64 x4] := h4
    have k5 : [y5] = [Value.int .i64 x5] := h5
    have k6 : [y6] = [Value.int .i64 x6] := h6
    have k7 : [y7] = [Value.int .i64 x7] := h7
    have k8 : [y8] = [Value.slice a l.length c] := h8
    simp only [List.cons.injEq, and_true] at k0 k2 k3 k4 k5 k6 k7 k8
    exact ⟨⟨x0, x1, x2, x3, x4, x5, x6, x7, l⟩, a, c, by rw [k0.1, k0.2, k2, k3, k4, k5, k6, k7, k8]; rfl, hr, ⟨g0, g1, g2, g3, g4, g5, g6, g7, hb⟩, hz, hc, hm⟩
structure Vst where
  node : Int
  aru : Int
  gaps : List Int
def Vst.cells (v : Vst) (a : Option Addr) (c : Nat) : List Value := [.int .i64 v.node, .int .i64 v.aru, .slice a v.gaps.length c]
def Vst.val (v : Vst) (a : Option Addr) (c : Nat) : Value := .agg (v.cells a c).toArray
def VstI (v : Vst) : Prop := i64 v.node ∧ i64 v.aru ∧ ∀ x ∈ v.gaps, i64 x
end Go.Proofs.Ytkolmkdbjagfcaa

namespace Go.Proofs.Ytkolmkdbjagfcaa
open Go.Hb Go.ChangeShapes Go.WideShapes
set_option linter.unusedSimpArgs false
set_option linter.unusedVariables false
set_option maxRecDepth 100000

structure WdA where
  see : Bool
  n : Int
  x : DaA
def WdA.row (x : WdA) : List Value := .bool x.see :: .int .i64 x.n :: x.x.row
theorem WdA.row_len (x : WdA) : x.row.length = 20 := rfl
structure WdR (w : World) (x : WdA) : Prop where
  hr : Rd w x.x.a (bv x.x.d.msg.body)
  hz : x.x.a = none → x.x.c = 0
  hm : x.x.d.msg.body.length ≤ 140737488351232
  hi : i64 x.n
structure Wn (i : Nat) (es : List DaA) (ar hi : Int) : Prop where
  ok : WOk (dats es)
  aru : IsAru (dats es) ar
  up : ∀ s, hasD (dats es) s = true → s ≤ hi
  hi0 : 0 ≤ hi
  him : hi ≤ 9007199254740991
  len : es.length ≤ i
theorem Wn.nil : Wn 0 [] 0 0 := ⟨WOk.nil, IsAru.nil, fun s h => (by cases h), by omega, by omega, by simp⟩
theorem Wn.ar_hi {i : Nat} {es : List DaA} {ar hi : Int} (h : Wn i es ar hi) : ar ≤ hi := by
  rcases Int.lt_or_le 0 ar with h0 | h0
  · exact h.up _ (h.aru.1.2 ar (by omega) (by omega))
  · have := h.hi0; omega
theorem Wn.see {i : Nat} {es : List DaA} {ar hi : Int} (h : Wn i es ar hi) (s : Int) : Wn (i + 1) es ar (seeH hi s) := by
  have h1 := h.hi0
  have h2 := h.him
  have h3 := h.len
  unfold seeH
  split
  · exact ⟨h.ok, h.aru, h.up, h1, h2, by omega⟩
  · exact ⟨h.ok, h.aru, fun x hx => by have := h.up x hx; omega, by omega, by omega, by omega⟩
theorem Wn.put {i : Nat} {es es' : List DaA} {ar ar' hi : Int} {d : Dat} (h : Wn i es ar hi) (hl : d.msg.body.length ≤ 140737488351232) (he : dats es' = wpD (dats es) d) (ha : IsAru (wpD (dats es) d) ar') : Wn (i + 1) es' ar' (wpH (dats es) hi d) := by
  have h1 := h.hi0
  have h2 := h.him
  have h3 := h.len
  refine ⟨by rw [he]; exact wpD_ok h.ok hl, by rw [he]; exact ha, fun s hs => ?_, ?_, ?_, ?_⟩
  · rw [he, has_wpD, Bool.or_eq_true, Bool.and_eq_true, decide_eq_true_eq] at hs
    unfold wpH
    rcases hs with hs | ⟨hk, rfl⟩
    · have := h.up s hs
      split <;> omega
    · cases hh : hasD (dats es) d.seq with
      | true =>
        have := h.up _ hh
        split <;> omega
      | false =>
        have hn : wpNew (dats es) d = true := by unfold wpNew; rw [hk, hh]; rfl
        rw [hn]
        simp only [if_true]
        omega
  · unfold wpH
    split <;> omega
  · unfold wpH
    split
    · rename_i hn
      unfold wpNew wpOk at hn
      simp only [Bool.and_eq_true, decide_eq_true_eq] at hn
      have := hn.1.2.2
      omega
    · omega
  · have h5 := congrArg List.length he
    have h6 := wpD_len (dats es) d
    rw [dats_len] at h5 h6
    omega
def DaA.put (x : DaA) (bs : List Int) : DaA := ⟨{ x.d with msg := { x.d.msg with body := bs } }, x.a, x.c⟩
theorem DaA.put_row {x : DaA} {bs : List Int} (h : bs.length = x.d.msg.body.length) : (x.put bs).row = x.row := by
  show Dat.cells _ _ _ = Dat.cells _ _ _
  unfold Dat.cells Msg.cells DaA.put
  simp only [h]
theorem dS_put (a : Option Addr) (c : Nat) {o : List DaA} {k : Nat} (hk : k < o.length) {bs : List Int} (h : bs.length = o[k].d.msg.body.length) : dS a c (o.set k (o[k].put bs)) = dS a c o := by
  have e : (o.set k (o[k].put bs)).flatMap DaA.row = o.flatMap DaA.row := by
    rw [List.flatMap_def, List.flatMap_def, List.map_set, DaA.put_row h]
    congr 1
    have : o[k].row = (o.map DaA.row)[k]'(by simpa using hk) := by simp
    rw [this, List.set_getElem_self]
  unfold dS
  rw [e, List.length_set]
theorem take_drop_atW {α : Type} {l : List α} {k : Nat} (hk : k < l.length) : l = l.take k ++ l[k] :: l.drop (k + 1) := by
  rw [← List.drop_eq_getElem_cons hk, List.take_append_drop]
theorem bun_openW {α : Type} {f : α → Asrt} {w0 w : World} {F : Nat → Prop} {R : List Asrt} {l : List α} {k : Nat} (hd : ∀ x, (f x).dep) (hk : k < l.length) (h : St w0 F (bun f l :: R) w) : St w0 F (f l[k] :: bun f (l.take k ++ l.drop (k + 1)) :: R) w :=
  St.bun_pick hd (h.cast (congrArg (fun z => bun f z :: R) (take_drop_atW hk)))
theorem bun_shutW {α : Type} {f : α → Asrt} {w0 w : World} {F : Nat → Prop} {R : List Asrt} {l : List α} {k : Nat} {x : α} (hd : ∀ x, (f x).dep) (he : ∀ x, (f x).excl = true) (hk : k < l.length) (h : St w0 F (f x :: bun f (l.take k ++ l.drop (k + 1)) :: R) w) : St w0 F (bun f (l.set k x) :: R) w := by
  rw [List.set_eq_take_append_cons_drop, if_pos hk]
  exact St.bun_put hd he h
end Go.Proofs.Ytkolmkdbjagfcaa

namespace Go.Proofs.Ytkolmkdbjagfcaa
open Go.Hb Go.ChangeShapes Go.WideShapes
attribute [local irreducible] LR CW At Ev thn blk finK noG again CallsTo DW QL dnext TW DP
set_option linter.unusedSimpArgs false
set_option linter.unusedVariables false
set_option maxRecDepth 100000

structure DaR (w : World) (x : DaA) : Prop where
  hr : Rd w x.a (bv x.d.msg.body)
  hz : x.a = none → x.c = 0
  hm : x.d.msg.body.length ≤ 140737488351232
theorem opn_daa : Opn Try.prog 44 (fun w cs => ∃ x : DaA, cs = x.row ∧ DaR w x) :=
  opn_dat.mono fun w cs ⟨d, a, c, h, hr, _, hz, hm, _⟩ => ⟨⟨d, a, c⟩, h, hr, hz, hm⟩
theorem opn_datas : Opn Try.prog 28 (fun w cs => ∃ (a : Option Addr) (c : Nat) (l : List DaA), cs = [.slice a l.length c] ∧ Rd w a (l.flatMap DaA.row) ∧ (∀ x ∈ l, DaR w x) ∧ (a = none → c = 0) ∧ l.length ≤ c ∧ l.length ≤ 140737488351232) := by
  refine (opn_slice Try.underlying28 (sz := 18) (by_ := 160) (by kernel_rfl) (by omega) (by kernel_rfl) opn_daa).mono ?_
  rintro w cs ⟨a, len, cap, css, rfl, rfl, hg, hr, hz, hc, hm⟩
  obtain ⟨l, h1, h2, h3⟩ := rows_of css fun c hc => (hg c hc).1
  rw [h1] at hr
  have hm : css.length * 160 ≤ 140737488351232 := hm
  exact ⟨a, cap, l, by rw [h2], hr, h3, hz, by omega, by omega⟩
theorem inI_of {x : Int} (h : i64 x) : inI x := by
  unfold i64 at h
  unfold inI
  omega
theorem opn_cfg : Opn Try.prog 25 (fun _ cs => ∃ g : Cfg, cs = g.cells ∧ inI g.mem) := by
  refine (opn_struct Try.underlying25).mono fun w cs ⟨hl, h⟩ => ?_
  have hl : cs.length = 7 := hl
  match cs, hl with
  | [y0, y1, y2, y3, y4, y5, y6], _ =>
    obtain ⟨x0, x1, h0, _, _⟩ := h 0 _ rfl _ opn_ring
    obtain ⟨x2, x3, h1, _, _⟩ := h 1 _ rfl _ opn_ring
    obtain ⟨x4, h2, g2⟩ := h 2 _ rfl _ opn_i64
    obtain ⟨x5, h3⟩ := h 3 _ rfl _ opn_bool4
    obtain ⟨x6, h4, _⟩ := h 4 _ rfl _ opn_i64
    have h0 : [y0, y1] = [Value.int .i64 x0, .int .i64 x1] := h0
    have h1 : [y2, y3] = [Value.int .i64 x2, .int .i64 x3] := h1
    have h2 : [y4] = [Value.int .i64 x4] := h2
    have h3 : [y5] = [Value.bool x5] := h3
    have h4 : [y6] = [Value.int .i64 x6] := h4
    simp only [List.cons.injEq, and_true] at h0 h1 h2 h3 h4
    exact ⟨⟨x0, x1, x2, x3, x4, x5, x6⟩, by rw [h0.1, h0.2, h1.1, h1.2, h2, h3, h4]; rfl, inI_of g2⟩
theorem opn_old : Opn Try.prog 27 (fun _ cs => ∃ o : OldC, cs = o.cells ∧ inI o.cfg.mem ∧ inI o.done) := by
  refine (opn_struct Try.underlying27).mono fun w cs ⟨hl, h⟩ => ?_
  have hl : cs.length = 9 := hl
  match cs, hl with
  | [y0, y1, y2, y3, y4, y5, y6, y7, y8], _ =>
    obtain ⟨g, h0, g0⟩ := h 0 _ rfl _ opn_cfg
    obtain ⟨x1, h1, g1⟩ := h 1 _ rfl _ opn_i64
    obtain ⟨x2, h2, _⟩ := h 2 _ rfl _ opn_i64
    have h0 : [y0, y1, y2, y3, y4, y5, y6] = g.cells := h0
    have h1 : [y7] = [Value.int .i64 x1] := h1
    have h2 : [y8] = [Value.int .i64 x2] := h2
    simp only [List.cons.injEq, and_true] at h1 h2
    refine ⟨⟨g, x1, x2⟩, ?_, g0, inI_of g1⟩
    show [y0, y1, y2, y3, y4, y5, y6] ++ [y7, y8] = _
    rw [h0, h1, h2]
    rfl
theorem opn_next : Opn Try.prog 30 (fun _ cs => ∃ (k : Int) (g : Cfg), cs = .int .i64 k :: g.cells ∧ inI k ∧ inI g.mem) := by
  refine (opn_struct Try.underlying30).mono fun w cs ⟨hl, h⟩ => ?_
  have hl : cs.length = 8 := hl
  match cs, hl with
  | [y0, y1, y2, y3, y4, y5, y6, y7], _ =>
    obtain ⟨x0, h0, g0⟩ := h 0 _ rfl _ opn_i64
    obtain ⟨g, h1, g1⟩ := h 1 _ rfl _ opn_cfg
    have h0 : [y0] = [Value.int .i64 x0] := h0
    have h1 : [y1, y2, y3, y4, y5, y6, y7] = g.cells := h1
    simp only [List.cons.injEq, and_true] at h0
    exact ⟨x0, g, by rw [h0, h1], inI_of g0, g1⟩
/-! ### plain -/
theorem prog_mem {safe kin : Int} {t : EvD} : ∀ {L : List Dat} {at_ : Int} {p g : Bool} {e : EvD}, e ∈ progT safe kin t at_ p g L → e = t ∨ ∃ d ∈ L, e = msgE d
  | [], at_, p, g, e, h => by
    unfold progT at h
    split at h
    · cases h
    · exact .inl (List.mem_singleton.1 h)
  | d :: r, at_, p, g, e, h => by
    unfold progT at h
    rcases List.mem_append.1 h with h | h
    · rcases List.mem_append.1 h with h | h
      · split at h
        · exact .inl (List.mem_singleton.1 h)
        · cases h
      · split at h
        · exact .inr ⟨d, List.mem_cons_self .., (tell_mem h).1⟩
        · cases h
    · rcases prog_mem h with h | ⟨x, hx, he⟩
      · exact .inl h
      · exact .inr ⟨x, List.mem_cons_of_mem _ hx, he⟩
theorem told_len {D : List Dat} (h : WOk D) {done safe kin : Int} {t nx : Cfg} {e : EvD} (he : e ∈ toldT D done safe kin t nx) : e.dat.msg.body.length ≤ 140737488351232 := by
  unfold toldT at he
  rcases List.mem_append.1 he with he | he
  · rcases prog_mem he with rfl | ⟨d, hd, rfl⟩
    · exact Nat.zero_le _
    · have h1 := (abv_gt hd).2.2
      have h2 := getT_len h d.seq
      rw [← h1] at h2
      exact h2
  · rw [List.mem_singleton.1 he]
    exact Nat.zero_le _
theorem told_lenA {D : List Dat} (h : WOk D) {done safe kin : Int} {t nx : Cfg} {l : List EvA} (hl : l.map EvA.e = toldT D done safe kin t nx) {x : EvA} (hx : x ∈ l) : x.x.d.msg.body.length ≤ 140737488351232 :=
  told_len h (e := x.e) (by rw [← hl]; exact List.mem_map_of_mem hx)
def EvA.put (x : EvA) (bs : List Int) : EvA := ⟨x.kind, x.cfg, x.x.put bs⟩
theorem EvA.put_row {x : EvA} {bs : List Int} (h : bs.length = x.x.d.msg.body.length) : (x.put bs).row = x.row := by
  show Value.int .i64 x.kind :: (x.cfg.cells ++ (x.x.put bs).row) = Value.int .i64 x.kind :: (x.cfg.cells ++ x.x.row)
  rw [DaA.put_row h]
theorem eS_put (a : Option Addr) (c : Nat) {o : List EvA} {k : Nat} (hk : k < o.length) {bs : List Int} (h : bs.length = o[k].x.d.msg.body.length) : eS a c (o.set k (o[k].put bs)) = eS a c o := by
  have e : (o.set k (o[k].put bs)).flatMap EvA.row = o.flatMap EvA.row := by
    rw [List.flatMap_def, List.flatMap_def, List.map_set, EvA.put_row h]
    congr 1
    have : o[k].row = (o.map EvA.row)[k]'(by simpa using hk) := by simp
    rw [this, List.set_getElem_self]
  unfold eS
  rw [e, List.length_set]
structure Pst where
  i : Nat
  es : List DaA
  ar : Int
  hi : Int
  fs : List DaA
  av : Option Addr
  cv : Nat
set_option maxHeartbeats 8000000 in
theorem q3 (o : OldC) (a : Option Addr) (c : Nat) (l : List DaA) (kin : Int) (nx : Cfg) (w : World) (hr : Rd w a (l.flatMap DaA.row)) (hR : ∀ x ∈ l, DaR w x) (hm : l.length ≤ 140737488351232) (hI1 : inI o.cfg.mem) (hI2 : inI nx.mem) (hI3 : inI kin) (hI4 : inI o.done) :
    CallsTo Try.prog 3 [o.val, .slice a l.length c, .agg (.int .i64 kin :: nx.cells).toArray] w fun v w' => v = .bool true ∧ Grew w w' := by
  refine go_in (n := 131) (St.rd1 hr) Try.func3 rfl rfl ?_
  repeat'(first|(apply kp;iterate 2 exact rfl)|apply jJ|(apply jE;exact rfl)|(apply jp;exact rfl)|(apply jc;kernel_rfl)|((first|apply kf|apply kn|apply ke|apply kx|apply kc|apply kb);iterate 2 exact rfl)|((first|apply kz|apply ky);(·exact rfl);(·repeat(first|exact iO|exact iR rfl|apply iT));iterate 2 exact rfl)|(apply kg;iterate 2 exact rfl)|(apply kG;iterate 3 exact rfl)|(apply kB;(iterate 2 exact rfl);intro _)|(apply kA;exact rfl;intro _)|(apply Go.Hb.kK;(iterate 4 exact rfl);intro _)|(apply kU;(iterate 2 exact rfl);(·repeat(first|exact sH _ _ _|apply sT));(first|exact nfL_eq rfl|exact rfl);exact rfl)|((first|apply kh|apply kl);(iterate 2 exact rfl);(first|decide|omega);exact rfl)|(apply LR.call; (· exact rfl); (intro w1 h1; first | (refine (t24 w1).mono ?_; rintro v w2 ⟨bw, bm, rfl, hn⟩; refine LR.back (h1.got hn (wO_dep _ _ _ _ _)) ?_; clear hn h1 w2 w1) | (refine (t25 w1).mono ?_; rintro v w2 ⟨bv', rfl, hn⟩; refine LR.back (h1.got hn (vO_dep _ _ _ _ _)) ?_; clear hn h1 w2 w1)))|((first|(apply kR;iterate 2 exact rfl)|(apply kQ;exact rfl));all_goals(intro hc;try simp only[hcs]at hc;try(exfalso;first|contradiction|omega))))
  rename_i b3 b5
  apply CW.loop [9, 20, 21, 22, 23, 24, 25, 26, 27, 28, 29, 30, 31, 32, 33, 34, 35, 36, 37, 38, 39, 40, 41] (fun s : Pst => s.i ≤ l.length ∧ s.i ≤ 60 ∧ Wn s.i s.es s.ar s.hi ∧ dats s.fs = dats s.es) (fun s => [(9, .int .i64 (s.i : Int))])
    (fun s => St w NoF [vO bv' s.av s.cv s.fs s.hi, wO bw bm s.es s.ar s.hi, .own b5 (.cells (.int .i64 kin :: nx.cells).toArray 30 (0, 0)), .own b3 (.cells o.cells.toArray 27 (0, 0)), rdA a (l.flatMap DaA.row)]) (fun s => l.length - s.i)
  · intro w' hw'
    exact ⟨⟨0, [], 0, 0, [], none, 0⟩, ⟨by simp, by simp, Wn.nil, rfl⟩, ⟨rfl, trivial⟩, hw'⟩
  rintro ⟨i, es, ar, hi, fs, av, cv⟩ g1 ⟨hil, hi60, hW, hfs⟩
  simp only at hil hi60 hW hfs ⊢
  have hes := hW.len
  have hfl : fs.length = es.length := by have := congrArg List.length hfs; rwa [dats_len, dats_len] at this
  have hok := hW.ok
  have hokf : WOk (dats fs) := by rw [hfs]; exact hW.ok
  by_cases hlt : i < l.length ∧ i < 60
  · have hlt0 := hlt.1
    obtain ⟨bg, og, rfl⟩ := hr.form (rows_ne DaA.row_len (by decide) hlt0)
    have hx := hR _ (List.getElem_mem hlt0)
    repeat'(first|(apply kp;iterate 2 exact rfl)|apply jJ|(apply jE;exact rfl)|(apply jp;exact rfl)|(apply jc;kernel_rfl)|((first|apply kf|apply kn|apply ke|apply kx|apply kc|apply kb);iterate 2 exact rfl)|((first|apply kz|apply ky);(·exact rfl);(·repeat(first|exact iO|exact iR rfl|apply iT));iterate 2 exact rfl)|(apply kg;iterate 2 exact rfl)|(apply kG;iterate 3 exact rfl)|(apply kB;(iterate 2 exact rfl);intro _)|(apply kA;exact rfl;intro _)|(apply Go.Hb.kK;(iterate 4 exact rfl);intro _)|(apply kU;(iterate 2 exact rfl);(·repeat(first|exact sH _ _ _|apply sT));(first|exact nfL_eq rfl|exact rfl);exact rfl)|((first|apply kh|apply kl);(iterate 2 exact rfl);(first|decide|omega);exact rfl)|(apply idxX;(iterate 2 exact rfl);(iterate 2(first|omega|(dsimp only;omega)));exact rfl)|(apply LR.ev; (· apply Ev.load_agg_at (cs := l[i].row); (· exact rfl); (· exact rfl); (· intro w' hw'; exact rd_row DaA.row_len (hw'.rd_of (by (repeat (first | exact mH _ _ | apply mT)))) hlt0 (by simp))); (· exact rfl))|((first|(apply kR;iterate 2 exact rfl)|(apply kQ;exact rfl));all_goals(intro hc;try simp only[hcs]at hc;try(exfalso;first|contradiction|omega))))
    apply LR.call
    · exact rfl
    intro w1 h1
    refine CallsTo.mono (show CallsTo Try.prog 12 [.pointer (some ⟨bw, 0, none⟩), l[i].d.val l[i].a l[i].c] w1 _ from t29 bw bm es ar hi l[i].d l[i].a l[i].c w1 (h1.holds _ (by (repeat (first | exact mH _ _ | apply mT)))) hW.ok hW.aru (h1.oldRd hx.hr) hx.hz (h1.oldApart (x := wO bw bm es ar hi) (by (repeat (first | exact mH _ _ | apply mT))) rfl hx.hr) hx.hm) ?_
    rintro v w2 ⟨es', ar', rfl, he, ha, hst⟩
    have hW' := hW.put hx.hm he ha
    refine LR.back (St.did h1 (by (repeat (first | exact sH _ _ _ | apply sT))) rfl hst (wO_dep _ _ _ _ _)) ?_
    clear hst h1
    repeat'(first|(apply kp;iterate 2 exact rfl)|apply jJ|(apply jE;exact rfl)|(apply jp;exact rfl)|(apply jc;kernel_rfl)|((first|apply kf|apply kn|apply ke|apply kx|apply kc|apply kb);iterate 2 exact rfl)|((first|apply kz|apply ky);(·exact rfl);(·repeat(first|exact iO|exact iR rfl|apply iT));iterate 2 exact rfl)|(apply kg;iterate 2 exact rfl)|(apply kG;iterate 3 exact rfl)|(apply kB;(iterate 2 exact rfl);intro _)|(apply kA;exact rfl;intro _)|(apply Go.Hb.kK;(iterate 4 exact rfl);intro _)|(apply kU;(iterate 2 exact rfl);(·repeat(first|exact sH _ _ _|apply sT));(first|exact nfL_eq rfl|exact rfl);exact rfl)|((first|apply kh|apply kl);(iterate 2 exact rfl);(first|decide|omega);exact rfl)|(apply idxX;(iterate 2 exact rfl);(iterate 2(first|omega|(dsimp only;omega)));exact rfl)|(apply LR.ev; (· apply Ev.load_agg_at (cs := l[i].row); (· exact rfl); (· exact rfl); (· intro w' hw'; exact rd_row DaA.row_len (hw'.rd_of (by (repeat (first | exact mH _ _ | apply mT)))) hlt0 (by simp))); (· exact rfl))|((first|(apply kR;iterate 2 exact rfl)|(apply kQ;exact rfl));all_goals(intro hc;try simp only[hcs]at hc;try(exfalso;first|contradiction|omega))))
    apply LR.call
    · exact rfl
    intro w1 h1
    have ht : CallsTo Try.prog 13 [.pointer (some ⟨bv', 0, none⟩), l[i].d.val l[i].a l[i].c] w1 _ := t30 bv' av cv fs hi l[i].d l[i].a l[i].c w1 (h1.holds _ (by (repeat (first | exact mH _ _ | apply mT)))) hokf (by omega) (h1.oldRd hx.hr) hx.hz (h1.oldApart (x := vO bv' av cv fs hi) (by (repeat (first | exact mH _ _ | apply mT))) rfl hx.hr) hx.hm
    rw [hfs, ← he] at ht
    refine CallsTo.mono ht ?_
    clear ht
    rintro v w2 ⟨fs', av', cv', rfl, hfs2, hfl', hst⟩
    refine LR.back (St.did h1 (by (repeat (first | exact sH _ _ _ | apply sT))) rfl hst (vO_dep _ _ _ _ _)) ?_
    clear hst h1
    repeat'(first|(apply kp;iterate 2 exact rfl)|apply jJ|(apply jE;exact rfl)|(apply jp;exact rfl)|(apply jc;kernel_rfl)|((first|apply kf|apply kn|apply ke|apply kx|apply kc|apply kb);iterate 2 exact rfl)|((first|apply kz|apply ky);(·exact rfl);(·repeat(first|exact iO|exact iR rfl|apply iT));iterate 2 exact rfl)|(apply kg;iterate 2 exact rfl)|(apply kG;iterate 3 exact rfl)|(apply kB;(iterate 2 exact rfl);intro _)|(apply kA;exact rfl;intro _)|(apply Go.Hb.kK;(iterate 4 exact rfl);intro _)|(apply kU;(iterate 2 exact rfl);(·repeat(first|exact sH _ _ _|apply sT));(first|exact nfL_eq rfl|exact rfl);exact rfl)|((first|apply kh|apply kl);(iterate 2 exact rfl);(first|decide|omega);exact rfl)|(apply addX;(iterate 2 exact rfl);(iterate 2(first|omega|(dsimp only;omega)));exact rfl)|((first|(apply kR;iterate 2 exact rfl)|(apply kQ;exact rfl));all_goals(intro hc;try simp only[hcs]at hc;try(exfalso;first|contradiction|omega))))
    refine At.again (⟨i + 1, es', ar', wpH (dats es) hi l[i].d, fs', av', cv'⟩ : Pst) ⟨by simp only; omega, by simp only; omega, hW', hfs2⟩ ?_ ⟨rfl, trivial⟩ (fun w' hw' => hw'.sub (by (repeat (first | exact List.Sublist.refl _ | apply List.Sublist.cons_cons | apply List.Sublist.cons)))) (by simp only; omega)
    (repeat (first | exact Out.refl _ _ | exact Out.mix | (apply Out.upd; (· exact rfl)) | (apply Out.updL; (· exact rfl)) | (apply Out.mixs; (· exact rfl))))
  by_cases hmy : mayC o kin nx = true
  · repeat'(first|(apply kp;iterate 2 exact rfl)|apply jJ|(apply jE;exact rfl)|(apply jp;exact rfl)|(apply jc;kernel_rfl)|((first|apply kf|apply kn|apply ke|apply kx|apply kc|apply kb);iterate 2 exact rfl)|((first|apply kz|apply ky);(·exact rfl);(·repeat(first|exact iO|exact iR rfl|apply iT));iterate 2 exact rfl)|(apply kg;iterate 2 exact rfl)|(apply kG;iterate 3 exact rfl)|(apply kB;(iterate 2 exact rfl);intro _)|(apply kA;exact rfl;intro _)|(apply Go.Hb.kK;(iterate 4 exact rfl);intro _)|(apply kU;(iterate 2 exact rfl);(·repeat(first|exact sH _ _ _|apply sT));(first|exact nfL_eq rfl|exact rfl);exact rfl)|((first|apply kh|apply kl);(iterate 2 exact rfl);(first|decide|omega);exact rfl)|(apply LR.call; (· exact rfl); (intro w1 h1; first | (refine CallsTo.mono (show CallsTo Try.prog 14 [o.val, .pointer (some ⟨bw, 0, none⟩), .int .i64 kin, nx.val] w1 _ from q14 bw bm es ar hi o kin nx w1 (h1.holds _ (by (repeat (first | exact mH _ _ | apply mT)))) hok (by omega) hI1 hI2 hI3 hmy) ?_; rintro v w2 ⟨a1, c1, l1, rfl, hl1, hll1, hn⟩; refine LR.back (h1.got hn (eO_dep _ _ _)) ?_; clear hn h1) | (have ht : CallsTo Try.prog 15 [o.val, .pointer (some ⟨bv', 0, none⟩), .int .i64 kin, nx.val] w1 _ := q15 bv' av cv fs hi o kin nx w1 (h1.holds _ (by (repeat (first | exact mH _ _ | apply mT)))) hokf (by omega) hI4 hmy; rw [hfs] at ht; refine CallsTo.mono ht ?_; rintro v w2 ⟨a2, c2, l2, rfl, hl2, hll2, hn⟩; refine LR.back (h1.got hn (eO_dep _ _ _)) ?_; clear hn h1 ht)))|(apply kq; (· exact rfl); (· intro w1 h1; exact CallsTo.q (q16 a1 a2 c1 c2 l1 l2 w1 (eO_r (h1.holds (eO a1 c1 l1) (by (repeat (first | exact mH _ _ | apply mT))))) (eO_r (h1.holds (eO a2 c2 l2) (by (repeat (first | exact mH _ _ | apply mT))))) (fun x hx => ⟨eO_b (h1.holds (eO a1 c1 l1) (by (repeat (first | exact mH _ _ | apply mT)))) hx, by have := told_lenA hok hl1 hx; omega⟩) (fun x hx => eO_b (h1.holds (eO a2 c2 l2) (by (repeat (first | exact mH _ _ | apply mT)))) hx) (by rw [hl1, hl2]) (by omega)) h1))|((first|(apply kR;iterate 2 exact rfl)|(apply kQ;exact rfl));all_goals(intro hc;try simp only[hcs]at hc;try(exfalso;first|contradiction|omega))))
    all_goals
      have hll1' : l1.length ≤ 10000 := hll1
      apply CW.loop [14, 15, 77, 78, 79, 80, 81, 82, 83, 84, 85, 86, 87, 88, 89, 90, 91, 92, 93, 94, 95, 96, 97, 98, 99, 100, 101, 102, 103, 104, 105, 106, 107, 108, 109, 110, 111, 112, 113, 114] (fun s : Nat × List EvA => s.1 ≤ l1.length ∧ s.2.length = l1.length ∧ ∀ x ∈ s.2, x.x.d.msg.body.length ≤ 140737488355328) (fun s => [(14, Value.int .i64 (s.1 : Int))])
        (fun s => St w NoF [eS a1 c1 s.2, bunE s.2, eO a2 c2 l2, vO bv' av cv fs hi, wO bw bm es ar hi, .own b5 (.cells (.int .i64 kin :: nx.cells).toArray 30 (0, 0)), .own b3 (.cells o.cells.toArray 27 (0, 0))]) (fun s => l1.length - s.1)
      · intro w' hw'
        have h0 : St w NoF [eO a2 c2 l2, eO a1 c1 l1, vO bv' av cv fs hi, wO bw bm es ar hi, .own b5 (.cells (.int .i64 kin :: nx.cells).toArray 30 (0, 0)), .own b3 (.cells o.cells.toArray 27 (0, 0))] w' := hw'.sub (by (repeat (first | exact List.Sublist.refl _ | apply List.Sublist.cons_cons | apply List.Sublist.cons)))
        exact ⟨(0, l1), ⟨by simp, rfl, fun x hx => by have := told_lenA hok hl1 hx; omega⟩, ⟨rfl, trivial⟩, (front h0 1 rfl rfl).part (osl.dep _ _ _ _ _) (bun_dep EvA.dep l1)⟩
      rintro ⟨k5, o5⟩ g5 ⟨hk5', hoe, hob⟩
      simp only at hk5' hoe hob ⊢
      rw [← hoe] at hk5' hll1' ⊢
      by_cases hk5 : k5 < o5.length
      · refine LR_cls_cw fun w1 hw1 => ?_
        obtain ⟨bx, ox, rfl⟩ := (ownsRow_rd hw1.g0).form (rows_ne EvA.row_len (by decide) hk5)
        refine CW.sub (D := St w NoF _) ?_ (fun u e => e ▸ hw1)
        clear hw1 w1
        have hX := hob _ (List.getElem_mem hk5)
        repeat'(first|(apply kp;iterate 2 exact rfl)|apply jJ|(apply jE;exact rfl)|(apply jp;exact rfl)|(apply jc;kernel_rfl)|((first|apply kf|apply kn|apply ke|apply kx|apply kc|apply kb);iterate 2 exact rfl)|((first|apply kz|apply ky);(·exact rfl);(·repeat(first|exact iO|exact iR rfl|apply iT));iterate 2 exact rfl)|(apply kg;iterate 2 exact rfl)|(apply kG;iterate 3 exact rfl)|(apply kB;(iterate 2 exact rfl);intro _)|(apply kA;exact rfl;intro _)|(apply Go.Hb.kK;(iterate 4 exact rfl);intro _)|(apply kU;(iterate 2 exact rfl);(·repeat(first|exact sH _ _ _|apply sT));(first|exact nfL_eq rfl|exact rfl);exact rfl)|((first|apply kh|apply kl);(iterate 2 exact rfl);(first|decide|omega);exact rfl)|((first|(apply kR;iterate 2 exact rfl)|(apply kQ;exact rfl));all_goals(intro hc;try simp only[hcs]at hc;try(exfalso;first|contradiction|omega))))
        apply CW.loop [15, 83, 84, 85, 86, 87, 88, 89, 90, 91, 92, 93, 94, 95, 96, 97, 98, 99, 100, 101, 102, 103, 104, 105, 106, 107, 108, 109, 110, 111, 112, 113, 114] (fun s : Nat × List Int => s.1 ≤ o5[k5].x.d.msg.body.length ∧ s.2.length = o5[k5].x.d.msg.body.length) (fun s => [(15, Value.int .i64 (s.1 : Int))])
          (fun s => St w NoF [osl (.slice o5[k5].x.a o5[k5].x.d.msg.body.length o5[k5].x.c) 5 1 o5[k5].x.d.msg.body.length (bv s.2), bunE (o5.take k5 ++ o5.drop (k5 + 1)), eS (some ⟨bx, ox, none⟩) c1 o5, eO a2 c2 l2, vO bv' av cv fs hi, wO bw bm es ar hi, .own b5 (.cells (.int .i64 kin :: nx.cells).toArray 30 (0, 0)), .own b3 (.cells o.cells.toArray 27 (0, 0))]) (fun s => o5[k5].x.d.msg.body.length - s.1)
        · intro w' hw'
          exact ⟨(0, o5[k5].x.d.msg.body), ⟨by simp, rfl⟩, ⟨rfl, trivial⟩, bun_openW EvA.dep hk5 (front hw' 1 rfl rfl)⟩
        rintro ⟨k6, bs⟩ g6 ⟨hk6, hbs6⟩
        simp only at hk6 hbs6 ⊢
        by_cases hlt6 : k6 < o5[k5].x.d.msg.body.length
        · have hne : (bv bs) ≠ [] := fun e => by
            have e2 : bs.length = 0 := by simpa [bv] using congrArg List.length e
            omega
          refine LR_cls_cw fun w1 hw1 => ?_
          obtain ⟨by', oy, hay⟩ := (ownsRow_rd hw1.g0).form hne
          refine CW.sub (D := St w NoF _) ?_ (fun u e => e ▸ hw1)
          clear hw1 w1
          have hrow : o5[k5].row[25]? = some (.slice (some ⟨by', oy, none⟩) o5[k5].x.d.msg.body.length o5[k5].x.c) := by rw [← hay]; rfl
          repeat'(first|(apply CW.reg_sinkC 20; (· exact rfl); (· decide +kernel))|(apply kp;iterate 2 exact rfl)|apply jJ|(apply jE;exact rfl)|(apply jp;exact rfl)|(apply jc;kernel_rfl)|((first|apply kf|apply kn|apply ke|apply kx|apply kc|apply kb);iterate 2 exact rfl)|((first|apply kz|apply ky);(·exact rfl);(·repeat(first|exact iO|exact iR rfl|apply iT));iterate 2 exact rfl)|(apply kg;iterate 2 exact rfl)|(apply kG;iterate 3 exact rfl)|(apply kB;(iterate 2 exact rfl);intro _)|(apply kA;exact rfl;intro _)|(apply Go.Hb.kK;(iterate 4 exact rfl);intro _)|(apply kU;(iterate 2 exact rfl);(·repeat(first|exact sH _ _ _|apply sT));(first|exact nfL_eq rfl|exact rfl);exact rfl)|((first|apply kh|apply kl);(iterate 2 exact rfl);(first|decide|omega);exact rfl)|(apply LR.ev; (· first | (apply Ev.indexAddr; (· exact rfl); (· exact rfl); (· omega); (· omega)) | (apply Ev.load; (· exact rfl); (· intro w' hw'; exact row_cell EvA.row_len (hw'.rd_of_own (n := o5.length) (by (repeat (first | exact mH _ _ | apply mT)))) hk5 25 rfl (by omega)))); (· exact rfl))|((first|(apply kR;iterate 2 exact rfl)|(apply kQ;exact rfl));all_goals(intro hc;try simp only[hcs]at hc;try(exfalso;first|contradiction|omega))))
          rw [hay]
          all_goals (
            apply DW.quiet [0, 1, 2, 3, 4, 5, 6, 7, 8, 9, 10, 11, 12, 13, 14, 15, 16, 17, 18, 19]
            · decide +kernel
            · first | exact fun _ h => h | exact fun _ h => St.sub h (by repeat (first | exact List.Sublist.refl _ | apply List.Sublist.cons_cons | apply List.Sublist.cons))
            repeat'(first|(apply yp;iterate 3 exact rfl)|(apply QL.ev;(·exact rfl);(·first|((first|apply Ez|apply Ey);(·exact rfl);(·repeat(first|exact iO|exact iR rfl|apply iT));exact rfl)|((first|apply Ev.fieldAddr|apply Ev.len|apply EqOf.eq|apply EqOf.ne|apply Ev.conv|apply Ev.buildN);exact rfl)|((first|apply Ev.shr|apply Ev.shl);(iterate 2 exact rfl);first|decide|omega));·exact rfl)|(apply QL.ev; (· exact rfl); (· first | (apply Ev.indexAddr; (· exact rfl); (· exact rfl); (· omega); (· omega)) | (apply Ev.load (v := .slice (some ⟨by', oy, none⟩) o5[k5].x.d.msg.body.length o5[k5].x.c); (· exact rfl); (· intro w' hw'; exact row_cell EvA.row_len (hw'.rd_of_own (n := o5.length) (by (repeat (first | exact mH _ _ | apply mT)))) hk5 25 hrow (by omega))) | (apply Ev.load_osl; (· exact rfl); (· (repeat (first | exact mH _ _ | apply mT))); (· exact bv_at (l := bs) (i := k6) (by simp) (by omega))) | (apply Ev.xor; (· exact rfl); (· exact rfl))); (· exact rfl))|(apply yq;iterate 5 exact rfl)|(apply QL.evg;(iterate 3 exact rfl);(·first|((first|apply Ez|apply Ey);(·exact rfl);(·repeat(first|exact iO|exact iR rfl|apply iT));exact rfl)|((first|apply Ev.fieldAddr|apply Ev.len|apply EqOf.eq|apply EqOf.ne|apply Ev.conv|apply Ev.buildN);exact rfl)|((first|apply Ev.shr|apply Ev.shl);(iterate 2 exact rfl);first|decide|omega));·exact rfl)|(apply yn;iterate 4 exact rfl)|((apply QL.split;iterate 3 exact rfl);all_goals(intro hc;try simp only[hcs]at hc;try(exfalso;first|contradiction|omega)))|apply QL.nil)
            all_goals (show DW _ _ _ _ _ _ _ _))
          all_goals (apply DW.done; (· decide +kernel))
          all_goals apply At.sink
          refine LR.store_obj (v := .int .u8 (xorI .u8 bs[k6] 90)) (z' := osl (.slice (some ⟨by', oy, none⟩) o5[k5].x.d.msg.body.length o5[k5].x.c) 5 1 o5[k5].x.d.msg.body.length (bv (bs.set k6 (xorI .u8 bs[k6] 90)))) rfl rfl (sH _ _ _) rfl ?_ (osl.dep _ _ _ _ _) ?_
          · have st := Stores.osl (P := Try.prog) (T := 5) (q := 1) (b := by') (o := oy) (i := (k6 : Int).toNat * 1) (n := o5[k5].x.d.msg.body.length) (c := o5[k5].x.c) (v := .int .u8 (xorI .u8 bs[k6] 90)) (vs := [.int .u8 (xorI .u8 bs[k6] 90)]) (xs := bv bs) (E := 5) (sz := 1) inferInstance rfl rfl rfl (by simp; omega)
            rw [show (k6 : Int).toNat * 1 = k6 by omega] at st ⊢
            rwa [splice_bv _ _ _ (by omega)] at st
          repeat'(first|(apply kp;iterate 2 exact rfl)|apply jJ|(apply jE;exact rfl)|(apply jp;exact rfl)|(apply jc;kernel_rfl)|((first|apply kf|apply kn|apply ke|apply kx|apply kc|apply kb);iterate 2 exact rfl)|((first|apply kz|apply ky);(·exact rfl);(·repeat(first|exact iO|exact iR rfl|apply iT));iterate 2 exact rfl)|(apply kg;iterate 2 exact rfl)|(apply kG;iterate 3 exact rfl)|(apply kB;(iterate 2 exact rfl);intro _)|(apply kA;exact rfl;intro _)|(apply Go.Hb.kK;(iterate 4 exact rfl);intro _)|(apply kU;(iterate 2 exact rfl);(·repeat(first|exact sH _ _ _|apply sT));(first|exact nfL_eq rfl|exact rfl);exact rfl)|((first|apply kh|apply kl);(iterate 2 exact rfl);(first|decide|omega);exact rfl)|(apply addX;(iterate 2 exact rfl);(iterate 2(first|omega|(dsimp only;omega)));exact rfl)|((first|(apply kR;iterate 2 exact rfl)|(apply kQ;exact rfl));all_goals(intro hc;try simp only[hcs]at hc;try(exfalso;first|contradiction|omega))))
          apply At.again (k6 + 1, bs.set k6 (xorI .u8 bs[k6] 90)) ⟨by show k6 + 1 ≤ _; omega, by simp [hbs6]⟩
          · (repeat (first | exact Out.refl _ _ | exact Out.mix | (apply Out.upd; (· exact rfl)) | (apply Out.updL; (· exact rfl)) | (apply Out.mixs; (· exact rfl))))
          · exact ⟨rfl, trivial⟩
          · exact fun w' hw' => hw'
          · show o5[k5].x.d.msg.body.length - (k6 + 1) < o5[k5].x.d.msg.body.length - k6
            omega
        · repeat'(first|(apply kp;iterate 2 exact rfl)|apply jJ|(apply jE;exact rfl)|(apply jp;exact rfl)|(apply jc;kernel_rfl)|((first|apply kf|apply kn|apply ke|apply kx|apply kc|apply kb);iterate 2 exact rfl)|((first|apply kz|apply ky);(·exact rfl);(·repeat(first|exact iO|exact iR rfl|apply iT));iterate 2 exact rfl)|(apply kg;iterate 2 exact rfl)|(apply kG;iterate 3 exact rfl)|(apply kB;(iterate 2 exact rfl);intro _)|(apply kA;exact rfl;intro _)|(apply Go.Hb.kK;(iterate 4 exact rfl);intro _)|(apply kU;(iterate 2 exact rfl);(·repeat(first|exact sH _ _ _|apply sT));(first|exact nfL_eq rfl|exact rfl);exact rfl)|((first|apply kh|apply kl);(iterate 2 exact rfl);(first|decide|omega);exact rfl)|(apply LR.ev; (· first | (apply Ev.indexAddr; (· exact rfl); (· exact rfl); (· omega); (· omega)) | (apply Ev.load; (· exact rfl); (· intro w' hw'; exact row_cell EvA.row_len (hw'.rd_of_own (n := o5.length) (by (repeat (first | exact mH _ _ | apply mT)))) hk5 25 rfl (by omega)))); (· exact rfl))|(apply addX;(iterate 2 exact rfl);(iterate 2(first|omega|(dsimp only;omega)));exact rfl)|((first|(apply kR;iterate 2 exact rfl)|(apply kQ;exact rfl));all_goals(intro hc;try simp only[hcs]at hc;try(exfalso;first|contradiction|omega))))
          refine At.again (k5 + 1, o5.set k5 (o5[k5].put bs)) ⟨by show k5 + 1 ≤ o5.length; omega, by show (o5.set k5 _).length = _; rw [List.length_set], fun x hx => ?_⟩ ?_ ⟨rfl, trivial⟩ ?_ (by show o5.length - (k5 + 1) < o5.length - k5; omega)
          · rcases List.mem_or_eq_of_mem_set hx with hx | rfl
            · exact hob x hx
            · show bs.length ≤ _
              omega
          · (repeat (first | exact Out.refl _ _ | exact Out.mix | (apply Out.upd; (· exact rfl)) | (apply Out.updL; (· exact rfl)) | (apply Out.mixs; (· exact rfl))))
          · intro w' hw'
            have hbd : osl (.slice o5[k5].x.a o5[k5].x.d.msg.body.length o5[k5].x.c) 5 1 o5[k5].x.d.msg.body.length (bv bs) = (o5[k5].put bs).body := by
              show _ = osl (.slice o5[k5].x.a bs.length o5[k5].x.c) 5 1 bs.length (bv bs)
              rw [hbs6]
            rw [hbd] at hw'
            have h1 := bun_shutW EvA.dep EvA.ex hk5 hw'
            have h2 : St w NoF [eS (some ⟨bx, ox, none⟩) c1 o5, bunE (o5.set k5 (o5[k5].put bs)), eO a2 c2 l2, vO bv' av cv fs hi, wO bw bm es ar hi, .own b5 (.cells (.int .i64 kin :: nx.cells).toArray 30 (0, 0)), .own b3 (.cells o.cells.toArray 27 (0, 0))] w' := front h1 1 rfl rfl
            rw [← eS_put (some ⟨bx, ox, none⟩) c1 hk5 hbs6] at h2
            exact h2
      · repeat'(first|(apply kp;iterate 2 exact rfl)|apply jJ|(apply jE;exact rfl)|(apply jp;exact rfl)|(apply jc;kernel_rfl)|((first|apply kf|apply kn|apply ke|apply kx|apply kc|apply kb);iterate 2 exact rfl)|((first|apply kz|apply ky);(·exact rfl);(·repeat(first|exact iO|exact iR rfl|apply iT));iterate 2 exact rfl)|(apply kg;iterate 2 exact rfl)|(apply kG;iterate 3 exact rfl)|(apply kB;(iterate 2 exact rfl);intro _)|(apply kA;exact rfl;intro _)|(apply Go.Hb.kK;(iterate 4 exact rfl);intro _)|(apply kU;(iterate 2 exact rfl);(·repeat(first|exact sH _ _ _|apply sT));(first|exact nfL_eq rfl|exact rfl);exact rfl)|((first|apply kh|apply kl);(iterate 2 exact rfl);(first|decide|omega);exact rfl)|(apply LR.call; (· exact rfl); (intro w1 h1; refine CallsTo.mono (show CallsTo Try.prog 14 [o.val, .pointer (some ⟨bw, 0, none⟩), .int .i64 kin, nx.val] w1 _ from q14 bw bm es ar hi o kin nx w1 (h1.holds _ (by (repeat (first | exact mH _ _ | apply mT)))) hok (by omega) hI1 hI2 hI3 hmy) ?_; rintro v w2 ⟨a3, c3, l3, rfl, hl3, hll3, hn⟩; refine LR.back (h1.got hn (eO_dep _ _ _)) ?_; clear hn h1))|(apply kq; (· exact rfl); (· intro w1 h1; first | exact CallsTo.q (q17 w1) h1 | exact CallsTo.q (q16 a3 a2 c3 c2 l3 l2 w1 (eO_r (h1.holds (eO a3 c3 l3) (by (repeat (first | exact mH _ _ | apply mT))))) (eO_r (h1.holds (eO a2 c2 l2) (by (repeat (first | exact mH _ _ | apply mT))))) (fun x hx => ⟨eO_b (h1.holds (eO a3 c3 l3) (by (repeat (first | exact mH _ _ | apply mT)))) hx, by have := told_lenA hok hl3 hx; omega⟩) (fun x hx => eO_b (h1.holds (eO a2 c2 l2) (by (repeat (first | exact mH _ _ | apply mT)))) hx) (by rw [hl3, hl2]) (by omega)) h1))|((first|(apply kR;iterate 2 exact rfl)|(apply kQ;exact rfl));all_goals(intro hc;try simp only[hcs]at hc;try(exfalso;first|contradiction|omega))))
        (apply ret1; (· exact rfl); intro w' hS)
        exact ⟨rfl, hS.toKeep⟩
  · have hmy : mayC o kin nx = false := by simpa using hmy
    repeat'(first|(apply kp;iterate 2 exact rfl)|apply jJ|(apply jE;exact rfl)|(apply jp;exact rfl)|(apply jc;kernel_rfl)|((first|apply kf|apply kn|apply ke|apply kx|apply kc|apply kb);iterate 2 exact rfl)|((first|apply kz|apply ky);(·exact rfl);(·repeat(first|exact iO|exact iR rfl|apply iT));iterate 2 exact rfl)|(apply kg;iterate 2 exact rfl)|(apply kG;iterate 3 exact rfl)|(apply kB;(iterate 2 exact rfl);intro _)|(apply kA;exact rfl;intro _)|(apply Go.Hb.kK;(iterate 4 exact rfl);intro _)|(apply kU;(iterate 2 exact rfl);(·repeat(first|exact sH _ _ _|apply sT));(first|exact nfL_eq rfl|exact rfl);exact rfl)|((first|apply kh|apply kl);(iterate 2 exact rfl);(first|decide|omega);exact rfl)|(apply kq; (· exact rfl); (· intro w1 h1; first | exact CallsTo.q (show CallsTo Try.prog 14 [o.val, .pointer (some ⟨bw, 0, none⟩), .int .i64 kin, nx.val] w1 _ from q14n bw o kin nx w1 hI1 hI2 hI3 hmy) h1 | exact CallsTo.q (show CallsTo Try.prog 15 [o.val, .pointer (some ⟨bv', 0, none⟩), .int .i64 kin, nx.val] w1 _ from q15n bv' o kin nx w1 hmy) h1 | exact CallsTo.q (q16 none none 0 0 [] [] w1 (Rd.nil _ _) (Rd.nil _ _) (fun x hx => by cases hx) (fun x hx => by cases hx) rfl (by simp)) h1))|((first|(apply kR;iterate 2 exact rfl)|(apply kQ;exact rfl));all_goals(intro hc;try simp only[hcs]at hc;try(exfalso;first|contradiction|omega))))
    all_goals
      apply CW.loop [14, 15, 77, 78, 79, 80, 81, 82, 83, 84, 85, 86, 87, 88, 89, 90, 91, 92, 93, 94, 95, 96, 97, 98, 99, 100, 101, 102, 103, 104, 105, 106, 107, 108, 109, 110, 111, 112, 113, 114] (fun s : Unit => True) (fun s => [(14, Value.int .i64 0)])
        (fun s => St w NoF [vO bv' av cv fs hi, wO bw bm es ar hi, .own b5 (.cells (.int .i64 kin :: nx.cells).toArray 30 (0, 0)), .own b3 (.cells o.cells.toArray 27 (0, 0))]) (fun s => 0)
      · intro w' hw'
        exact ⟨(), trivial, ⟨rfl, trivial⟩, hw'.sub (by (repeat (first | exact List.Sublist.refl _ | apply List.Sublist.cons_cons | apply List.Sublist.cons)))⟩
      rintro _ g5 _
      simp only
      repeat'(first|(apply kp;iterate 2 exact rfl)|apply jJ|(apply jE;exact rfl)|(apply jp;exact rfl)|(apply jc;kernel_rfl)|((first|apply kf|apply kn|apply ke|apply kx|apply kc|apply kb);iterate 2 exact rfl)|((first|apply kz|apply ky);(·exact rfl);(·repeat(first|exact iO|exact iR rfl|apply iT));iterate 2 exact rfl)|(apply kg;iterate 2 exact rfl)|(apply kG;iterate 3 exact rfl)|(apply kB;(iterate 2 exact rfl);intro _)|(apply kA;exact rfl;intro _)|(apply Go.Hb.kK;(iterate 4 exact rfl);intro _)|(apply kU;(iterate 2 exact rfl);(·repeat(first|exact sH _ _ _|apply sT));(first|exact nfL_eq rfl|exact rfl);exact rfl)|((first|apply kh|apply kl);(iterate 2 exact rfl);(first|decide|omega);exact rfl)|(apply kq; (· exact rfl); (· intro w1 h1; first | exact CallsTo.q (q17 w1) h1 | exact CallsTo.q (show CallsTo Try.prog 14 [o.val, .pointer (some ⟨bw, 0, none⟩), .int .i64 kin, nx.val] w1 _ from q14n bw o kin nx w1 hI1 hI2 hI3 hmy) h1 | exact CallsTo.q (q16 none none 0 0 [] [] w1 (Rd.nil _ _) (Rd.nil _ _) (fun x hx => by cases hx) (fun x hx => by cases hx) rfl (by simp)) h1))|((first|(apply kR;iterate 2 exact rfl)|(apply kQ;exact rfl));all_goals(intro hc;try simp only[hcs]at hc;try(exfalso;first|contradiction|omega))))
      (apply ret1; (· exact rfl); intro w' hS)
      exact ⟨rfl, hS.toKeep⟩
end Go.Proofs.Ytkolmkdbjagfcaa

namespace Go.Proofs.Ytkolmkdbjagfcaa
open Go.Hb Go.ChangeShapes Go.WideShapes
attribute [local irreducible] LR CW At Ev thn blk finK noG again CallsTo DW QL dnext TW DP
set_option linter.unusedSimpArgs false
set_option linter.unusedVariables false
set_option maxRecDepth 100000

theorem fm_iv (l : List Int) : l.flatMap (fun x => [Value.int .i64 x]) = iv l := by
  induction l with
  | nil => rfl
  | cons x r ih => rw [List.flatMap_cons, ih]; rfl
theorem opn_intsC : Opn Try.prog 55 (fun w cs => ∃ (a : Option Addr) (c : Nat) (l : List Int), cs = [.slice a l.length c] ∧ Rd w a (iv l) ∧ (a = none → c = 0) ∧ l.length ≤ 17592186043904) := by
  refine (opn_slice Try.underlying55 (sz := 1) (by_ := 8) (by kernel_rfl) (by omega) (by kernel_rfl) opn_i64).mono ?_
  rintro w cs ⟨a, len, cap, css, rfl, rfl, hg, hr, hz, hc, hm⟩
  obtain ⟨l, h1, h2, h3⟩ := rows_of (f := fun x : Int => [Value.int .i64 x]) (R := fun _ => True) css fun c hc => by
    obtain ⟨x, hx, _⟩ := (hg c hc).1
    exact ⟨x, hx, trivial⟩
  rw [h1, fm_iv] at hr
  have hm : css.length * 8 ≤ 140737488351232 := hm
  exact ⟨a, cap, l, by rw [h2], hr, hz, by omega⟩
theorem opn_story : Opn Try.prog 57 (fun w cs => ∃ (a : Option Addr) (c : Nat) (l : List Int) (k : Int), cs = [.slice a l.length c, .int .i64 k] ∧ Rd w a (iv l) ∧ (a = none → c = 0) ∧ l.length ≤ 17592186043904) := by
  refine (opn_struct Try.underlying57).mono fun w cs ⟨hl, h⟩ => ?_
  have hl : cs.length = 2 := hl
  match cs, hl with
  | [y0, y1], _ =>
    obtain ⟨a, c, l, h0, hr, hz, hm⟩ := h 0 _ rfl _ opn_intsC
    obtain ⟨k, h1, _⟩ := h 1 _ rfl _ opn_i64
    have h0 : [y0] = [Value.slice a l.length c] := h0
    have h1 : [y1] = [Value.int .i64 k] := h1
    simp only [List.cons.injEq, and_true] at h0 h1
    exact ⟨a, c, l, k, by rw [h0, h1], hr, hz, hm⟩
/-! ### who is kin in a story -/
theorem and30_even (k : Int) : andI .i64 k 30 % 2 = 0 := by
  rw [← and_one, andI_eq, andI_eq]
  have e : B64 ((B64 k &&& B64 30).toInt) = B64 k &&& B64 30 := BitVec.ofInt_toInt
  rw [e, BitVec.and_assoc, show B64 30 &&& B64 1 = 0#64 by decide, BitVec.and_zero]
  rfl
def storyO (n s : Int) : OldC := ⟨⟨2, 1, 0, 0, 30, false, 0⟩, n, s⟩
def storyN (s : Int) : Cfg := ⟨5, 1, 0, 0, 30, false, s⟩
theorem kin_cases (k : Int) : kinC k ≠ 0 ∧ 0 ≤ kinC k ∧ kinC k ≤ 30 ∧ kinC k % 2 = 0 := by
  have h1 := and30_even k
  have h2 := and_bd k 30 (by omega)
  rw [show ((30 : Nat) : Int) = 30 from rfl] at h2
  unfold kinC
  split <;> omega
theorem may_story (k n s t : Int) (hn : 0 ≤ n) : mayC (storyO n s) (kinC k) (storyN t) = true := by
  obtain ⟨h0, h1, h2, h3⟩ := kin_cases k
  have hf : ∀ j : Fin 31, j.val % 2 = 0 → (crewOk (j.val : Int) && withinC (j.val : Int) 30) = true := by decide +kernel
  have h4 := hf ⟨(kinC k).toNat, by omega⟩ (by show (kinC k).toNat % 2 = 0; omega)
  simp only [Int.toNat_of_nonneg h1, Bool.and_eq_true] at h4
  unfold mayC
  have e1 : crewOk (storyO n s).cfg.mem = true := (show crewOk 30 = true by decide)
  have e2 : crewOk (storyN t).mem = true := (show crewOk 30 = true by decide)
  have e3 : (liveR (storyO n s).cfg.rs (storyO n s).cfg.rr && liveR (storyN t).rs (storyN t).rr && decide (0 < ringsI (storyN t).rs (storyN t).rr (storyO n s).cfg.rs (storyO n s).cfg.rr)) = true := (show (liveR 2 1 && liveR 5 1 && decide (0 < ringsI 5 1 2 1)) = true by decide)
  rw [e1, e2, e3, h4.1, show withinC (kinC k) (storyO n s).cfg.mem = true from h4.2, show withinC (kinC k) (storyN t).mem = true from h4.2, show decide (0 ≤ (storyO n s).done) = true from decide_eq_true hn, decide_eq_false h0]
  rfl
theorem iv_app (l r : List Int) : iv (l ++ r) = iv l ++ iv r := by unfold iv; rw [List.map_append]
theorem iv_cell (l : List Int) : (iv l).all Value.oneCell' = true := by
  unfold iv
  rw [List.all_map]
  exact List.all_eq_true.2 fun x _ => rfl
theorem inI_kin (k : Int) : inI (kinC k) := by obtain ⟨_, h1, h2, _⟩ := kin_cases k; unfold inI; omega
set_option maxHeartbeats 8000000 in
theorem q9 (a : Option Addr) (c : Nat) (l : List Int) (kk x y : Int) (w : World) (hr : Rd w a (iv l)) (hm : l.length ≤ 17592186043904) :
    CallsTo Try.prog 9 [.agg [.slice a l.length c, .int .i64 kk].toArray, .int .i64 x, .int .i64 y] w fun v w' => v = .bool true ∧ Grew w w' := by
  obtain ⟨X, hX⟩ : ∃ X, bringT x 32 = X := ⟨_, rfl⟩
  obtain ⟨Y, hY⟩ : ∃ Y, bringT y 32 = Y := ⟨_, rfl⟩
  refine go_in (n := 97) (St.rd1 hr) Try.func9 rfl rfl ?_
  repeat'(first|(apply kB;(iterate 2 exact rfl);intro b3)|(apply CW.reg_heldC)|(apply kp;iterate 2 exact rfl)|apply jJ|(apply jE;exact rfl)|(apply jp;exact rfl)|(apply jc;kernel_rfl)|((first|apply kf|apply kn|apply ke|apply kx|apply kc|apply kb);iterate 2 exact rfl)|((first|apply kz|apply ky);(·exact rfl);(·repeat(first|exact iO|exact iR rfl|apply iT));iterate 2 exact rfl)|(apply kg;iterate 2 exact rfl)|(apply kG;iterate 3 exact rfl)|(apply kB;(iterate 2 exact rfl);intro _)|(apply kA;exact rfl;intro _)|(apply Go.Hb.kK;(iterate 4 exact rfl);intro _)|(apply kU;(iterate 2 exact rfl);(·repeat(first|exact sH _ _ _|apply sT));(first|exact nfL_eq rfl|exact rfl);exact rfl)|((first|apply kh|apply kl);(iterate 2 exact rfl);(first|decide|omega);exact rfl)|(apply kq; (· exact rfl); (· intro w1 h1; first | exact CallsTo.q (q17 w1) h1 | (have hq := CallsTo.q (t21 x 32 w1 (by omega)) h1; rw [hX] at hq; exact hq) | (have hq := CallsTo.q (t21 y 32 w1 (by omega)) h1; rw [hY] at hq; exact hq)))|(apply LR.call; (· exact rfl); (intro w1 h1; refine (q18 a c l kk w1 (h1.rd_of (by (repeat (first | exact mH _ _ | apply mT)))) hm).mono ?_; rintro v w2 ⟨bw, bm, es, ar, hi, rfl, hok, hel, hn⟩; refine LR.back (h1.got hn (wO_dep _ _ _ _ _)) ?_; clear hn h1 w2 w1))|(apply LR.call; (· exact rfl); (intro w1 h1; refine (q35 bw bm es ar hi X w1 (h1.holds _ (by (repeat (first | exact mH _ _ | apply mT)))) hok (by omega)).mono ?_; rintro v w2 ⟨n1, a1, c1, x1, rfl, hu1, hs1, hx1, hxl1, hnl1, hn⟩; have hz1 := hn.some_of; refine LR.back (h1.newSl hn) ?_; clear hn h1 w2 w1))|(apply LR.call; (· exact rfl); (intro w1 h1; refine (q35 bw bm es ar hi Y w1 (h1.holds _ (by (repeat (first | exact mH _ _ | apply mT)))) hok (by omega)).mono ?_; rintro v w2 ⟨n2, a2, c2, x2, rfl, hu2, hs2, hx2, hxl2, hnl2, hn⟩; have hz2 := hn.some_of; refine LR.back (h1.newSl hn) ?_; clear hn h1 w2 w1))|((first|(apply kR;iterate 2 exact rfl)|(apply kQ;exact rfl));all_goals(intro hc;try simp only[hcs]at hc;try(exfalso;first|contradiction|omega))))
  all_goals (
    apply DW.quiet [0, 1, 2, 3, 4, 5, 7]
    · decide +kernel
    · first | exact fun _ h => h | exact fun _ h => St.sub h (by repeat (first | exact List.Sublist.refl _ | apply List.Sublist.cons_cons | apply List.Sublist.cons))
    repeat'(first|(apply yp;iterate 3 exact rfl)|(apply QL.ev;(·exact rfl);(·first|((first|apply Ez|apply Ey);(·exact rfl);(·repeat(first|exact iO|exact iR rfl|apply iT));exact rfl)|((first|apply Ev.fieldAddr|apply Ev.len|apply EqOf.eq|apply EqOf.ne|apply Ev.conv|apply Ev.buildN);exact rfl)|((first|apply Ev.shr|apply Ev.shl);(iterate 2 exact rfl);first|decide|omega));·exact rfl)|(apply yq;iterate 5 exact rfl)|(apply QL.evg;(iterate 3 exact rfl);(·first|((first|apply Ez|apply Ey);(·exact rfl);(·repeat(first|exact iO|exact iR rfl|apply iT));exact rfl)|((first|apply Ev.fieldAddr|apply Ev.len|apply EqOf.eq|apply EqOf.ne|apply Ev.conv|apply Ev.buildN);exact rfl)|((first|apply Ev.shr|apply Ev.shl);(iterate 2 exact rfl);first|decide|omega));·exact rfl)|(apply yn;iterate 4 exact rfl)|((apply QL.split;iterate 3 exact rfl);all_goals(intro hc;try simp only[hcs]at hc;try(exfalso;first|contradiction|omega)))|apply QL.nil)
    all_goals (show DW _ _ _ _ _ _ _ _))
  all_goals (
    apply DW.loud 6
    · exact rfl
    · decide +kernel
    repeat'(first|(apply kg;iterate 2 exact rfl)|(apply kG;iterate 3 exact rfl)|apply kM|(apply kp;iterate 2 exact rfl)|((first|apply kz|apply ky);(·exact rfl);(·repeat(first|exact iO|exact iR rfl|apply iT));iterate 2 exact rfl)|(apply Go.Hb.kK;(iterate 4 exact rfl);intro _)|(apply kU;(iterate 2 exact rfl);(·repeat(first|exact sH _ _ _|apply sT));(first|exact nfL_eq rfl|exact rfl);exact rfl)|(apply kB;(iterate 2 exact rfl);intro _)|(apply kA;exact rfl;intro _)|(apply kq; (· exact rfl); (· intro w1 h1; exact CallsTo.q (q20 a l.length c kk w1) h1))|(apply LR.call; (· exact rfl); (intro w1 h1; refine CallsTo.mono (show CallsTo Try.prog 14 [(storyO n1 X).val, .pointer (some ⟨bw, 0, none⟩), .int .i64 (kinC kk), (storyN 9).val] w1 _ from q14 bw bm es ar hi (storyO n1 X) (kinC kk) (storyN 9) w1 (h1.holds _ (by (repeat (first | exact mH _ _ | apply mT)))) hok (by omega) ⟨by show -9223372036854775808 ≤ (30 : Int); decide, by show (30 : Int) ≤ 9223372036854775807; decide⟩ ⟨by show -9223372036854775808 ≤ (30 : Int); decide, by show (30 : Int) ≤ 9223372036854775807; decide⟩ (inI_kin kk) (may_story kk n1 X 9 (by omega))) ?_; rintro v w2 ⟨a3, c3, l3, rfl, hl3, hll3, hn⟩; refine LR.back (h1.got hn (eO_dep _ _ _)) ?_; clear hn h1 w2 w1)))
    all_goals (refine At.stage_same (fun _ h => St.sub h (by repeat (first | exact List.Sublist.refl _ | apply List.Sublist.cons_cons | apply List.Sublist.cons))) ?_))
  all_goals (
    apply DW.loud 8
    · exact rfl
    · decide +kernel
    repeat'(first|(apply kg;iterate 2 exact rfl)|(apply kG;iterate 3 exact rfl)|apply kM|(apply kp;iterate 2 exact rfl)|((first|apply kz|apply ky);(·exact rfl);(·repeat(first|exact iO|exact iR rfl|apply iT));iterate 2 exact rfl)|(apply Go.Hb.kK;(iterate 4 exact rfl);intro _)|(apply kU;(iterate 2 exact rfl);(·repeat(first|exact sH _ _ _|apply sT));(first|exact nfL_eq rfl|exact rfl);exact rfl)|(apply kB;(iterate 2 exact rfl);intro _)|(apply kA;exact rfl;intro _)|(apply kq; (· exact rfl); (· intro w1 h1; exact CallsTo.q (q20 a l.length c kk w1) h1))|(apply LR.call; (· exact rfl); (intro w1 h1; refine CallsTo.mono (show CallsTo Try.prog 14 [(storyO n1 X).val, .pointer (some ⟨bw, 0, none⟩), .int .i64 (kinC kk), (storyN 9).val] w1 _ from q14 bw bm es ar hi (storyO n1 X) (kinC kk) (storyN 9) w1 (h1.holds _ (by (repeat (first | exact mH _ _ | apply mT)))) hok (by omega) ⟨by show -9223372036854775808 ≤ (30 : Int); decide, by show (30 : Int) ≤ 9223372036854775807; decide⟩ ⟨by show -9223372036854775808 ≤ (30 : Int); decide, by show (30 : Int) ≤ 9223372036854775807; decide⟩ (inI_kin kk) (may_story kk n1 X 9 (by omega))) ?_; rintro v w2 ⟨a3, c3, l3, rfl, hl3, hll3, hn⟩; refine LR.back (h1.got hn (eO_dep _ _ _)) ?_; clear hn h1 w2 w1)))
    all_goals (refine At.stage_same (fun _ h => St.sub h (by repeat (first | exact List.Sublist.refl _ | apply List.Sublist.cons_cons | apply List.Sublist.cons))) ?_))
  all_goals (
    apply DW.quiet [9, 10, 11, 12, 13]
    · decide +kernel
    · first | exact fun _ h => h | exact fun _ h => St.sub h (by repeat (first | exact List.Sublist.refl _ | apply List.Sublist.cons_cons | apply List.Sublist.cons))
    repeat'(first|(apply yp;iterate 3 exact rfl)|(apply QL.ev;(·exact rfl);(·first|((first|apply Ez|apply Ey);(·exact rfl);(·repeat(first|exact iO|exact iR rfl|apply iT));exact rfl)|((first|apply Ev.fieldAddr|apply Ev.len|apply EqOf.eq|apply EqOf.ne|apply Ev.conv|apply Ev.buildN);exact rfl)|((first|apply Ev.shr|apply Ev.shl);(iterate 2 exact rfl);first|decide|omega));·exact rfl)|(apply yq;iterate 5 exact rfl)|(apply QL.evg;(iterate 3 exact rfl);(·first|((first|apply Ez|apply Ey);(·exact rfl);(·repeat(first|exact iO|exact iR rfl|apply iT));exact rfl)|((first|apply Ev.fieldAddr|apply Ev.len|apply EqOf.eq|apply EqOf.ne|apply Ev.conv|apply Ev.buildN);exact rfl)|((first|apply Ev.shr|apply Ev.shl);(iterate 2 exact rfl);first|decide|omega));·exact rfl)|(apply yn;iterate 4 exact rfl)|((apply QL.split;iterate 3 exact rfl);all_goals(intro hc;try simp only[hcs]at hc;try(exfalso;first|contradiction|omega)))|apply QL.nil)
    all_goals (show DW _ _ _ _ _ _ _ _))
  all_goals (first | (apply DW.done_thn; (· decide +kernel)) | (apply DW.done; (· decide +kernel)))
  repeat'(first|(apply CW.reg_heldC)|(apply kp;iterate 2 exact rfl)|apply jJ|(apply jE;exact rfl)|(apply jp;exact rfl)|(apply jc;kernel_rfl)|((first|apply kf|apply kn|apply ke|apply kx|apply kc|apply kb);iterate 2 exact rfl)|((first|apply kz|apply ky);(·exact rfl);(·repeat(first|exact iO|exact iR rfl|apply iT));iterate 2 exact rfl)|(apply kg;iterate 2 exact rfl)|(apply kG;iterate 3 exact rfl)|(apply kB;(iterate 2 exact rfl);intro _)|(apply kA;exact rfl;intro _)|(apply Go.Hb.kK;(iterate 4 exact rfl);intro _)|(apply kU;(iterate 2 exact rfl);(·repeat(first|exact sH _ _ _|apply sT));(first|exact nfL_eq rfl|exact rfl);exact rfl)|((first|apply kh|apply kl);(iterate 2 exact rfl);(first|decide|omega);exact rfl)|((first|(apply kR;iterate 2 exact rfl)|(apply kQ;exact rfl));all_goals(intro hc;try simp only[hcs]at hc;try(exfalso;first|contradiction|omega))))
  all_goals (
    apply DW.quiet [0, 1, 2, 3, 4, 5, 7]
    · decide +kernel
    · first | exact fun _ h => h | exact fun _ h => St.sub h (by repeat (first | exact List.Sublist.refl _ | apply List.Sublist.cons_cons | apply List.Sublist.cons))
    repeat'(first|(apply yp;iterate 3 exact rfl)|(apply QL.ev;(·exact rfl);(·first|((first|apply Ez|apply Ey);(·exact rfl);(·repeat(first|exact iO|exact iR rfl|apply iT));exact rfl)|((first|apply Ev.fieldAddr|apply Ev.len|apply EqOf.eq|apply EqOf.ne|apply Ev.conv|apply Ev.buildN);exact rfl)|((first|apply Ev.shr|apply Ev.shl);(iterate 2 exact rfl);first|decide|omega));·exact rfl)|(apply yq;iterate 5 exact rfl)|(apply QL.evg;(iterate 3 exact rfl);(·first|((first|apply Ez|apply Ey);(·exact rfl);(·repeat(first|exact iO|exact iR rfl|apply iT));exact rfl)|((first|apply Ev.fieldAddr|apply Ev.len|apply EqOf.eq|apply EqOf.ne|apply Ev.conv|apply Ev.buildN);exact rfl)|((first|apply Ev.shr|apply Ev.shl);(iterate 2 exact rfl);first|decide|omega));·exact rfl)|(apply yn;iterate 4 exact rfl)|((apply QL.split;iterate 3 exact rfl);all_goals(intro hc;try simp only[hcs]at hc;try(exfalso;first|contradiction|omega)))|apply QL.nil)
    all_goals (show DW _ _ _ _ _ _ _ _))
  all_goals (
    apply DW.loud 6
    · exact rfl
    · decide +kernel
    repeat'(first|(apply kg;iterate 2 exact rfl)|(apply kG;iterate 3 exact rfl)|apply kM|(apply kp;iterate 2 exact rfl)|((first|apply kz|apply ky);(·exact rfl);(·repeat(first|exact iO|exact iR rfl|apply iT));iterate 2 exact rfl)|(apply Go.Hb.kK;(iterate 4 exact rfl);intro _)|(apply kU;(iterate 2 exact rfl);(·repeat(first|exact sH _ _ _|apply sT));(first|exact nfL_eq rfl|exact rfl);exact rfl)|(apply kB;(iterate 2 exact rfl);intro _)|(apply kA;exact rfl;intro _)|(apply kq; (· exact rfl); (· intro w1 h1; exact CallsTo.q (q20 a l.length c kk w1) h1))|(apply LR.call; (· exact rfl); (intro w1 h1; refine CallsTo.mono (show CallsTo Try.prog 14 [(storyO n2 Y).val, .pointer (some ⟨bw, 0, none⟩), .int .i64 (kinC kk), (storyN 9).val] w1 _ from q14 bw bm es ar hi (storyO n2 Y) (kinC kk) (storyN 9) w1 (h1.holds _ (by (repeat (first | exact mH _ _ | apply mT)))) hok (by omega) ⟨by show -9223372036854775808 ≤ (30 : Int); decide, by show (30 : Int) ≤ 9223372036854775807; decide⟩ ⟨by show -9223372036854775808 ≤ (30 : Int); decide, by show (30 : Int) ≤ 9223372036854775807; decide⟩ (inI_kin kk) (may_story kk n2 Y 9 (by omega))) ?_; rintro v w2 ⟨a4, c4, l4, rfl, hl4, hll4, hn⟩; refine LR.back (h1.got hn (eO_dep _ _ _)) ?_; clear hn h1 w2 w1)))
    all_goals (refine At.stage_same (fun _ h => St.sub h (by repeat (first | exact List.Sublist.refl _ | apply List.Sublist.cons_cons | apply List.Sublist.cons))) ?_))
  all_goals (
    apply DW.loud 8
    · exact rfl
    · decide +kernel
    repeat'(first|(apply kg;iterate 2 exact rfl)|(apply kG;iterate 3 exact rfl)|apply kM|(apply kp;iterate 2 exact rfl)|((first|apply kz|apply ky);(·exact rfl);(·repeat(first|exact iO|exact iR rfl|apply iT));iterate 2 exact rfl)|(apply Go.Hb.kK;(iterate 4 exact rfl);intro _)|(apply kU;(iterate 2 exact rfl);(·repeat(first|exact sH _ _ _|apply sT));(first|exact nfL_eq rfl|exact rfl);exact rfl)|(apply kB;(iterate 2 exact rfl);intro _)|(apply kA;exact rfl;intro _)|(apply kq; (· exact rfl); (· intro w1 h1; exact CallsTo.q (q20 a l.length c kk w1) h1))|(apply LR.call; (· exact rfl); (intro w1 h1; refine CallsTo.mono (show CallsTo Try.prog 14 [(storyO n2 Y).val, .pointer (some ⟨bw, 0, none⟩), .int .i64 (kinC kk), (storyN 9).val] w1 _ from q14 bw bm es ar hi (storyO n2 Y) (kinC kk) (storyN 9) w1 (h1.holds _ (by (repeat (first | exact mH _ _ | apply mT)))) hok (by omega) ⟨by show -9223372036854775808 ≤ (30 : Int); decide, by show (30 : Int) ≤ 9223372036854775807; decide⟩ ⟨by show -9223372036854775808 ≤ (30 : Int); decide, by show (30 : Int) ≤ 9223372036854775807; decide⟩ (inI_kin kk) (may_story kk n2 Y 9 (by omega))) ?_; rintro v w2 ⟨a4, c4, l4, rfl, hl4, hll4, hn⟩; refine LR.back (h1.got hn (eO_dep _ _ _)) ?_; clear hn h1 w2 w1)))
    all_goals (refine At.stage_same (fun _ h => St.sub h (by repeat (first | exact List.Sublist.refl _ | apply List.Sublist.cons_cons | apply List.Sublist.cons))) ?_))
  all_goals (
    apply DW.quiet [9, 10, 11, 12, 13]
    · decide +kernel
    · first | exact fun _ h => h | exact fun _ h => St.sub h (by repeat (first | exact List.Sublist.refl _ | apply List.Sublist.cons_cons | apply List.Sublist.cons))
    repeat'(first|(apply yp;iterate 3 exact rfl)|(apply QL.ev;(·exact rfl);(·first|((first|apply Ez|apply Ey);(·exact rfl);(·repeat(first|exact iO|exact iR rfl|apply iT));exact rfl)|((first|apply Ev.fieldAddr|apply Ev.len|apply EqOf.eq|apply EqOf.ne|apply Ev.conv|apply Ev.buildN);exact rfl)|((first|apply Ev.shr|apply Ev.shl);(iterate 2 exact rfl);first|decide|omega));·exact rfl)|(apply yq;iterate 5 exact rfl)|(apply QL.evg;(iterate 3 exact rfl);(·first|((first|apply Ez|apply Ey);(·exact rfl);(·repeat(first|exact iO|exact iR rfl|apply iT));exact rfl)|((first|apply Ev.fieldAddr|apply Ev.len|apply EqOf.eq|apply EqOf.ne|apply Ev.conv|apply Ev.buildN);exact rfl)|((first|apply Ev.shr|apply Ev.shl);(iterate 2 exact rfl);first|decide|omega));·exact rfl)|(apply yn;iterate 4 exact rfl)|((apply QL.split;iterate 3 exact rfl);all_goals(intro hc;try simp only[hcs]at hc;try(exfalso;first|contradiction|omega)))|apply QL.nil)
    all_goals (show DW _ _ _ _ _ _ _ _))
  all_goals (first | (apply DW.done_thn; (· decide +kernel)) | (apply DW.done; (· decide +kernel)))
  have e1 := same_plain hok (kinC kk) X (trC (storyO n1 X) (kinC kk) (storyN 9)) (nxC (storyN 9)) rfl rfl n1 hu1 hs1
  have e2 := same_plain hok (kinC kk) Y (trC (storyO n2 Y) (kinC kk) (storyN 9)) (nxC (storyN 9)) rfl rfl n2 hu2 hs2
  rw [← hx1, show toldT (dats es) (n1 : Nat) X (kinC kk) (trC (storyO n1 X) (kinC kk) (storyN 9)) (nxC (storyN 9)) = l3.map EvA.e from hl3.symm] at e1
  rw [← hx2, show toldT (dats es) (n2 : Nat) Y (kinC kk) (trC (storyO n2 Y) (kinC kk) (storyN 9)) (nxC (storyN 9)) = l4.map EvA.e from hl4.symm] at e2
  obtain ⟨N3, hN3⟩ : ∃ N, (l3.map EvA.e).map numE = N := ⟨_, rfl⟩
  obtain ⟨N4, hN4⟩ : ∃ N, (l4.map EvA.e).map numE = N := ⟨_, rfl⟩
  have hq3 := plainT_len N3
  have hq4 := plainT_len N4
  have hr3 : N3.length = l3.length := by rw [← hN3, List.length_map, List.length_map]
  have hr4 : N4.length = l4.length := by rw [← hN4, List.length_map, List.length_map]
  rw [hN3] at e1
  rw [hN4] at e2
  clear hl3 hl4
  repeat'(first|(apply kp;iterate 2 exact rfl)|apply jJ|(apply jE;exact rfl)|(apply jp;exact rfl)|(apply jc;kernel_rfl)|((first|apply kf|apply kn|apply ke|apply kx|apply kc|apply kb);iterate 2 exact rfl)|((first|apply kz|apply ky);(·exact rfl);(·repeat(first|exact iO|exact iR rfl|apply iT));iterate 2 exact rfl)|(apply kg;iterate 2 exact rfl)|(apply kG;iterate 3 exact rfl)|(apply kB;(iterate 2 exact rfl);intro _)|(apply kA;exact rfl;intro _)|(apply Go.Hb.kK;(iterate 4 exact rfl);intro _)|(apply kU;(iterate 2 exact rfl);(·repeat(first|exact sH _ _ _|apply sT));(first|exact nfL_eq rfl|exact rfl);exact rfl)|((first|apply kh|apply kl);(iterate 2 exact rfl);(first|decide|omega);exact rfl)|(apply LR.call; (· exact rfl); (intro w1 h1; have hq := q21 a3 c3 l3 w1 (eO_r (h1.holds (eO a3 c3 l3) (by (repeat (first | exact mH _ _ | apply mT))))) (by omega); rw [hN3] at hq; refine CallsTo.mono hq ?_; rintro v w2 ⟨a5, c5, rfl, hn⟩; refine LR.back (h1.newSl hn) ?_; clear hn h1 hq w2 w1))|(apply LR.call; (· exact rfl); (intro w1 h1; have hq := q21 a4 c4 l4 w1 (eO_r (h1.holds (eO a4 c4 l4) (by (repeat (first | exact mH _ _ | apply mT))))) (by omega); rw [hN4] at hq; refine CallsTo.mono hq ?_; rintro v w2 ⟨a6, c6, rfl, hn⟩; refine LR.back (h1.newSl hn) ?_; clear hn h1 hq w2 w1))|(apply LR.call; (· exact rfl); (intro w1 h1; refine (q36 a5 c5 N3 w1 (h1.rd_of_own (by (repeat (first | exact mH _ _ | apply mT)))) (by omega)).mono ?_; rintro v w2 ⟨a7, c7, rfl, hn⟩; have hz7 := hn.some_of; refine LR.back (h1.newSl hn) ?_; clear hn h1 w2 w1))|(apply LR.call; (· exact rfl); (intro w1 h1; refine (q36 a6 c6 N4 w1 (h1.rd_of_own (by (repeat (first | exact mH _ _ | apply mT)))) (by omega)).mono ?_; rintro v w2 ⟨a8, c8, rfl, hn⟩; have hz8 := hn.some_of; refine LR.back (h1.newSl hn) ?_; clear hn h1 w2 w1))|(apply LR.append (xs := iv x1) (news := iv (plainT N3)) (m := (plainT N3).length); (· exact rfl); (· exact rfl); (· intro a' c'; (repeat (first | exact sH _ _ _ | apply sT))); (· exact fun w' hw' => hw'.rd_of_own (by (repeat (first | exact mH _ _ | apply mT)))); (· exact hz7); (· simp); (· exact iv_cell _); (· omega); (· unfold maxLen; omega); (· exact rfl); (intro a9 c9))|(apply LR.append (xs := iv x2) (news := iv (plainT N4)) (m := (plainT N4).length); (· exact rfl); (· exact rfl); (· intro a' c'; (repeat (first | exact sH _ _ _ | apply sT))); (· exact fun w' hw' => hw'.rd_of_own (by (repeat (first | exact mH _ _ | apply mT)))); (· exact hz8); (· simp); (· exact iv_cell _); (· omega); (· unfold maxLen; omega); (· exact rfl); (intro a10 c10))|(apply kq; (· exact rfl); (· intro w1 h1; have hq := CallsTo.q (t19 a9 a10 c9 c10 (x1 ++ plainT N3) (x2 ++ plainT N4) w1 (by rw [iv_app]; exact h1.rd_of_own (n := x1.length + (plainT N3).length) (by (repeat (first | exact mH _ _ | apply mT)))) (by rw [iv_app]; exact h1.rd_of_own (n := x2.length + (plainT N4).length) (by (repeat (first | exact mH _ _ | apply mT)))) (by rw [List.length_append]; omega)) h1; rw [decide_eq_true (e1.trans e2.symm), List.length_append, List.length_append] at hq; exact hq))|((first|(apply kR;iterate 2 exact rfl)|(apply kQ;exact rfl));all_goals(intro hc;try simp only[hcs]at hc;try(exfalso;first|contradiction|omega))))
  (apply ret1; (· exact rfl); intro w' hS)
  exact ⟨rfl, hS.toKeep⟩
end Go.Proofs.Ytkolmkdbjagfcaa

namespace Go.Proofs.Ytkolmkdbjagfcaa
open Go.Hb
attribute [local irreducible] LR CW At Ev thn blk finK noG again CallsTo DW QL dnext TW DP
set_option linter.unusedSimpArgs false
set_option linter.unusedVariables false
set_option maxRecDepth 100000

theorem Good.cons {t e : EvD} {gap safe kin last : Int} {tr : Bool} {r : List EvD} (h : Good t gap safe kin last tr (e :: r)) :
    (tr = false ∧ e = t ∧ Good t gap safe kin last true r) ∨ (∃ d : Dat, e = msgE d ∧ d.msg.kind ≠ 5 ∧ last < d.seq ∧ (tr = false → (d.msg.safe && decide (safe < d.seq)) = false ∧ d.seq ≤ gap) ∧ (gap < d.seq → hasC kin d.sender = true) ∧ Good t gap safe kin d.seq tr r) := by
  cases h with
  | trans h => exact .inl ⟨rfl, rfl, h⟩
  | msg h1 h2 h3 h4 h5 => exact .inr ⟨_, rfl, h1, h2, h3, h4, h5⟩
theorem Good.end_ {t : EvD} {gap safe kin last : Int} {tr : Bool} (h : Good t gap safe kin last tr []) : tr = true := by
  cases h with
  | nil => rfl
theorem Good.two {t : EvD} {gap safe kin last : Int} : ∀ {l : List EvD}, Good t gap safe kin last false l → 1 ≤ l.length
  | [], h => by cases h.end_
  | e :: r, h => by simp
structure G20 where
  i : Nat
  last : Int
  tr : Bool
  t : Int
set_option maxHeartbeats 8000000 in
theorem q4 (a : Option Addr) (c : Nat) (l : List Int) (kk x y : Int) (w : World) (hr : Rd w a (iv l)) (hm : l.length ≤ 17592186043904) :
    CallsTo Try.prog 4 [.agg [.slice a l.length c, .int .i64 kk].toArray, .int .i64 x, .int .i64 y] w fun v w' => v = .bool true ∧ Grew w w' := by
  obtain ⟨X, hX⟩ : ∃ X, bringT x 32 = X := ⟨_, rfl⟩
  obtain ⟨Y, hY⟩ : ∃ Y, bringT y 32 = Y := ⟨_, rfl⟩
  have hXb := bringT_bd x 32 (by omega)
  have hYb := bringT_bd y 32 (by omega)
  rw [hX] at hXb
  rw [hY] at hYb
  refine go_in (n := 139) (St.rd1 hr) Try.func4 rfl rfl ?_
  repeat'(first|(apply kB;(iterate 2 exact rfl);intro b3)|(apply kp;iterate 2 exact rfl)|apply jJ|(apply jE;exact rfl)|(apply jp;exact rfl)|(apply jc;kernel_rfl)|((first|apply kf|apply kn|apply ke|apply kx|apply kc|apply kb);iterate 2 exact rfl)|((first|apply kz|apply ky);(·exact rfl);(·repeat(first|exact iO|exact iR rfl|apply iT));iterate 2 exact rfl)|(apply kg;iterate 2 exact rfl)|(apply kG;iterate 3 exact rfl)|(apply kB;(iterate 2 exact rfl);intro _)|(apply kA;exact rfl;intro _)|(apply Go.Hb.kK;(iterate 4 exact rfl);intro _)|(apply kU;(iterate 2 exact rfl);(·repeat(first|exact sH _ _ _|apply sT));(first|exact nfL_eq rfl|exact rfl);exact rfl)|((first|apply kh|apply kl);(iterate 2 exact rfl);(first|decide|omega);exact rfl)|(apply kq; (· exact rfl); (· intro w1 h1; first | exact CallsTo.q (q17 w1) h1 | exact CallsTo.q (q20 a l.length c kk w1) h1 | (have hq := CallsTo.q (t21 x 32 w1 (by omega)) h1; rw [hX] at hq; exact hq) | (have hq := CallsTo.q (t21 y 32 w1 (by omega)) h1; rw [hY] at hq; exact hq)))|(apply LR.call; (· exact rfl); (intro w1 h1; refine (q18 a c l kk w1 (h1.rd_of (by (repeat (first | exact mH _ _ | apply mT)))) hm).mono ?_; rintro v w2 ⟨bw, bm, es, ar, hi, rfl, hok, hel, hn⟩; refine LR.back (h1.got hn (wO_dep _ _ _ _ _)) ?_; clear hn h1 w2 w1))|((first|(apply kR;iterate 2 exact rfl)|(apply kQ;exact rfl));all_goals(intro hc;try simp only[hcs]at hc;try(exfalso;first|contradiction|omega))))
  apply LR.call
  · exact rfl
  intro w1 h1
  refine CallsTo.mono (show CallsTo Try.prog 14 [(storyO X Y).val, .pointer (some ⟨bw, 0, none⟩), .int .i64 (kinC kk), (storyN 0).val] w1 _ from q14 bw bm es ar hi (storyO X Y) (kinC kk) (storyN 0) w1 (h1.holds _ (by (repeat (first | exact mH _ _ | apply mT)))) hok (by omega) ⟨by show -9223372036854775808 ≤ (30 : Int); decide, by show (30 : Int) ≤ 9223372036854775807; decide⟩ ⟨by show -9223372036854775808 ≤ (30 : Int); decide, by show (30 : Int) ≤ 9223372036854775807; decide⟩ (inI_kin kk) (may_story kk X Y 0 (by omega))) ?_
  rintro v w2 ⟨a3, c3, l3, rfl, hl3, hll3, hn⟩
  obtain ⟨PL, hPL⟩ : ∃ PL, progT Y (kinC kk) (cfgE (trC (storyO X Y) (kinC kk) (storyN 0))) X false false (abvT (dats es) X) = PL := ⟨_, rfl⟩
  have htold : l3.map EvA.e = PL ++ [cfgE (nxC (storyN 0))] := by rw [hl3, ← hPL]; rfl
  have hlen : l3.length = PL.length + 1 := by have := congrArg List.length htold; simpa using this
  have hgood : ∀ gap, GapN (dats es) X gap → Good (cfgE (trC (storyO X Y) (kinC kk) (storyN 0))) gap Y (kinC kk) X false PL := fun gap hg => by rw [← hPL]; exact told_good hok hg
  have hPL1 : 1 ≤ PL.length := by
    rw [← hPL]
    cases hx : progT Y (kinC kk) (cfgE (trC (storyO X Y) (kinC kk) (storyN 0))) X false false (abvT (dats es) X) with
    | cons => simp
    | nil =>
      exfalso
      have hz : ∀ (L : List Dat) (at_ : Int) (g : Bool), progT Y (kinC kk) (cfgE (trC (storyO X Y) (kinC kk) (storyN 0))) at_ false g L = [] → False := by
        intro L
        induction L with
        | nil => intro at_ g h; cases h
        | cons d r ih =>
          intro at_ g h
          unfold progT at h
          simp only [List.append_eq_nil_iff] at h
          obtain ⟨⟨h1, h2⟩, h3⟩ := h
          split at h1
          · cases h1
          · rename_i hcut
            have hcut := Bool.eq_false_iff.2 hcut
            rw [hcut] at h3
            exact ih _ _ h3
      exact hz _ _ _ hx
  obtain ⟨N, hN⟩ : ∃ N, (l3.map EvA.e).map numE = N := ⟨_, rfl⟩
  have hNl : N.length = l3.length := by rw [← hN, List.length_map, List.length_map]
  have hNi : ∀ i (h : i < l3.length), N[i]'(by omega) = numE l3[i].e := fun i h => by subst hN; simp
  have hPi : ∀ i (h : i < PL.length), l3[i].e = PL[i] := fun i h => by
    have h1 := congrArg (fun z => z[i]?) htold
    have h2 : i < l3.length := by omega
    simpa [h, h2, List.getElem?_append_left] using h1
  have hlast : N[l3.length - 1]'(by omega) = -1 := by
    rw [hNi _ (by omega)]
    have h1 := congrArg (fun z => z[l3.length - 1]?) htold
    have h2 : l3.length - 1 < l3.length := by omega
    have h3 : l3[l3.length - 1].e = cfgE (nxC (storyN 0)) := by simpa [h2, hlen] using h1
    rw [h3]
    rfl
  clear hl3 htold
  have ha3 : ∀ i, i < l3.length → ∃ bg og, a3 = some ⟨bg, og, none⟩ := fun i h => (eO_r hn.holds).form (rows_ne EvA.row_len (by omega) h)
  have hcel : ∀ w' k m (hk : k < l3.length) bg og, Rd w' (some ⟨bg, og, none⟩) (l3.flatMap EvA.row) → ∀ q, q = og + k * 26 + m → ∀ j v, l3[k].row[m + j]? = some v → w'.cell? ((⟨bg, q, none⟩ : Addr).add j) = some v := fun w' k m hk bg og h q hq j v hv => by
    have e : (⟨bg, q, none⟩ : Addr).add j = ⟨bg, q + j, none⟩ := by
      unfold Addr.add
      split
      · rename_i e0; subst e0; rfl
      · rfl
    rw [e]
    exact row_cell EvA.row_len h hk (m + j) hv (by omega)
  refine LR.back ((h1.got hn (eO_dep _ _ _)).part (osl.dep _ _ _ _ _) (bun_dep EvA.dep _)) ?_
  clear hn h1 w2 w1
  have hlv : (iv N)[((N.length : Int) - 1).toNat * 1]? = some (.int .i64 (-1)) := by rw [← hlast]; exact iv_at (by omega) (by omega)
  repeat'(first|(apply kp;iterate 2 exact rfl)|apply jJ|(apply jE;exact rfl)|(apply jp;exact rfl)|(apply jc;kernel_rfl)|((first|apply kf|apply kn|apply ke|apply kx|apply kc|apply kb);iterate 2 exact rfl)|((first|apply kz|apply ky);(·exact rfl);(·repeat(first|exact iO|exact iR rfl|apply iT));iterate 2 exact rfl)|(apply kg;iterate 2 exact rfl)|(apply kG;iterate 3 exact rfl)|(apply kB;(iterate 2 exact rfl);intro _)|(apply kA;exact rfl;intro _)|(apply Go.Hb.kK;(iterate 4 exact rfl);intro _)|(apply kU;(iterate 2 exact rfl);(·repeat(first|exact sH _ _ _|apply sT));(first|exact nfL_eq rfl|exact rfl);exact rfl)|((first|apply kh|apply kl);(iterate 2 exact rfl);(first|decide|omega);exact rfl)|(apply LR.call; (· exact rfl); (intro w1 h1; have hq := q21 a3 c3 l3 w1 (h1.rd_of_own (n := l3.length) (by (repeat (first | exact mH _ _ | apply mT)))) (by omega); rw [hN] at hq; refine CallsTo.mono hq ?_; rintro v w2 ⟨a5, c5, rfl, hn⟩; obtain ⟨bn, on, rfl⟩ := (ownsRow_rd (ownsRow_zero hn.own)).form (fun e => by have h2 := congrArg List.length e; simp only [iv_length, List.length_nil] at h2; omega); refine LR.back (h1.newSl hn) ?_; clear hn h1 hq w2 w1))|(apply subX;(iterate 2 exact rfl);(iterate 2(first|omega|(dsimp only;omega)));exact rfl)|(apply idxX;(iterate 2 exact rfl);(iterate 2(first|omega|(dsimp only;omega)));exact rfl)|(apply LR.ev; (· apply Ev.load_osl; (· exact rfl); (· (repeat (first | exact mH _ _ | apply mT))); (· exact hlv)); (· exact rfl))|(apply addX;(iterate 2 exact rfl);(iterate 2(first|omega|(dsimp only;omega)));exact rfl)|((first|(apply kR;iterate 2 exact rfl)|(apply kQ;exact rfl));all_goals(intro hc;try simp only[hcs]at hc;try(exfalso;first|contradiction|omega))))
  apply CW.loop [13, 14, 15, 59, 60, 61, 62, 63, 64, 65, 66, 67, 68] (fun gap : Int => X < gap ∧ gap ≤ 9007199254740992 ∧ ∀ s, X < s → s < gap → hasD (dats es) s = true) (fun gap => [(13, .int .i64 gap)])
    (fun _ => St w NoF [osl (.slice (some ⟨bn, on, none⟩) N.length c5) 3 1 N.length (iv N), eS a3 c3 l3, wO bw bm es ar hi, .own b3 (.cells [.slice a l.length c, .int .i64 kk].toArray 57 (0, 0))]) (fun gap => (9007199254740992 - gap).toNat)
  · intro w' hw'
    exact ⟨X + 1, ⟨by omega, by omega, fun s h1 h2 => by omega⟩, ⟨rfl, trivial⟩, hw'.sub (by (repeat (first | exact List.Sublist.refl _ | apply List.Sublist.cons_cons | apply List.Sublist.cons)))⟩
  rintro gap g1 ⟨hg1, hg2, hg3⟩
  simp only
  cases hx : hasD (dats es) gap
  rotate_left
  · have hgl : gap ≤ 9007199254740991 := by
      obtain ⟨d, hd, he⟩ := has_iff.1 hx
      have := hok.rng d hd
      omega
    repeat'(first|(apply kp;iterate 2 exact rfl)|apply jJ|(apply jE;exact rfl)|(apply jp;exact rfl)|(apply jc;kernel_rfl)|((first|apply kf|apply kn|apply ke|apply kx|apply kc|apply kb);iterate 2 exact rfl)|((first|apply kz|apply ky);(·exact rfl);(·repeat(first|exact iO|exact iR rfl|apply iT));iterate 2 exact rfl)|(apply kg;iterate 2 exact rfl)|(apply kG;iterate 3 exact rfl)|(apply kB;(iterate 2 exact rfl);intro _)|(apply kA;exact rfl;intro _)|(apply Go.Hb.kK;(iterate 4 exact rfl);intro _)|(apply kU;(iterate 2 exact rfl);(·repeat(first|exact sH _ _ _|apply sT));(first|exact nfL_eq rfl|exact rfl);exact rfl)|((first|apply kh|apply kl);(iterate 2 exact rfl);(first|decide|omega);exact rfl)|(apply addX;(iterate 2 exact rfl);(iterate 2(first|omega|(dsimp only;omega)));exact rfl)|(apply LR.call; (· exact rfl); (intro w1 h1; have ht := t32 bw bm es ar hi gap w1 (h1.holds _ (by (repeat (first | exact mH _ _ | apply mT)))) hok; rw [hx] at ht; refine ht.mono ?_; rintro v w2 ⟨a2, c2, rfl, hn⟩; refine LR.back (h1.newSl hn) ?_; clear hn h1 ht w2 w1))|((first|(apply kR;iterate 2 exact rfl)|(apply kQ;exact rfl));all_goals(intro hc;try simp only[hcs]at hc;try(exfalso;first|contradiction|omega))))
    refine At.again (gap + 1) ⟨by omega, by omega, fun s h1 h2 => ?_⟩ ?_ ⟨rfl, trivial⟩ (fun w' hw' => hw'.sub (by (repeat (first | exact List.Sublist.refl _ | apply List.Sublist.cons_cons | apply List.Sublist.cons)))) (by omega)
    · by_cases e : s = gap
      · rw [e]; exact hx
      · exact hg3 s h1 (by omega)
    · (repeat (first | exact Out.refl _ _ | exact Out.mix | (apply Out.upd; (· exact rfl)) | (apply Out.updL; (· exact rfl)) | (apply Out.mixs; (· exact rfl))))
  have hG := hgood gap ⟨hg1, hx, hg3⟩
  repeat'(first|(apply kp;iterate 2 exact rfl)|apply jJ|(apply jE;exact rfl)|(apply jp;exact rfl)|(apply jc;kernel_rfl)|((first|apply kf|apply kn|apply ke|apply kx|apply kc|apply kb);iterate 2 exact rfl)|((first|apply kz|apply ky);(·exact rfl);(·repeat(first|exact iO|exact iR rfl|apply iT));iterate 2 exact rfl)|(apply kg;iterate 2 exact rfl)|(apply kG;iterate 3 exact rfl)|(apply kB;(iterate 2 exact rfl);intro _)|(apply kA;exact rfl;intro _)|(apply Go.Hb.kK;(iterate 4 exact rfl);intro _)|(apply kU;(iterate 2 exact rfl);(·repeat(first|exact sH _ _ _|apply sT));(first|exact nfL_eq rfl|exact rfl);exact rfl)|((first|apply kh|apply kl);(iterate 2 exact rfl);(first|decide|omega);exact rfl)|(apply addX;(iterate 2 exact rfl);(iterate 2(first|omega|(dsimp only;omega)));exact rfl)|(apply LR.call; (· exact rfl); (intro w1 h1; have ht := t32 bw bm es ar hi gap w1 (h1.holds _ (by (repeat (first | exact mH _ _ | apply mT)))) hok; rw [hx] at ht; refine ht.mono ?_; rintro v w2 ⟨a2, c2, rfl, hn⟩; refine LR.back (h1.newSl hn) ?_; clear hn h1 ht w2 w1))|((first|(apply kR;iterate 2 exact rfl)|(apply kQ;exact rfl));all_goals(intro hc;try simp only[hcs]at hc;try(exfalso;first|contradiction|omega))))
  apply CW.loop [6, 11, 12, 16, 17, 69, 70, 71, 72, 73, 74, 75, 76, 77, 78, 79, 80, 81, 82, 83, 84, 85, 86, 87, 88, 89, 90, 91, 92, 93, 94, 95, 96, 97, 98, 99, 100, 101, 102, 103, 104, 105, 106, 107, 108, 109, 110, 111, 112, 113, 114, 115, 116, 117, 118, 119, 120, 121, 122, 123, 124, 125, 126, 127, 128, 129, 130, 131, 132, 133, 134, 135, 136] (fun s : G20 => s.i ≤ PL.length ∧ 0 ≤ s.last ∧ ((s.tr = false ∧ s.t = 0) ∨ (s.tr = true ∧ s.t = 1)) ∧ Good (cfgE (trC (storyO X Y) (kinC kk) (storyN 0))) gap Y (kinC kk) s.last s.tr (PL.drop s.i)) (fun s => [(16, .int .i64 (s.i : Int)), (11, .int .i64 s.last), (12, .int .i64 s.t)])
    (fun _ => St w NoF [osl (.slice (some ⟨bn, on, none⟩) N.length c5) 3 1 N.length (iv N), eS a3 c3 l3, .own b3 (.cells [.slice a l.length c, .int .i64 kk].toArray 57 (0, 0))]) (fun s => PL.length - s.i)
  · intro w' hw'
    exact ⟨⟨0, X, false, 0⟩, ⟨by simp, by simp only; omega, .inl ⟨rfl, rfl⟩, hG⟩, ⟨rfl, rfl, rfl, trivial⟩, hw'.sub (by (repeat (first | exact List.Sublist.refl _ | apply List.Sublist.cons_cons | apply List.Sublist.cons)))⟩
  rintro ⟨i, last, tr, t⟩ g2 ⟨hi, hl0, htt, hg⟩
  simp only at hi hl0 htt hg ⊢
  by_cases hlt : i < PL.length
  · rw [List.drop_eq_getElem_cons hlt, ← hPi i hlt] at hg
    have hli : i < l3.length := by omega
    have hnv : (iv N)[(i : Int).toNat * 1]? = some (.int .i64 (numE l3[i].e)) := by rw [← hNi i hli]; exact iv_at (by omega) (by omega)
    obtain ⟨bg, og, rfl⟩ : ∃ bg og, a3 = some ⟨bg, og, none⟩ := ha3 i hli
    rcases hg.cons with ⟨rfl, he, hr1⟩ | ⟨d, he, hk, hsq, hcut, hkin, hr1⟩
    · rcases htt with ⟨_, rfl⟩ | ⟨h, _⟩
      rotate_left
      · cases h
      rw [he, show numE (cfgE (trC (storyO X Y) (kinC kk) (storyN 0))) = 0 from rfl] at hnv
      repeat'(first|(apply kp;iterate 2 exact rfl)|apply jJ|(apply jE;exact rfl)|(apply jp;exact rfl)|(apply jc;kernel_rfl)|((first|apply kf|apply kn|apply ke|apply kx|apply kc|apply kb);iterate 2 exact rfl)|((first|apply kz|apply ky);(·exact rfl);(·repeat(first|exact iO|exact iR rfl|apply iT));iterate 2 exact rfl)|(apply kg;iterate 2 exact rfl)|(apply kG;iterate 3 exact rfl)|(apply kB;(iterate 2 exact rfl);intro _)|(apply kA;exact rfl;intro _)|(apply Go.Hb.kK;(iterate 4 exact rfl);intro _)|(apply kU;(iterate 2 exact rfl);(·repeat(first|exact sH _ _ _|apply sT));(first|exact nfL_eq rfl|exact rfl);exact rfl)|((first|apply kh|apply kl);(iterate 2 exact rfl);(first|decide|omega);exact rfl)|(apply subX;(iterate 2 exact rfl);(iterate 2(first|omega|(dsimp only;omega)));exact rfl)|(apply addX;(iterate 2 exact rfl);(iterate 2(first|omega|(dsimp only;omega)));exact rfl)|(apply idxX;(iterate 2 exact rfl);(iterate 2(first|omega|(dsimp only;omega)));exact rfl)|(apply LR.ev; (· first | (apply Ev.load_agg_at (cs := l3[i].x.row); (· exact rfl); (· exact rfl); (· intro w' hw' j v hv; exact hcel w' i 8 hli bg og (hw'.rd_of_own (n := l3.length) (by (repeat (first | exact mH _ _ | apply mT)))) _ (by omega) j v (dat_row hv))) | (apply Ev.load_osl; (· exact rfl); (· (repeat (first | exact mH _ _ | apply mT))); (· exact hnv))); (· exact rfl))|((first|(apply kR;iterate 2 exact rfl)|(apply kQ;exact rfl));all_goals(intro hc;try simp only[hcs]at hc;try(exfalso;first|contradiction|omega))))
      refine At.again (⟨i + 1, last, true, 1⟩ : G20) ⟨by simp only; omega, hl0, .inr ⟨rfl, rfl⟩, hr1⟩ ?_ ⟨rfl, rfl, rfl, trivial⟩ (fun w' hw' => hw'.sub (by (repeat (first | exact List.Sublist.refl _ | apply List.Sublist.cons_cons | apply List.Sublist.cons)))) (by simp only; omega)
      (repeat (first | exact Out.refl _ _ | exact Out.mix | (apply Out.upd; (· exact rfl)) | (apply Out.updL; (· exact rfl)) | (apply Out.mixs; (· exact rfl))))
    · have hd : l3[i].x.d = d := congrArg EvD.dat he
      rw [he, num_msg] at hnv
      subst hd
      rcases htt with ⟨rfl, rfl⟩ | ⟨rfl, rfl⟩
      · have hcut := hcut rfl
        have hle := hcut.2
        cases hsf : l3[i].x.d.msg.safe
        · have hR : l3[i].x.row.set 12 (.bool false) = l3[i].x.row := by rw [← hsf]; rfl
          repeat'(first|(apply CW.reg_heldC)|(apply kp;iterate 2 exact rfl)|apply jJ|(apply jE;exact rfl)|(apply jp;exact rfl)|(apply jc;kernel_rfl)|((first|apply kf|apply kn|apply ke|apply kx|apply kc|apply kb);iterate 2 exact rfl)|((first|apply kz|apply ky);(·exact rfl);(·repeat(first|exact iO|exact iR rfl|apply iT));iterate 2 exact rfl)|(apply kg;iterate 2 exact rfl)|(apply kG;iterate 3 exact rfl)|(apply kB;(iterate 2 exact rfl);intro _)|(apply kA;exact rfl;intro _)|(apply Go.Hb.kK;(iterate 4 exact rfl);intro _)|(apply kU;(iterate 2 exact rfl);(·repeat(first|exact sH _ _ _|apply sT));(first|exact nfL_eq rfl|exact rfl);exact rfl)|((first|apply kh|apply kl);(iterate 2 exact rfl);(first|decide|omega);exact rfl)|(apply subX;(iterate 2 exact rfl);(iterate 2(first|omega|(dsimp only;omega)));exact rfl)|(apply addX;(iterate 2 exact rfl);(iterate 2(first|omega|(dsimp only;omega)));exact rfl)|(apply idxX;(iterate 2 exact rfl);(iterate 2(first|omega|(dsimp only;omega)));exact rfl)|(apply LR.ev; (· first | (apply Ev.load_agg_at (cs := l3[i].x.row.set 12 (.bool false)); (· exact rfl); (· exact rfl); (· intro w' hw' j v hv; rw [hR] at hv; exact hcel w' i 8 hli bg og (hw'.rd_of_own (n := l3.length) (by (repeat (first | exact mH _ _ | apply mT)))) _ (by omega) j v (dat_row hv))) | (apply Ev.load_osl; (· exact rfl); (· (repeat (first | exact mH _ _ | apply mT))); (· exact hnv))); (· exact rfl))|((first|(apply kR;iterate 2 exact rfl)|(apply kQ;exact rfl));all_goals(intro hc;try simp only[hcs]at hc;try(exfalso;first|contradiction|omega))))
          all_goals (
            apply DW.quiet [0, 1, 2, 3, 4, 5, 6, 7, 8, 9, 10, 11, 12, 13, 14, 15, 16, 17, 18, 19, 20, 21, 22, 23, 24, 25, 27, 28]
            · decide +kernel
            · first | exact fun _ h => h | exact fun _ h => St.sub h (by repeat (first | exact List.Sublist.refl _ | apply List.Sublist.cons_cons | apply List.Sublist.cons))
            repeat'(first|(apply yp;iterate 3 exact rfl)|(apply QL.ev;(·exact rfl);(·first|((first|apply Ez|apply Ey);(·exact rfl);(·repeat(first|exact iO|exact iR rfl|apply iT));exact rfl)|((first|apply Ev.fieldAddr|apply Ev.len|apply EqOf.eq|apply EqOf.ne|apply Ev.conv|apply Ev.buildN);exact rfl)|((first|apply Ev.shr|apply Ev.shl);(iterate 2 exact rfl);first|decide|omega));·exact rfl)|(apply yq;iterate 5 exact rfl)|(apply QL.evg;(iterate 3 exact rfl);(·first|((first|apply Ez|apply Ey);(·exact rfl);(·repeat(first|exact iO|exact iR rfl|apply iT));exact rfl)|((first|apply Ev.fieldAddr|apply Ev.len|apply EqOf.eq|apply EqOf.ne|apply Ev.conv|apply Ev.buildN);exact rfl)|((first|apply Ev.shr|apply Ev.shl);(iterate 2 exact rfl);first|decide|omega));·exact rfl)|(apply yn;iterate 4 exact rfl)|((apply QL.split;iterate 3 exact rfl);all_goals(intro hc;try simp only[hcs]at hc;try(exfalso;first|contradiction|omega)))|apply QL.nil)
            all_goals (show DW _ _ _ _ _ _ _ _))
          all_goals (
            apply DW.loud 26
            · exact rfl
            · decide +kernel
            repeat'(first|(apply kg;iterate 2 exact rfl)|(apply kG;iterate 3 exact rfl)|apply kM|(apply kp;iterate 2 exact rfl)|((first|apply kz|apply ky);(·exact rfl);(·repeat(first|exact iO|exact iR rfl|apply iT));iterate 2 exact rfl)|(apply Go.Hb.kK;(iterate 4 exact rfl);intro _)|(apply kU;(iterate 2 exact rfl);(·repeat(first|exact sH _ _ _|apply sT));(first|exact nfL_eq rfl|exact rfl);exact rfl)|(apply kB;(iterate 2 exact rfl);intro _)|(apply kA;exact rfl;intro _)|(apply kq; (· exact rfl); (· intro w1 h1; first | exact CallsTo.q (q20 a l.length c kk w1) h1)))
            all_goals (refine At.stage_same (fun _ h => St.sub h (by repeat (first | exact List.Sublist.refl _ | apply List.Sublist.cons_cons | apply List.Sublist.cons))) ?_))
          all_goals (
            apply DW.loud 29
            · exact rfl
            · decide +kernel
            repeat'(first|(apply kg;iterate 2 exact rfl)|(apply kG;iterate 3 exact rfl)|apply kM|(apply kp;iterate 2 exact rfl)|((first|apply kz|apply ky);(·exact rfl);(·repeat(first|exact iO|exact iR rfl|apply iT));iterate 2 exact rfl)|(apply Go.Hb.kK;(iterate 4 exact rfl);intro _)|(apply kU;(iterate 2 exact rfl);(·repeat(first|exact sH _ _ _|apply sT));(first|exact nfL_eq rfl|exact rfl);exact rfl)|(apply kB;(iterate 2 exact rfl);intro _)|(apply kA;exact rfl;intro _)|(apply kq; (· exact rfl); (· intro w1 h1; first | exact CallsTo.q (q20 a l.length c kk w1) h1)))
            all_goals (refine At.stage_same (fun _ h => St.sub h (by repeat (first | exact List.Sublist.refl _ | apply List.Sublist.cons_cons | apply List.Sublist.cons))) ?_))
          all_goals (
            apply DW.quiet [30, 31, 32]
            · decide +kernel
            · first | exact fun _ h => h | exact fun _ h => St.sub h (by repeat (first | exact List.Sublist.refl _ | apply List.Sublist.cons_cons | apply List.Sublist.cons))
            repeat'(first|(apply yp;iterate 3 exact rfl)|(apply QL.ev;(·exact rfl);(·first|((first|apply Ez|apply Ey);(·exact rfl);(·repeat(first|exact iO|exact iR rfl|apply iT));exact rfl)|((first|apply Ev.fieldAddr|apply Ev.len|apply EqOf.eq|apply EqOf.ne|apply Ev.conv|apply Ev.buildN);exact rfl)|((first|apply Ev.shr|apply Ev.shl);(iterate 2 exact rfl);first|decide|omega));·exact rfl)|(apply yq;iterate 5 exact rfl)|(apply QL.evg;(iterate 3 exact rfl);(·first|((first|apply Ez|apply Ey);(·exact rfl);(·repeat(first|exact iO|exact iR rfl|apply iT));exact rfl)|((first|apply Ev.fieldAddr|apply Ev.len|apply EqOf.eq|apply EqOf.ne|apply Ev.conv|apply Ev.buildN);exact rfl)|((first|apply Ev.shr|apply Ev.shl);(iterate 2 exact rfl);first|decide|omega));·exact rfl)|(apply yn;iterate 4 exact rfl)|((apply QL.split;iterate 3 exact rfl);all_goals(intro hc;try simp only[hcs]at hc;try(exfalso;first|contradiction|omega)))|apply QL.nil)
            all_goals (show DW _ _ _ _ _ _ _ _))
          all_goals (first | (apply DW.done_thn; (· decide +kernel)) | (apply DW.done; (· decide +kernel)))
          repeat'(first|(apply kp;iterate 2 exact rfl)|apply jJ|(apply jE;exact rfl)|(apply jp;exact rfl)|(apply jc;kernel_rfl)|((first|apply kf|apply kn|apply ke|apply kx|apply kc|apply kb);iterate 2 exact rfl)|((first|apply kz|apply ky);(·exact rfl);(·repeat(first|exact iO|exact iR rfl|apply iT));iterate 2 exact rfl)|(apply kg;iterate 2 exact rfl)|(apply kG;iterate 3 exact rfl)|(apply kB;(iterate 2 exact rfl);intro _)|(apply kA;exact rfl;intro _)|(apply Go.Hb.kK;(iterate 4 exact rfl);intro _)|(apply kU;(iterate 2 exact rfl);(·repeat(first|exact sH _ _ _|apply sT));(first|exact nfL_eq rfl|exact rfl);exact rfl)|((first|apply kh|apply kl);(iterate 2 exact rfl);(first|decide|omega);exact rfl)|(apply addX;(iterate 2 exact rfl);(iterate 2(first|omega|(dsimp only;omega)));exact rfl)|((first|(apply kR;iterate 2 exact rfl)|(apply kQ;exact rfl));all_goals(intro hc;try simp only[hcs]at hc;try(exfalso;first|contradiction|omega))))
          refine At.again (⟨i + 1, l3[i].x.d.seq, false, 0⟩ : G20) ⟨by simp only; omega, by simp only; omega, .inl ⟨rfl, rfl⟩, hr1⟩ ?_ ⟨rfl, rfl, rfl, trivial⟩ (fun w' hw' => hw'.sub (by (repeat (first | exact List.Sublist.refl _ | apply List.Sublist.cons_cons | apply List.Sublist.cons)))) (by simp only; omega)
          (repeat (first | exact Out.refl _ _ | exact Out.mix | (apply Out.upd; (· exact rfl)) | (apply Out.updL; (· exact rfl)) | (apply Out.mixs; (· exact rfl))))
        · have hR : l3[i].x.row.set 12 (.bool true) = l3[i].x.row := by rw [← hsf]; rfl
          have hYs : ¬ Y < l3[i].x.d.seq := by
            have h1 := hcut.1
            rw [hsf] at h1
            simpa using h1
          repeat'(first|(apply CW.reg_heldC)|(apply kp;iterate 2 exact rfl)|apply jJ|(apply jE;exact rfl)|(apply jp;exact rfl)|(apply jc;kernel_rfl)|((first|apply kf|apply kn|apply ke|apply kx|apply kc|apply kb);iterate 2 exact rfl)|((first|apply kz|apply ky);(·exact rfl);(·repeat(first|exact iO|exact iR rfl|apply iT));iterate 2 exact rfl)|(apply kg;iterate 2 exact rfl)|(apply kG;iterate 3 exact rfl)|(apply kB;(iterate 2 exact rfl);intro _)|(apply kA;exact rfl;intro _)|(apply Go.Hb.kK;(iterate 4 exact rfl);intro _)|(apply kU;(iterate 2 exact rfl);(·repeat(first|exact sH _ _ _|apply sT));(first|exact nfL_eq rfl|exact rfl);exact rfl)|((first|apply kh|apply kl);(iterate 2 exact rfl);(first|decide|omega);exact rfl)|(apply subX;(iterate 2 exact rfl);(iterate 2(first|omega|(dsimp only;omega)));exact rfl)|(apply addX;(iterate 2 exact rfl);(iterate 2(first|omega|(dsimp only;omega)));exact rfl)|(apply idxX;(iterate 2 exact rfl);(iterate 2(first|omega|(dsimp only;omega)));exact rfl)|(apply LR.ev; (· first | (apply Ev.load_agg_at (cs := l3[i].x.row.set 12 (.bool true)); (· exact rfl); (· exact rfl); (· intro w' hw' j v hv; rw [hR] at hv; exact hcel w' i 8 hli bg og (hw'.rd_of_own (n := l3.length) (by (repeat (first | exact mH _ _ | apply mT)))) _ (by omega) j v (dat_row hv))) | (apply Ev.load_osl; (· exact rfl); (· (repeat (first | exact mH _ _ | apply mT))); (· exact hnv))); (· exact rfl))|((first|(apply kR;iterate 2 exact rfl)|(apply kQ;exact rfl));all_goals(intro hc;try simp only[hcs]at hc;try(exfalso;first|contradiction|omega))))
          all_goals (
            apply DW.quiet [0, 1, 2, 3, 4, 5, 6, 7, 8, 9, 10, 11, 12, 13, 14, 15, 16, 17, 18, 19, 20, 21, 22, 23, 24, 25, 27, 28]
            · decide +kernel
            · first | exact fun _ h => h | exact fun _ h => St.sub h (by repeat (first | exact List.Sublist.refl _ | apply List.Sublist.cons_cons | apply List.Sublist.cons))
            repeat'(first|(apply yp;iterate 3 exact rfl)|(apply QL.ev;(·exact rfl);(·first|((first|apply Ez|apply Ey);(·exact rfl);(·repeat(first|exact iO|exact iR rfl|apply iT));exact rfl)|((first|apply Ev.fieldAddr|apply Ev.len|apply EqOf.eq|apply EqOf.ne|apply Ev.conv|apply Ev.buildN);exact rfl)|((first|apply Ev.shr|apply Ev.shl);(iterate 2 exact rfl);first|decide|omega));·exact rfl)|(apply yq;iterate 5 exact rfl)|(apply QL.evg;(iterate 3 exact rfl);(·first|((first|apply Ez|apply Ey);(·exact rfl);(·repeat(first|exact iO|exact iR rfl|apply iT));exact rfl)|((first|apply Ev.fieldAddr|apply Ev.len|apply EqOf.eq|apply EqOf.ne|apply Ev.conv|apply Ev.buildN);exact rfl)|((first|apply Ev.shr|apply Ev.shl);(iterate 2 exact rfl);first|decide|omega));·exact rfl)|(apply yn;iterate 4 exact rfl)|((apply QL.split;iterate 3 exact rfl);all_goals(intro hc;try simp only[hcs]at hc;try(exfalso;first|contradiction|omega)))|apply QL.nil)
            all_goals (show DW _ _ _ _ _ _ _ _))
          all_goals (
            apply DW.loud 26
            · exact rfl
            · decide +kernel
            repeat'(first|(apply kg;iterate 2 exact rfl)|(apply kG;iterate 3 exact rfl)|apply kM|(apply kp;iterate 2 exact rfl)|((first|apply kz|apply ky);(·exact rfl);(·repeat(first|exact iO|exact iR rfl|apply iT));iterate 2 exact rfl)|(apply Go.Hb.kK;(iterate 4 exact rfl);intro _)|(apply kU;(iterate 2 exact rfl);(·repeat(first|exact sH _ _ _|apply sT));(first|exact nfL_eq rfl|exact rfl);exact rfl)|(apply kB;(iterate 2 exact rfl);intro _)|(apply kA;exact rfl;intro _)|(apply kq; (· exact rfl); (· intro w1 h1; first | exact CallsTo.q (q20 a l.length c kk w1) h1)))
            all_goals (refine At.stage_same (fun _ h => St.sub h (by repeat (first | exact List.Sublist.refl _ | apply List.Sublist.cons_cons | apply List.Sublist.cons))) ?_))
          all_goals (
            apply DW.loud 29
            · exact rfl
            · decide +kernel
            repeat'(first|(apply kg;iterate 2 exact rfl)|(apply kG;iterate 3 exact rfl)|apply kM|(apply kp;iterate 2 exact rfl)|((first|apply kz|apply ky);(·exact rfl);(·repeat(first|exact iO|exact iR rfl|apply iT));iterate 2 exact rfl)|(apply Go.Hb.kK;(iterate 4 exact rfl);intro _)|(apply kU;(iterate 2 exact rfl);(·repeat(first|exact sH _ _ _|apply sT));(first|exact nfL_eq rfl|exact rfl);exact rfl)|(apply kB;(iterate 2 exact rfl);intro _)|(apply kA;exact rfl;intro _)|(apply kq; (· exact rfl); (· intro w1 h1; first | exact CallsTo.q (q20 a l.length c kk w1) h1)))
            all_goals (refine At.stage_same (fun _ h => St.sub h (by repeat (first | exact List.Sublist.refl _ | apply List.Sublist.cons_cons | apply List.Sublist.cons))) ?_))
          all_goals (
            apply DW.quiet [30, 31, 32]
            · decide +kernel
            · first | exact fun _ h => h | exact fun _ h => St.sub h (by repeat (first | exact List.Sublist.refl _ | apply List.Sublist.cons_cons | apply List.Sublist.cons))
            repeat'(first|(apply yp;iterate 3 exact rfl)|(apply QL.ev;(·exact rfl);(·first|((first|apply Ez|apply Ey);(·exact rfl);(·repeat(first|exact iO|exact iR rfl|apply iT));exact rfl)|((first|apply Ev.fieldAddr|apply Ev.len|apply EqOf.eq|apply EqOf.ne|apply Ev.conv|apply Ev.buildN);exact rfl)|((first|apply Ev.shr|apply Ev.shl);(iterate 2 exact rfl);first|decide|omega));·exact rfl)|(apply yq;iterate 5 exact rfl)|(apply QL.evg;(iterate 3 exact rfl);(·first|((first|apply Ez|apply Ey);(·exact rfl);(·repeat(first|exact iO|exact iR rfl|apply iT));exact rfl)|((first|apply Ev.fieldAddr|apply Ev.len|apply EqOf.eq|apply EqOf.ne|apply Ev.conv|apply Ev.buildN);exact rfl)|((first|apply Ev.shr|apply Ev.shl);(iterate 2 exact rfl);first|decide|omega));·exact rfl)|(apply yn;iterate 4 exact rfl)|((apply QL.split;iterate 3 exact rfl);all_goals(intro hc;try simp only[hcs]at hc;try(exfalso;first|contradiction|omega)))|apply QL.nil)
            all_goals (show DW _ _ _ _ _ _ _ _))
          all_goals (first | (apply DW.done_thn; (· decide +kernel)) | (apply DW.done; (· decide +kernel)))
          repeat'(first|(apply kp;iterate 2 exact rfl)|apply jJ|(apply jE;exact rfl)|(apply jp;exact rfl)|(apply jc;kernel_rfl)|((first|apply kf|apply kn|apply ke|apply kx|apply kc|apply kb);iterate 2 exact rfl)|((first|apply kz|apply ky);(·exact rfl);(·repeat(first|exact iO|exact iR rfl|apply iT));iterate 2 exact rfl)|(apply kg;iterate 2 exact rfl)|(apply kG;iterate 3 exact rfl)|(apply kB;(iterate 2 exact rfl);intro _)|(apply kA;exact rfl;intro _)|(apply Go.Hb.kK;(iterate 4 exact rfl);intro _)|(apply kU;(iterate 2 exact rfl);(·repeat(first|exact sH _ _ _|apply sT));(first|exact nfL_eq rfl|exact rfl);exact rfl)|((first|apply kh|apply kl);(iterate 2 exact rfl);(first|decide|omega);exact rfl)|(apply addX;(iterate 2 exact rfl);(iterate 2(first|omega|(dsimp only;omega)));exact rfl)|((first|(apply kR;iterate 2 exact rfl)|(apply kQ;exact rfl));all_goals(intro hc;try simp only[hcs]at hc;try(exfalso;first|contradiction|omega))))
          refine At.again (⟨i + 1, l3[i].x.d.seq, false, 0⟩ : G20) ⟨by simp only; omega, by simp only; omega, .inl ⟨rfl, rfl⟩, hr1⟩ ?_ ⟨rfl, rfl, rfl, trivial⟩ (fun w' hw' => hw'.sub (by (repeat (first | exact List.Sublist.refl _ | apply List.Sublist.cons_cons | apply List.Sublist.cons)))) (by simp only; omega)
          (repeat (first | exact Out.refl _ _ | exact Out.mix | (apply Out.upd; (· exact rfl)) | (apply Out.updL; (· exact rfl)) | (apply Out.mixs; (· exact rfl))))
      · by_cases hgs : gap < l3[i].x.d.seq
        · repeat'(first|(apply CW.reg_heldC)|(apply kp;iterate 2 exact rfl)|apply jJ|(apply jE;exact rfl)|(apply jp;exact rfl)|(apply jc;kernel_rfl)|((first|apply kf|apply kn|apply ke|apply kx|apply kc|apply kb);iterate 2 exact rfl)|((first|apply kz|apply ky);(·exact rfl);(·repeat(first|exact iO|exact iR rfl|apply iT));iterate 2 exact rfl)|(apply kg;iterate 2 exact rfl)|(apply kG;iterate 3 exact rfl)|(apply kB;(iterate 2 exact rfl);intro _)|(apply kA;exact rfl;intro _)|(apply Go.Hb.kK;(iterate 4 exact rfl);intro _)|(apply kU;(iterate 2 exact rfl);(·repeat(first|exact sH _ _ _|apply sT));(first|exact nfL_eq rfl|exact rfl);exact rfl)|((first|apply kh|apply kl);(iterate 2 exact rfl);(first|decide|omega);exact rfl)|(apply subX;(iterate 2 exact rfl);(iterate 2(first|omega|(dsimp only;omega)));exact rfl)|(apply addX;(iterate 2 exact rfl);(iterate 2(first|omega|(dsimp only;omega)));exact rfl)|(apply idxX;(iterate 2 exact rfl);(iterate 2(first|omega|(dsimp only;omega)));exact rfl)|(apply LR.ev; (· first | (apply Ev.load_agg_at (cs := l3[i].x.row); (· exact rfl); (· exact rfl); (· intro w' hw' j v hv; exact hcel w' i 8 hli bg og (hw'.rd_of_own (n := l3.length) (by (repeat (first | exact mH _ _ | apply mT)))) _ (by omega) j v (dat_row hv))) | (apply Ev.load_osl; (· exact rfl); (· (repeat (first | exact mH _ _ | apply mT))); (· exact hnv))); (· exact rfl))|((first|(apply kR;iterate 2 exact rfl)|(apply kQ;exact rfl));all_goals(intro hc;try simp only[hcs]at hc;try(exfalso;first|contradiction|omega))))
          all_goals (
            apply DW.quiet [0, 1, 2, 3, 4, 5, 6, 7, 8, 9, 10, 11, 12, 13, 14, 15, 16, 17, 18, 19, 20, 21, 22, 23, 24, 25, 27, 28]
            · decide +kernel
            · first | exact fun _ h => h | exact fun _ h => St.sub h (by repeat (first | exact List.Sublist.refl _ | apply List.Sublist.cons_cons | apply List.Sublist.cons))
            repeat'(first|(apply yp;iterate 3 exact rfl)|(apply QL.ev;(·exact rfl);(·first|((first|apply Ez|apply Ey);(·exact rfl);(·repeat(first|exact iO|exact iR rfl|apply iT));exact rfl)|((first|apply Ev.fieldAddr|apply Ev.len|apply EqOf.eq|apply EqOf.ne|apply Ev.conv|apply Ev.buildN);exact rfl)|((first|apply Ev.shr|apply Ev.shl);(iterate 2 exact rfl);first|decide|omega));·exact rfl)|(apply yq;iterate 5 exact rfl)|(apply QL.evg;(iterate 3 exact rfl);(·first|((first|apply Ez|apply Ey);(·exact rfl);(·repeat(first|exact iO|exact iR rfl|apply iT));exact rfl)|((first|apply Ev.fieldAddr|apply Ev.len|apply EqOf.eq|apply EqOf.ne|apply Ev.conv|apply Ev.buildN);exact rfl)|((first|apply Ev.shr|apply Ev.shl);(iterate 2 exact rfl);first|decide|omega));·exact rfl)|(apply yn;iterate 4 exact rfl)|((apply QL.split;iterate 3 exact rfl);all_goals(intro hc;try simp only[hcs]at hc;try(exfalso;first|contradiction|omega)))|apply QL.nil)
            all_goals (show DW _ _ _ _ _ _ _ _))
          all_goals (
            apply DW.loud 26
            · exact rfl
            · decide +kernel
            repeat'(first|(apply kg;iterate 2 exact rfl)|(apply kG;iterate 3 exact rfl)|apply kM|(apply kp;iterate 2 exact rfl)|((first|apply kz|apply ky);(·exact rfl);(·repeat(first|exact iO|exact iR rfl|apply iT));iterate 2 exact rfl)|(apply Go.Hb.kK;(iterate 4 exact rfl);intro _)|(apply kU;(iterate 2 exact rfl);(·repeat(first|exact sH _ _ _|apply sT));(first|exact nfL_eq rfl|exact rfl);exact rfl)|(apply kB;(iterate 2 exact rfl);intro _)|(apply kA;exact rfl;intro _)|(apply kq; (· exact rfl); (· intro w1 h1; first | exact CallsTo.q (q20 a l.length c kk w1) h1 | (have hq := CallsTo.q (q23 (kinC kk) l3[i].x.d.sender w1) h1; rw [hkin hgs] at hq; exact hq))))
            all_goals (refine At.stage_same (fun _ h => St.sub h (by repeat (first | exact List.Sublist.refl _ | apply List.Sublist.cons_cons | apply List.Sublist.cons))) ?_))
          all_goals (
            apply DW.loud 29
            · exact rfl
            · decide +kernel
            repeat'(first|(apply kg;iterate 2 exact rfl)|(apply kG;iterate 3 exact rfl)|apply kM|(apply kp;iterate 2 exact rfl)|((first|apply kz|apply ky);(·exact rfl);(·repeat(first|exact iO|exact iR rfl|apply iT));iterate 2 exact rfl)|(apply Go.Hb.kK;(iterate 4 exact rfl);intro _)|(apply kU;(iterate 2 exact rfl);(·repeat(first|exact sH _ _ _|apply sT));(first|exact nfL_eq rfl|exact rfl);exact rfl)|(apply kB;(iterate 2 exact rfl);intro _)|(apply kA;exact rfl;intro _)|(apply kq; (· exact rfl); (· intro w1 h1; first | exact CallsTo.q (q20 a l.length c kk w1) h1 | (have hq := CallsTo.q (q23 (kinC kk) l3[i].x.d.sender w1) h1; rw [hkin hgs] at hq; exact hq))))
            all_goals (refine At.stage_same (fun _ h => St.sub h (by repeat (first | exact List.Sublist.refl _ | apply List.Sublist.cons_cons | apply List.Sublist.cons))) ?_))
          all_goals (
            apply DW.quiet [30, 31, 32]
            · decide +kernel
            · first | exact fun _ h => h | exact fun _ h => St.sub h (by repeat (first | exact List.Sublist.refl _ | apply List.Sublist.cons_cons | apply List.Sublist.cons))
            repeat'(first|(apply yp;iterate 3 exact rfl)|(apply QL.ev;(·exact rfl);(·first|((first|apply Ez|apply Ey);(·exact rfl);(·repeat(first|exact iO|exact iR rfl|apply iT));exact rfl)|((first|apply Ev.fieldAddr|apply Ev.len|apply EqOf.eq|apply EqOf.ne|apply Ev.conv|apply Ev.buildN);exact rfl)|((first|apply Ev.shr|apply Ev.shl);(iterate 2 exact rfl);first|decide|omega));·exact rfl)|(apply yq;iterate 5 exact rfl)|(apply QL.evg;(iterate 3 exact rfl);(·first|((first|apply Ez|apply Ey);(·exact rfl);(·repeat(first|exact iO|exact iR rfl|apply iT));exact rfl)|((first|apply Ev.fieldAddr|apply Ev.len|apply EqOf.eq|apply EqOf.ne|apply Ev.conv|apply Ev.buildN);exact rfl)|((first|apply Ev.shr|apply Ev.shl);(iterate 2 exact rfl);first|decide|omega));·exact rfl)|(apply yn;iterate 4 exact rfl)|((apply QL.split;iterate 3 exact rfl);all_goals(intro hc;try simp only[hcs]at hc;try(exfalso;first|contradiction|omega)))|apply QL.nil)
            all_goals (show DW _ _ _ _ _ _ _ _))
          all_goals (first | (apply DW.done_thn; (· decide +kernel)) | (apply DW.done; (· decide +kernel)))
          repeat'(first|(apply kp;iterate 2 exact rfl)|apply jJ|(apply jE;exact rfl)|(apply jp;exact rfl)|(apply jc;kernel_rfl)|((first|apply kf|apply kn|apply ke|apply kx|apply kc|apply kb);iterate 2 exact rfl)|((first|apply kz|apply ky);(·exact rfl);(·repeat(first|exact iO|exact iR rfl|apply iT));iterate 2 exact rfl)|(apply kg;iterate 2 exact rfl)|(apply kG;iterate 3 exact rfl)|(apply kB;(iterate 2 exact rfl);intro _)|(apply kA;exact rfl;intro _)|(apply Go.Hb.kK;(iterate 4 exact rfl);intro _)|(apply kU;(iterate 2 exact rfl);(·repeat(first|exact sH _ _ _|apply sT));(first|exact nfL_eq rfl|exact rfl);exact rfl)|((first|apply kh|apply kl);(iterate 2 exact rfl);(first|decide|omega);exact rfl)|(apply addX;(iterate 2 exact rfl);(iterate 2(first|omega|(dsimp only;omega)));exact rfl)|((first|(apply kR;iterate 2 exact rfl)|(apply kQ;exact rfl));all_goals(intro hc;try simp only[hcs]at hc;try(exfalso;first|contradiction|omega))))
          refine At.again (⟨i + 1, l3[i].x.d.seq, true, 1⟩ : G20) ⟨by simp only; omega, by simp only; omega, .inr ⟨rfl, rfl⟩, hr1⟩ ?_ ⟨rfl, rfl, rfl, trivial⟩ (fun w' hw' => hw'.sub (by (repeat (first | exact List.Sublist.refl _ | apply List.Sublist.cons_cons | apply List.Sublist.cons)))) (by simp only; omega)
          (repeat (first | exact Out.refl _ _ | exact Out.mix | (apply Out.upd; (· exact rfl)) | (apply Out.updL; (· exact rfl)) | (apply Out.mixs; (· exact rfl))))
        · repeat'(first|(apply CW.reg_heldC)|(apply kp;iterate 2 exact rfl)|apply jJ|(apply jE;exact rfl)|(apply jp;exact rfl)|(apply jc;kernel_rfl)|((first|apply kf|apply kn|apply ke|apply kx|apply kc|apply kb);iterate 2 exact rfl)|((first|apply kz|apply ky);(·exact rfl);(·repeat(first|exact iO|exact iR rfl|apply iT));iterate 2 exact rfl)|(apply kg;iterate 2 exact rfl)|(apply kG;iterate 3 exact rfl)|(apply kB;(iterate 2 exact rfl);intro _)|(apply kA;exact rfl;intro _)|(apply Go.Hb.kK;(iterate 4 exact rfl);intro _)|(apply kU;(iterate 2 exact rfl);(·repeat(first|exact sH _ _ _|apply sT));(first|exact nfL_eq rfl|exact rfl);exact rfl)|((first|apply kh|apply kl);(iterate 2 exact rfl);(first|decide|omega);exact rfl)|(apply subX;(iterate 2 exact rfl);(iterate 2(first|omega|(dsimp only;omega)));exact rfl)|(apply addX;(iterate 2 exact rfl);(iterate 2(first|omega|(dsimp only;omega)));exact rfl)|(apply idxX;(iterate 2 exact rfl);(iterate 2(first|omega|(dsimp only;omega)));exact rfl)|(apply LR.ev; (· first | (apply Ev.load_agg_at (cs := l3[i].x.row); (· exact rfl); (· exact rfl); (· intro w' hw' j v hv; exact hcel w' i 8 hli bg og (hw'.rd_of_own (n := l3.length) (by (repeat (first | exact mH _ _ | apply mT)))) _ (by omega) j v (dat_row hv))) | (apply Ev.load_osl; (· exact rfl); (· (repeat (first | exact mH _ _ | apply mT))); (· exact hnv))); (· exact rfl))|((first|(apply kR;iterate 2 exact rfl)|(apply kQ;exact rfl));all_goals(intro hc;try simp only[hcs]at hc;try(exfalso;first|contradiction|omega))))
          all_goals (
            apply DW.quiet [0, 1, 2, 3, 4, 5, 6, 7, 8, 9, 10, 11, 12, 13, 14, 15, 16, 17, 18, 19, 20, 21, 22, 23, 24, 25, 27, 28]
            · decide +kernel
            · first | exact fun _ h => h | exact fun _ h => St.sub h (by repeat (first | exact List.Sublist.refl _ | apply List.Sublist.cons_cons | apply List.Sublist.cons))
            repeat'(first|(apply yp;iterate 3 exact rfl)|(apply QL.ev;(·exact rfl);(·first|((first|apply Ez|apply Ey);(·exact rfl);(·repeat(first|exact iO|exact iR rfl|apply iT));exact rfl)|((first|apply Ev.fieldAddr|apply Ev.len|apply EqOf.eq|apply EqOf.ne|apply Ev.conv|apply Ev.buildN);exact rfl)|((first|apply Ev.shr|apply Ev.shl);(iterate 2 exact rfl);first|decide|omega));·exact rfl)|(apply yq;iterate 5 exact rfl)|(apply QL.evg;(iterate 3 exact rfl);(·first|((first|apply Ez|apply Ey);(·exact rfl);(·repeat(first|exact iO|exact iR rfl|apply iT));exact rfl)|((first|apply Ev.fieldAddr|apply Ev.len|apply EqOf.eq|apply EqOf.ne|apply Ev.conv|apply Ev.buildN);exact rfl)|((first|apply Ev.shr|apply Ev.shl);(iterate 2 exact rfl);first|decide|omega));·exact rfl)|(apply yn;iterate 4 exact rfl)|((apply QL.split;iterate 3 exact rfl);all_goals(intro hc;try simp only[hcs]at hc;try(exfalso;first|contradiction|omega)))|apply QL.nil)
            all_goals (show DW _ _ _ _ _ _ _ _))
          all_goals (
            apply DW.loud 26
            · exact rfl
            · decide +kernel
            repeat'(first|(apply kg;iterate 2 exact rfl)|(apply kG;iterate 3 exact rfl)|apply kM|(apply kp;iterate 2 exact rfl)|((first|apply kz|apply ky);(·exact rfl);(·repeat(first|exact iO|exact iR rfl|apply iT));iterate 2 exact rfl)|(apply Go.Hb.kK;(iterate 4 exact rfl);intro _)|(apply kU;(iterate 2 exact rfl);(·repeat(first|exact sH _ _ _|apply sT));(first|exact nfL_eq rfl|exact rfl);exact rfl)|(apply kB;(iterate 2 exact rfl);intro _)|(apply kA;exact rfl;intro _)|(apply kq; (· exact rfl); (· intro w1 h1; first | exact CallsTo.q (q20 a l.length c kk w1) h1)))
            all_goals (refine At.stage_same (fun _ h => St.sub h (by repeat (first | exact List.Sublist.refl _ | apply List.Sublist.cons_cons | apply List.Sublist.cons))) ?_))
          all_goals (
            apply DW.loud 29
            · exact rfl
            · decide +kernel
            repeat'(first|(apply kg;iterate 2 exact rfl)|(apply kG;iterate 3 exact rfl)|apply kM|(apply kp;iterate 2 exact rfl)|((first|apply kz|apply ky);(·exact rfl);(·repeat(first|exact iO|exact iR rfl|apply iT));iterate 2 exact rfl)|(apply Go.Hb.kK;(iterate 4 exact rfl);intro _)|(apply kU;(iterate 2 exact rfl);(·repeat(first|exact sH _ _ _|apply sT));(first|exact nfL_eq rfl|exact rfl);exact rfl)|(apply kB;(iterate 2 exact rfl);intro _)|(apply kA;exact rfl;intro _)|(apply kq; (· exact rfl); (· intro w1 h1; first | exact CallsTo.q (q20 a l.length c kk w1) h1)))
            all_goals (refine At.stage_same (fun _ h => St.sub h (by repeat (first | exact List.Sublist.refl _ | apply List.Sublist.cons_cons | apply List.Sublist.cons))) ?_))
          all_goals (
            apply DW.quiet [30, 31, 32]
            · decide +kernel
            · first | exact fun _ h => h | exact fun _ h => St.sub h (by repeat (first | exact List.Sublist.refl _ | apply List.Sublist.cons_cons | apply List.Sublist.cons))
            repeat'(first|(apply yp;iterate 3 exact rfl)|(apply QL.ev;(·exact rfl);(·first|((first|apply Ez|apply Ey);(·exact rfl);(·repeat(first|exact iO|exact iR rfl|apply iT));exact rfl)|((first|apply Ev.fieldAddr|apply Ev.len|apply EqOf.eq|apply EqOf.ne|apply Ev.conv|apply Ev.buildN);exact rfl)|((first|apply Ev.shr|apply Ev.shl);(iterate 2 exact rfl);first|decide|omega));·exact rfl)|(apply yq;iterate 5 exact rfl)|(apply QL.evg;(iterate 3 exact rfl);(·first|((first|apply Ez|apply Ey);(·exact rfl);(·repeat(first|exact iO|exact iR rfl|apply iT));exact rfl)|((first|apply Ev.fieldAddr|apply Ev.len|apply EqOf.eq|apply EqOf.ne|apply Ev.conv|apply Ev.buildN);exact rfl)|((first|apply Ev.shr|apply Ev.shl);(iterate 2 exact rfl);first|decide|omega));·exact rfl)|(apply yn;iterate 4 exact rfl)|((apply QL.split;iterate 3 exact rfl);all_goals(intro hc;try simp only[hcs]at hc;try(exfalso;first|contradiction|omega)))|apply QL.nil)
            all_goals (show DW _ _ _ _ _ _ _ _))
          all_goals (first | (apply DW.done_thn; (· decide +kernel)) | (apply DW.done; (· decide +kernel)))
          repeat'(first|(apply kp;iterate 2 exact rfl)|apply jJ|(apply jE;exact rfl)|(apply jp;exact rfl)|(apply jc;kernel_rfl)|((first|apply kf|apply kn|apply ke|apply kx|apply kc|apply kb);iterate 2 exact rfl)|((first|apply kz|apply ky);(·exact rfl);(·repeat(first|exact iO|exact iR rfl|apply iT));iterate 2 exact rfl)|(apply kg;iterate 2 exact rfl)|(apply kG;iterate 3 exact rfl)|(apply kB;(iterate 2 exact rfl);intro _)|(apply kA;exact rfl;intro _)|(apply Go.Hb.kK;(iterate 4 exact rfl);intro _)|(apply kU;(iterate 2 exact rfl);(·repeat(first|exact sH _ _ _|apply sT));(first|exact nfL_eq rfl|exact rfl);exact rfl)|((first|apply kh|apply kl);(iterate 2 exact rfl);(first|decide|omega);exact rfl)|(apply addX;(iterate 2 exact rfl);(iterate 2(first|omega|(dsimp only;omega)));exact rfl)|((first|(apply kR;iterate 2 exact rfl)|(apply kQ;exact rfl));all_goals(intro hc;try simp only[hcs]at hc;try(exfalso;first|contradiction|omega))))
          refine At.again (⟨i + 1, l3[i].x.d.seq, true, 1⟩ : G20) ⟨by simp only; omega, by simp only; omega, .inr ⟨rfl, rfl⟩, hr1⟩ ?_ ⟨rfl, rfl, rfl, trivial⟩ (fun w' hw' => hw'.sub (by (repeat (first | exact List.Sublist.refl _ | apply List.Sublist.cons_cons | apply List.Sublist.cons)))) (by simp only; omega)
          (repeat (first | exact Out.refl _ _ | exact Out.mix | (apply Out.upd; (· exact rfl)) | (apply Out.updL; (· exact rfl)) | (apply Out.mixs; (· exact rfl))))
  · have hie : i = PL.length := by omega
    subst hie
    rw [List.drop_length] at hg
    have h1 := hg.end_
    rcases htt with ⟨h, _⟩ | ⟨_, rfl⟩
    · rw [h1] at h; cases h
    repeat'(first|(apply kp;iterate 2 exact rfl)|apply jJ|(apply jE;exact rfl)|(apply jp;exact rfl)|(apply jc;kernel_rfl)|((first|apply kf|apply kn|apply ke|apply kx|apply kc|apply kb);iterate 2 exact rfl)|((first|apply kz|apply ky);(·exact rfl);(·repeat(first|exact iO|exact iR rfl|apply iT));iterate 2 exact rfl)|(apply kg;iterate 2 exact rfl)|(apply kG;iterate 3 exact rfl)|(apply kB;(iterate 2 exact rfl);intro _)|(apply kA;exact rfl;intro _)|(apply Go.Hb.kK;(iterate 4 exact rfl);intro _)|(apply kU;(iterate 2 exact rfl);(·repeat(first|exact sH _ _ _|apply sT));(first|exact nfL_eq rfl|exact rfl);exact rfl)|((first|apply kh|apply kl);(iterate 2 exact rfl);(first|decide|omega);exact rfl)|(apply subX;(iterate 2 exact rfl);(iterate 2(first|omega|(dsimp only;omega)));exact rfl)|((first|(apply kR;iterate 2 exact rfl)|(apply kQ;exact rfl));all_goals(intro hc;try simp only[hcs]at hc;try(exfalso;first|contradiction|omega))))
    (apply ret1; (· exact rfl); intro w' hS)
    exact ⟨rfl, hS.toKeep⟩
end Go.Proofs.Ytkolmkdbjagfcaa

namespace Go.Hb
section
variable {P : Program} {C : World → Prop} {f : Frm} {T T' : TypeId} {x : Operand}
theorem Ev.fieldA {i n : Nat} {fs : Array Field} {fd : Field} {cs : List Value} (hu : P.underlying T = some (.struct fs)) (hf : fs[i]? = some fd) (h : Agg P fd.type n) (hx : f.ev x = .agg cs.toArray) : Ev P C f (.field T x i) T' (.agg ((cs.drop fd.offset).take n).toArray) := by
  unfold Ev
  intro w _ d p af g
  simp [execOp, hx, Instr.field, run_underlying hu, hf, part, h.agg, h.size, asAgg]
end
end Go.Hb

namespace Go.Proofs.Ytkolmkdbjagfcaa
open Go.Hb Go.ChangeShapes Go.WideShapes
attribute [local irreducible] LR CW At Ev thn blk finK noG again CallsTo DW QL dnext TW DP
set_option linter.unusedSimpArgs false
set_option linter.unusedVariables false
set_option maxRecDepth 100000

def farC : OldC := ⟨⟨2, 1, 0, 0, 14, false, 0⟩, 7, 2⟩
theorem far_told : toldT usL farC.done farC.safe 6 (trC farC 6 nextC) (nxC nextC) = [cfgE awC, cfgE nextC] := by
  unfold toldT abvT abvS
  rw [us_sqs]
  rfl
theorem may_far : mayC farC 6 nextC = true := by decide
def oldsL : List OldC := [endC, farC, ⟨endC.cfg, -1, 0⟩, ⟨endC.cfg, 4611686018427387904, -5⟩, ⟨⟨0, 0, 0, 0, 14, false, 0⟩, 0, 0⟩, ⟨⟨2, 1, 0, 0, 15, false, 0⟩, 0, 0⟩, ⟨zeroCfg, 0, 0⟩]
structure NxC where
  k : Int
  g : Cfg
def NxC.cells (x : NxC) : List Value := .int .i64 x.k :: x.g.cells
def nextsL : List NxC := [⟨6, nextC⟩, ⟨16, nextC⟩, ⟨0, nextC⟩, ⟨8, nextC⟩, ⟨7, nextC⟩, ⟨6, endC.cfg⟩, ⟨6, zeroCfg⟩, ⟨6, ⟨2, 2, 5, 1, 6, true, 0⟩⟩]
theorem OldC.cells_len (o : OldC) : o.cells.length = 9 := rfl
theorem NxC.cells_len (o : NxC) : o.cells.length = 8 := rfl
theorem olds_I : ∀ o ∈ oldsL, inI o.cfg.mem ∧ inI o.done := by
  have hh : oldsL.all (fun o => decide ((-9223372036854775808 ≤ o.cfg.mem ∧ o.cfg.mem ≤ 9223372036854775807) ∧ (-9223372036854775808 ≤ o.done ∧ o.done ≤ 9223372036854775807))) = true := by decide
  intro o ho
  have h1 := List.all_eq_true.1 hh o ho
  rw [decide_eq_true_eq] at h1
  exact h1
theorem nexts_I : ∀ o ∈ nextsL, inI o.k ∧ inI o.g.mem := by
  have hh : nextsL.all (fun o => decide ((-9223372036854775808 ≤ o.k ∧ o.k ≤ 9223372036854775807) ∧ (-9223372036854775808 ≤ o.g.mem ∧ o.g.mem ≤ 9223372036854775807))) = true := by decide
  intro o ho
  have h1 := List.all_eq_true.1 hh o ho
  rw [decide_eq_true_eq] at h1
  exact h1
theorem us_R (w : World) : ∀ x ∈ usA, DaR w x := by
  intro x hx
  obtain ⟨d, hd, rfl⟩ := List.mem_map.1 hx
  have hh : usL.all (fun d => d.msg.body.isEmpty) = true := by decide
  have h1 : d.msg.body = [] := by simpa using List.all_eq_true.1 hh d hd
  refine ⟨?_, fun _ => rfl, ?_⟩
  · show Rd w none (bv d.msg.body)
    rw [h1]
    exact Rd.nil _ _
  · show d.msg.body.length ≤ _
    rw [h1]
    exact Nat.zero_le _
set_option maxHeartbeats 8000000 in
theorem q5 (w : World) : CallsTo Try.prog 5 [] w fun v w' => v = .bool true ∧ Grew w w' := by
  refine go_in (n := 107) (St.refl _ NoF) Try.func5 rfl rfl ?_
  repeat'(first|(apply CW.reg_heldC)|(apply kp;iterate 2 exact rfl)|apply jJ|(apply jE;exact rfl)|(apply jp;exact rfl)|(apply jc;kernel_rfl)|((first|apply kf|apply kn|apply ke|apply kx|apply kc|apply kb);iterate 2 exact rfl)|((first|apply kz|apply ky);(·exact rfl);(·repeat(first|exact iO|exact iR rfl|apply iT));iterate 2 exact rfl)|(apply kg;iterate 2 exact rfl)|(apply kG;iterate 3 exact rfl)|(apply kB;(iterate 2 exact rfl);intro _)|(apply kA;exact rfl;intro _)|(apply Go.Hb.kK;(iterate 4 exact rfl);intro _)|(apply kU;(iterate 2 exact rfl);(·repeat(first|exact sH _ _ _|apply sT));(first|exact nfL_eq rfl|exact rfl);exact rfl)|((first|apply kh|apply kl);(iterate 2 exact rfl);(first|decide|omega);exact rfl)|(apply kq; (· exact rfl); (· intro w1 h1; first | exact CallsTo.q (q24 w1) h1 | exact CallsTo.q (q25 w1) h1 | exact CallsTo.q (show CallsTo Try.prog 14 [endC.val, .pointer none, .int .i64 6, nextC.val] w1 _ from q14z endC 6 nextC w1) h1))|((first|(apply kR;iterate 2 exact rfl)|(apply kQ;exact rfl));all_goals(intro hc;try simp only[hcs]at hc;try(exfalso;first|contradiction|omega))))
  all_goals (
    apply DW.quiet [0]
    · decide +kernel
    · first | exact fun _ h => h | exact fun _ h => St.sub h (by repeat (first | exact List.Sublist.refl _ | apply List.Sublist.cons_cons | apply List.Sublist.cons))
    repeat'(first|(apply yp;iterate 3 exact rfl)|(apply QL.ev;(·exact rfl);(·first|((first|apply Ez|apply Ey);(·exact rfl);(·repeat(first|exact iO|exact iR rfl|apply iT));exact rfl)|((first|apply Ev.fieldAddr|apply Ev.len|apply EqOf.eq|apply EqOf.ne|apply Ev.conv|apply Ev.buildN);exact rfl)|((first|apply Ev.shr|apply Ev.shl);(iterate 2 exact rfl);first|decide|omega));·exact rfl)|(apply yq;iterate 5 exact rfl)|(apply QL.evg;(iterate 3 exact rfl);(·first|((first|apply Ez|apply Ey);(·exact rfl);(·repeat(first|exact iO|exact iR rfl|apply iT));exact rfl)|((first|apply Ev.fieldAddr|apply Ev.len|apply EqOf.eq|apply EqOf.ne|apply Ev.conv|apply Ev.buildN);exact rfl)|((first|apply Ev.shr|apply Ev.shl);(iterate 2 exact rfl);first|decide|omega));·exact rfl)|(apply yn;iterate 4 exact rfl)|((apply QL.split;iterate 3 exact rfl);all_goals(intro hc;try simp only[hcs]at hc;try(exfalso;first|contradiction|omega)))|apply QL.nil)
    all_goals (show DW _ _ _ _ _ _ _ _))
  all_goals (
    apply DW.loud 1
    · exact rfl
    · decide +kernel
    repeat'(first|(apply kg;iterate 2 exact rfl)|(apply kG;iterate 3 exact rfl)|apply kM|(apply kp;iterate 2 exact rfl)|((first|apply kz|apply ky);(·exact rfl);(·repeat(first|exact iO|exact iR rfl|apply iT));iterate 2 exact rfl)|(apply Go.Hb.kK;(iterate 4 exact rfl);intro _)|(apply kU;(iterate 2 exact rfl);(·repeat(first|exact sH _ _ _|apply sT));(first|exact nfL_eq rfl|exact rfl);exact rfl)|(apply kB;(iterate 2 exact rfl);intro _)|(apply kA;exact rfl;intro _)|(apply kq; (· exact rfl); (· intro w1 h1; exact CallsTo.q (q25 w1) h1))|(apply LR.call; (· exact rfl); (intro w1 h1; refine (q26 w1).mono ?_; rintro v w2 ⟨bw, bm, es, ar, hi, rfl, hes, hn⟩; refine LR.back (h1.got hn (wO_dep _ _ _ _ _)) ?_; clear hn h1 w2 w1))|(apply LR.call; (· exact rfl); (intro w1 h1; have hok : WOk (dats es) := (by rw [hes]; exact us_ok); have hel : es.length = 6 := (by have := congrArg List.length hes; rw [dats_len] at this; exact this); refine CallsTo.mono (show CallsTo Try.prog 14 [farC.val, .pointer (some ⟨bw, 0, none⟩), .int .i64 6, nextC.val] w1 _ from q14 bw bm es ar hi farC 6 nextC w1 (h1.holds _ (by (repeat (first | exact mH _ _ | apply mT)))) hok (by omega) ⟨by decide, by decide⟩ ⟨by decide, by decide⟩ ⟨by decide, by decide⟩ may_far) ?_; rintro v w2 ⟨a1, c1, l, rfl, hl, hll, hn⟩; rw [hes, far_told] at hl; have hnum : (l.map EvA.e).map numE = [0, -1] := (by rw [hl]; rfl); clear hl; refine LR.back (h1.got hn (eO_dep _ _ _)) ?_; clear hn h1 w2 w1)))
    all_goals (refine At.stage_same (fun _ h => St.sub h (by repeat (first | exact List.Sublist.refl _ | apply List.Sublist.cons_cons | apply List.Sublist.cons))) ?_))
  all_goals (
    apply DW.loud 2
    · exact rfl
    · decide +kernel
    repeat'(first|(apply kg;iterate 2 exact rfl)|(apply kG;iterate 3 exact rfl)|apply kM|(apply kp;iterate 2 exact rfl)|((first|apply kz|apply ky);(·exact rfl);(·repeat(first|exact iO|exact iR rfl|apply iT));iterate 2 exact rfl)|(apply Go.Hb.kK;(iterate 4 exact rfl);intro _)|(apply kU;(iterate 2 exact rfl);(·repeat(first|exact sH _ _ _|apply sT));(first|exact nfL_eq rfl|exact rfl);exact rfl)|(apply kB;(iterate 2 exact rfl);intro _)|(apply kA;exact rfl;intro _)|(apply kq; (· exact rfl); (· intro w1 h1; exact CallsTo.q (q25 w1) h1))|(apply LR.call; (· exact rfl); (intro w1 h1; refine (q26 w1).mono ?_; rintro v w2 ⟨bw, bm, es, ar, hi, rfl, hes, hn⟩; refine LR.back (h1.got hn (wO_dep _ _ _ _ _)) ?_; clear hn h1 w2 w1))|(apply LR.call; (· exact rfl); (intro w1 h1; have hok : WOk (dats es) := (by rw [hes]; exact us_ok); have hel : es.length = 6 := (by have := congrArg List.length hes; rw [dats_len] at this; exact this); refine CallsTo.mono (show CallsTo Try.prog 14 [farC.val, .pointer (some ⟨bw, 0, none⟩), .int .i64 6, nextC.val] w1 _ from q14 bw bm es ar hi farC 6 nextC w1 (h1.holds _ (by (repeat (first | exact mH _ _ | apply mT)))) hok (by omega) ⟨by decide, by decide⟩ ⟨by decide, by decide⟩ ⟨by decide, by decide⟩ may_far) ?_; rintro v w2 ⟨a1, c1, l, rfl, hl, hll, hn⟩; rw [hes, far_told] at hl; have hnum : (l.map EvA.e).map numE = [0, -1] := (by rw [hl]; rfl); clear hl; refine LR.back (h1.got hn (eO_dep _ _ _)) ?_; clear hn h1 w2 w1)))
    all_goals (refine At.stage_same (fun _ h => St.sub h (by repeat (first | exact List.Sublist.refl _ | apply List.Sublist.cons_cons | apply List.Sublist.cons))) ?_))
  all_goals (
    apply DW.loud 3
    · exact rfl
    · decide +kernel
    repeat'(first|(apply kg;iterate 2 exact rfl)|(apply kG;iterate 3 exact rfl)|apply kM|(apply kp;iterate 2 exact rfl)|((first|apply kz|apply ky);(·exact rfl);(·repeat(first|exact iO|exact iR rfl|apply iT));iterate 2 exact rfl)|(apply Go.Hb.kK;(iterate 4 exact rfl);intro _)|(apply kU;(iterate 2 exact rfl);(·repeat(first|exact sH _ _ _|apply sT));(first|exact nfL_eq rfl|exact rfl);exact rfl)|(apply kB;(iterate 2 exact rfl);intro _)|(apply kA;exact rfl;intro _)|(apply kq; (· exact rfl); (· intro w1 h1; exact CallsTo.q (q25 w1) h1))|(apply LR.call; (· exact rfl); (intro w1 h1; refine (q26 w1).mono ?_; rintro v w2 ⟨bw, bm, es, ar, hi, rfl, hes, hn⟩; refine LR.back (h1.got hn (wO_dep _ _ _ _ _)) ?_; clear hn h1 w2 w1))|(apply LR.call; (· exact rfl); (intro w1 h1; have hok : WOk (dats es) := (by rw [hes]; exact us_ok); have hel : es.length = 6 := (by have := congrArg List.length hes; rw [dats_len] at this; exact this); refine CallsTo.mono (show CallsTo Try.prog 14 [farC.val, .pointer (some ⟨bw, 0, none⟩), .int .i64 6, nextC.val] w1 _ from q14 bw bm es ar hi farC 6 nextC w1 (h1.holds _ (by (repeat (first | exact mH _ _ | apply mT)))) hok (by omega) ⟨by decide, by decide⟩ ⟨by decide, by decide⟩ ⟨by decide, by decide⟩ may_far) ?_; rintro v w2 ⟨a1, c1, l, rfl, hl, hll, hn⟩; rw [hes, far_told] at hl; have hnum : (l.map EvA.e).map numE = [0, -1] := (by rw [hl]; rfl); clear hl; refine LR.back (h1.got hn (eO_dep _ _ _)) ?_; clear hn h1 w2 w1)))
    all_goals (refine At.stage_same (fun _ h => St.sub h (by repeat (first | exact List.Sublist.refl _ | apply List.Sublist.cons_cons | apply List.Sublist.cons))) ?_))
  all_goals (
    apply DW.quiet [4, 5, 6, 7, 8]
    · decide +kernel
    · first | exact fun _ h => h | exact fun _ h => St.sub h (by repeat (first | exact List.Sublist.refl _ | apply List.Sublist.cons_cons | apply List.Sublist.cons))
    repeat'(first|(apply yp;iterate 3 exact rfl)|(apply QL.ev;(·exact rfl);(·first|((first|apply Ez|apply Ey);(·exact rfl);(·repeat(first|exact iO|exact iR rfl|apply iT));exact rfl)|((first|apply Ev.fieldAddr|apply Ev.len|apply EqOf.eq|apply EqOf.ne|apply Ev.conv|apply Ev.buildN);exact rfl)|((first|apply Ev.shr|apply Ev.shl);(iterate 2 exact rfl);first|decide|omega));·exact rfl)|(apply yq;iterate 5 exact rfl)|(apply QL.evg;(iterate 3 exact rfl);(·first|((first|apply Ez|apply Ey);(·exact rfl);(·repeat(first|exact iO|exact iR rfl|apply iT));exact rfl)|((first|apply Ev.fieldAddr|apply Ev.len|apply EqOf.eq|apply EqOf.ne|apply Ev.conv|apply Ev.buildN);exact rfl)|((first|apply Ev.shr|apply Ev.shl);(iterate 2 exact rfl);first|decide|omega));·exact rfl)|(apply yn;iterate 4 exact rfl)|((apply QL.split;iterate 3 exact rfl);all_goals(intro hc;try simp only[hcs]at hc;try(exfalso;first|contradiction|omega)))|apply QL.nil)
    all_goals (show DW _ _ _ _ _ _ _ _))
  all_goals (first | (apply DW.done_thn; (· decide +kernel)) | (apply DW.done; (· decide +kernel)))
  repeat'(first|(apply Go.Hb.kK;(iterate 4 exact rfl);intro bs)|(apply CW.reg_heldC)|(apply kp;iterate 2 exact rfl)|apply jJ|(apply jE;exact rfl)|(apply jp;exact rfl)|(apply jc;kernel_rfl)|((first|apply kf|apply kn|apply ke|apply kx|apply kc|apply kb);iterate 2 exact rfl)|((first|apply kz|apply ky);(·exact rfl);(·repeat(first|exact iO|exact iR rfl|apply iT));iterate 2 exact rfl)|(apply kg;iterate 2 exact rfl)|(apply kG;iterate 3 exact rfl)|(apply kB;(iterate 2 exact rfl);intro _)|(apply kA;exact rfl;intro _)|(apply Go.Hb.kK;(iterate 4 exact rfl);intro _)|(apply kU;(iterate 2 exact rfl);(·repeat(first|exact sH _ _ _|apply sT));(first|exact nfL_eq rfl|exact rfl);exact rfl)|((first|apply kh|apply kl);(iterate 2 exact rfl);(first|decide|omega);exact rfl)|(apply LR.call; (· exact rfl); (intro w1 h1; have hq := q21 a1 c1 l w1 (eO_r (h1.holds (eO a1 c1 l) (by (repeat (first | exact mH _ _ | apply mT))))) (by omega); rw [hnum] at hq; refine CallsTo.mono hq ?_; rintro v w2 ⟨a2, c2, rfl, hn⟩; refine LR.back (h1.newSl hn) ?_; clear hn h1 hq w2 w1))|(apply kq; (· exact rfl); (· intro w1 h1; first | exact CallsTo.q (q28 _ _ _ w1) h1 | exact CallsTo.q (t19 a2 (some ⟨bs, 0, none⟩) c2 2 [0, -1] [0, -1] w1 (h1.rd_of_own (by (repeat (first | exact mH _ _ | apply mT)))) (h1.rd_of_blk (by (repeat (first | exact mH _ _ | apply mT)))) (by decide)) h1))|((first|(apply kR;iterate 2 exact rfl)|(apply kQ;exact rfl));all_goals(intro hc;try simp only[hcs]at hc;try(exfalso;first|contradiction|omega))))
  all_goals (
    apply DW.quiet [1, 8, 9, 10, 11, 12, 13]
    · decide +kernel
    · first | exact fun _ h => h | exact fun _ h => St.sub h (by repeat (first | exact List.Sublist.refl _ | apply List.Sublist.cons_cons | apply List.Sublist.cons))
    repeat'(first|(apply yp;iterate 3 exact rfl)|(apply QL.ev;(·exact rfl);(·first|((first|apply Ez|apply Ey);(·exact rfl);(·repeat(first|exact iO|exact iR rfl|apply iT));exact rfl)|((first|apply Ev.fieldAddr|apply Ev.len|apply EqOf.eq|apply EqOf.ne|apply Ev.conv|apply Ev.buildN);exact rfl)|((first|apply Ev.shr|apply Ev.shl);(iterate 2 exact rfl);first|decide|omega));·exact rfl)|(apply QL.ev; (· exact rfl); (· first | (apply Ev.fieldA Try.underlying27; (· exact rfl); (· exact (inferInstance : Agg Try.prog 25 7)); (· exact rfl)) | (apply Ev.fieldA Try.underlying25; (· exact rfl); (· exact (inferInstance : Agg Try.prog 23 2)); (· exact rfl))); (· exact rfl))|(apply yq;iterate 5 exact rfl)|(apply QL.evg;(iterate 3 exact rfl);(·first|((first|apply Ez|apply Ey);(·exact rfl);(·repeat(first|exact iO|exact iR rfl|apply iT));exact rfl)|((first|apply Ev.fieldAddr|apply Ev.len|apply EqOf.eq|apply EqOf.ne|apply Ev.conv|apply Ev.buildN);exact rfl)|((first|apply Ev.shr|apply Ev.shl);(iterate 2 exact rfl);first|decide|omega));·exact rfl)|(apply yn;iterate 4 exact rfl)|((apply QL.split;iterate 3 exact rfl);all_goals(intro hc;try simp only[hcs]at hc;try(exfalso;first|contradiction|omega)))|apply QL.nil)
    all_goals (show DW _ _ _ _ _ _ _ _))
  all_goals (
    apply DW.loud 0
    · exact rfl
    · decide +kernel
    repeat'(first|(apply kg;iterate 2 exact rfl)|(apply kG;iterate 3 exact rfl)|apply kM|(apply kp;iterate 2 exact rfl)|((first|apply kz|apply ky);(·exact rfl);(·repeat(first|exact iO|exact iR rfl|apply iT));iterate 2 exact rfl)|(apply Go.Hb.kK;(iterate 4 exact rfl);intro _)|(apply kU;(iterate 2 exact rfl);(·repeat(first|exact sH _ _ _|apply sT));(first|exact nfL_eq rfl|exact rfl);exact rfl)|(apply kB;(iterate 2 exact rfl);intro _)|(apply kA;exact rfl;intro _)|(apply kq; (· exact rfl); (· intro w1 h1; exact CallsTo.q (q24 w1) h1)))
    all_goals (refine At.stage_same (fun _ h => St.sub h (by repeat (first | exact List.Sublist.refl _ | apply List.Sublist.cons_cons | apply List.Sublist.cons))) ?_))
  all_goals (
    apply DW.loud 2
    · exact rfl
    · decide +kernel
    repeat'(first|(apply kg;iterate 2 exact rfl)|(apply kG;iterate 3 exact rfl)|apply kM|(apply kp;iterate 2 exact rfl)|((first|apply kz|apply ky);(·exact rfl);(·repeat(first|exact iO|exact iR rfl|apply iT));iterate 2 exact rfl)|(apply Go.Hb.kK;(iterate 4 exact rfl);intro _)|(apply kU;(iterate 2 exact rfl);(·repeat(first|exact sH _ _ _|apply sT));(first|exact nfL_eq rfl|exact rfl);exact rfl)|(apply kB;(iterate 2 exact rfl);intro _)|(apply kA;exact rfl;intro _)|(apply kq; (· exact rfl); (· intro w1 h1; exact CallsTo.q (q24 w1) h1)))
    all_goals (refine At.stage_same (fun _ h => St.sub h (by repeat (first | exact List.Sublist.refl _ | apply List.Sublist.cons_cons | apply List.Sublist.cons))) ?_))
  all_goals (
    apply DW.quiet [3, 4]
    · decide +kernel
    · first | exact fun _ h => h | exact fun _ h => St.sub h (by repeat (first | exact List.Sublist.refl _ | apply List.Sublist.cons_cons | apply List.Sublist.cons))
    repeat'(first|(apply yp;iterate 3 exact rfl)|(apply QL.ev;(·exact rfl);(·first|((first|apply Ez|apply Ey);(·exact rfl);(·repeat(first|exact iO|exact iR rfl|apply iT));exact rfl)|((first|apply Ev.fieldAddr|apply Ev.len|apply EqOf.eq|apply EqOf.ne|apply Ev.conv|apply Ev.buildN);exact rfl)|((first|apply Ev.shr|apply Ev.shl);(iterate 2 exact rfl);first|decide|omega));·exact rfl)|(apply QL.ev; (· exact rfl); (· first | (apply Ev.fieldA Try.underlying27; (· exact rfl); (· exact (inferInstance : Agg Try.prog 25 7)); (· exact rfl)) | (apply Ev.fieldA Try.underlying25; (· exact rfl); (· exact (inferInstance : Agg Try.prog 23 2)); (· exact rfl))); (· exact rfl))|(apply yq;iterate 5 exact rfl)|(apply QL.evg;(iterate 3 exact rfl);(·first|((first|apply Ez|apply Ey);(·exact rfl);(·repeat(first|exact iO|exact iR rfl|apply iT));exact rfl)|((first|apply Ev.fieldAddr|apply Ev.len|apply EqOf.eq|apply EqOf.ne|apply Ev.conv|apply Ev.buildN);exact rfl)|((first|apply Ev.shr|apply Ev.shl);(iterate 2 exact rfl);first|decide|omega));·exact rfl)|(apply yn;iterate 4 exact rfl)|((apply QL.split;iterate 3 exact rfl);all_goals(intro hc;try simp only[hcs]at hc;try(exfalso;first|contradiction|omega)))|apply QL.nil)
    all_goals (show DW _ _ _ _ _ _ _ _))
  all_goals (
    apply DW.loud 5
    · exact rfl
    · decide +kernel
    repeat'(first|(apply kg;iterate 2 exact rfl)|(apply kG;iterate 3 exact rfl)|apply kM|(apply kp;iterate 2 exact rfl)|((first|apply kz|apply ky);(·exact rfl);(·repeat(first|exact iO|exact iR rfl|apply iT));iterate 2 exact rfl)|(apply Go.Hb.kK;(iterate 4 exact rfl);intro _)|(apply kU;(iterate 2 exact rfl);(·repeat(first|exact sH _ _ _|apply sT));(first|exact nfL_eq rfl|exact rfl);exact rfl)|(apply kB;(iterate 2 exact rfl);intro _)|(apply kA;exact rfl;intro _)|(apply kq; (· exact rfl); (· intro w1 h1; exact CallsTo.q (q24 w1) h1)))
    all_goals (refine At.stage_same (fun _ h => St.sub h (by repeat (first | exact List.Sublist.refl _ | apply List.Sublist.cons_cons | apply List.Sublist.cons))) ?_))
  all_goals (
    apply DW.quiet [6, 7]
    · decide +kernel
    · first | exact fun _ h => h | exact fun _ h => St.sub h (by repeat (first | exact List.Sublist.refl _ | apply List.Sublist.cons_cons | apply List.Sublist.cons))
    repeat'(first|(apply yp;iterate 3 exact rfl)|(apply QL.ev;(·exact rfl);(·first|((first|apply Ez|apply Ey);(·exact rfl);(·repeat(first|exact iO|exact iR rfl|apply iT));exact rfl)|((first|apply Ev.fieldAddr|apply Ev.len|apply EqOf.eq|apply EqOf.ne|apply Ev.conv|apply Ev.buildN);exact rfl)|((first|apply Ev.shr|apply Ev.shl);(iterate 2 exact rfl);first|decide|omega));·exact rfl)|(apply QL.ev; (· exact rfl); (· first | (apply Ev.fieldA Try.underlying27; (· exact rfl); (· exact (inferInstance : Agg Try.prog 25 7)); (· exact rfl)) | (apply Ev.fieldA Try.underlying25; (· exact rfl); (· exact (inferInstance : Agg Try.prog 23 2)); (· exact rfl))); (· exact rfl))|(apply yq;iterate 5 exact rfl)|(apply QL.evg;(iterate 3 exact rfl);(·first|((first|apply Ez|apply Ey);(·exact rfl);(·repeat(first|exact iO|exact iR rfl|apply iT));exact rfl)|((first|apply Ev.fieldAddr|apply Ev.len|apply EqOf.eq|apply EqOf.ne|apply Ev.conv|apply Ev.buildN);exact rfl)|((first|apply Ev.shr|apply Ev.shl);(iterate 2 exact rfl);first|decide|omega));·exact rfl)|(apply yn;iterate 4 exact rfl)|((apply QL.split;iterate 3 exact rfl);all_goals(intro hc;try simp only[hcs]at hc;try(exfalso;first|contradiction|omega)))|apply QL.nil)
    all_goals (show DW _ _ _ _ _ _ _ _))
  all_goals (
    apply DW.loud 14
    · exact rfl
    · decide +kernel
    repeat'(first|(apply kg;iterate 2 exact rfl)|(apply kG;iterate 3 exact rfl)|apply kM|(apply kp;iterate 2 exact rfl)|((first|apply kz|apply ky);(·exact rfl);(·repeat(first|exact iO|exact iR rfl|apply iT));iterate 2 exact rfl)|(apply Go.Hb.kK;(iterate 4 exact rfl);intro _)|(apply kU;(iterate 2 exact rfl);(·repeat(first|exact sH _ _ _|apply sT));(first|exact nfL_eq rfl|exact rfl);exact rfl)|(apply kB;(iterate 2 exact rfl);intro _)|(apply kA;exact rfl;intro _)|(apply kq; (· exact rfl); (· intro w1 h1; exact CallsTo.q (q24 w1) h1)))
    all_goals (refine At.stage_same (fun _ h => St.sub h (by repeat (first | exact List.Sublist.refl _ | apply List.Sublist.cons_cons | apply List.Sublist.cons))) ?_))
  all_goals (
    apply DW.quiet [15]
    · decide +kernel
    · first | exact fun _ h => h | exact fun _ h => St.sub h (by repeat (first | exact List.Sublist.refl _ | apply List.Sublist.cons_cons | apply List.Sublist.cons))
    repeat'(first|(apply yp;iterate 3 exact rfl)|(apply QL.ev;(·exact rfl);(·first|((first|apply Ez|apply Ey);(·exact rfl);(·repeat(first|exact iO|exact iR rfl|apply iT));exact rfl)|((first|apply Ev.fieldAddr|apply Ev.len|apply EqOf.eq|apply EqOf.ne|apply Ev.conv|apply Ev.buildN);exact rfl)|((first|apply Ev.shr|apply Ev.shl);(iterate 2 exact rfl);first|decide|omega));·exact rfl)|(apply QL.ev; (· exact rfl); (· first | (apply Ev.fieldA Try.underlying27; (· exact rfl); (· exact (inferInstance : Agg Try.prog 25 7)); (· exact rfl)) | (apply Ev.fieldA Try.underlying25; (· exact rfl); (· exact (inferInstance : Agg Try.prog 23 2)); (· exact rfl))); (· exact rfl))|(apply yq;iterate 5 exact rfl)|(apply QL.evg;(iterate 3 exact rfl);(·first|((first|apply Ez|apply Ey);(·exact rfl);(·repeat(first|exact iO|exact iR rfl|apply iT));exact rfl)|((first|apply Ev.fieldAddr|apply Ev.len|apply EqOf.eq|apply EqOf.ne|apply Ev.conv|apply Ev.buildN);exact rfl)|((first|apply Ev.shr|apply Ev.shl);(iterate 2 exact rfl);first|decide|omega));·exact rfl)|(apply yn;iterate 4 exact rfl)|((apply QL.split;iterate 3 exact rfl);all_goals(intro hc;try simp only[hcs]at hc;try(exfalso;first|contradiction|omega)))|apply QL.nil)
    all_goals (show DW _ _ _ _ _ _ _ _))
  all_goals (first | (apply DW.done_thn; (· decide +kernel)) | (apply DW.done; (· decide +kernel)))
  repeat'(first|(apply Go.Hb.kK;(iterate 4 exact rfl);intro bx)|(apply kp;iterate 2 exact rfl)|apply jJ|(apply jE;exact rfl)|(apply jp;exact rfl)|(apply jc;kernel_rfl)|((first|apply kf|apply kn|apply ke|apply kx|apply kc|apply kb);iterate 2 exact rfl)|((first|apply kz|apply ky);(·exact rfl);(·repeat(first|exact iO|exact iR rfl|apply iT));iterate 2 exact rfl)|(apply kg;iterate 2 exact rfl)|(apply kG;iterate 3 exact rfl)|(apply kB;(iterate 2 exact rfl);intro _)|(apply kA;exact rfl;intro _)|(apply Go.Hb.kK;(iterate 4 exact rfl);intro _)|(apply kU;(iterate 2 exact rfl);(·repeat(first|exact sH _ _ _|apply sT));(first|exact nfL_eq rfl|exact rfl);exact rfl)|((first|apply kh|apply kl);(iterate 2 exact rfl);(first|decide|omega);exact rfl)|(apply kq; (· exact rfl); (· intro w1 h1; first | exact CallsTo.q (q24 w1) h1 | exact CallsTo.q (q25 w1) h1))|(apply LR.ev; (· first | (apply Ev.fieldA Try.underlying27; (· exact rfl); (· exact (inferInstance : Agg Try.prog 25 7)); (· exact rfl)) | (apply Ev.fieldA Try.underlying25; (· exact rfl); (· exact (inferInstance : Agg Try.prog 23 2)); (· exact rfl))); (· exact rfl))|((first|(apply kR;iterate 2 exact rfl)|(apply kQ;exact rfl));all_goals(intro hc;try simp only[hcs]at hc;try(exfalso;first|contradiction|omega))))
  rename_i bo
  apply CW.loop [0, 9, 10, 81, 82, 83, 84, 85, 86, 87, 88, 89, 90, 91, 92, 93, 94, 95, 96, 97, 98, 99, 100, 101, 102, 103] (fun i : Nat => i ≤ 7) (fun i => [(9, Value.int .i64 (i : Int))])
    (fun _ => St w NoF [.own bx (.cells (nextsL.flatMap NxC.cells).toArray 30 (0, 0)), .own bo (.cells (oldsL.flatMap OldC.cells).toArray 27 (0, 0)), .own bs (.cells (usA.flatMap DaA.row).toArray 44 (0, 0))]) (fun i => 7 - i)
  · intro w' hw'
    exact ⟨0, by simp, ⟨rfl, trivial⟩, hw'.sub (by (repeat (first | exact List.Sublist.refl _ | apply List.Sublist.cons_cons | apply List.Sublist.cons)))⟩
  intro i g1 hi
  by_cases hlt : i < 7
  · have hlo : i < oldsL.length := hlt
    have hIo := olds_I _ (List.getElem_mem hlo)
    repeat'(first|(apply kp;iterate 2 exact rfl)|apply jJ|(apply jE;exact rfl)|(apply jp;exact rfl)|(apply jc;kernel_rfl)|((first|apply kf|apply kn|apply ke|apply kx|apply kc|apply kb);iterate 2 exact rfl)|((first|apply kz|apply ky);(·exact rfl);(·repeat(first|exact iO|exact iR rfl|apply iT));iterate 2 exact rfl)|(apply kg;iterate 2 exact rfl)|(apply kG;iterate 3 exact rfl)|(apply kB;(iterate 2 exact rfl);intro _)|(apply kA;exact rfl;intro _)|(apply Go.Hb.kK;(iterate 4 exact rfl);intro _)|(apply kU;(iterate 2 exact rfl);(·repeat(first|exact sH _ _ _|apply sT));(first|exact nfL_eq rfl|exact rfl);exact rfl)|((first|apply kh|apply kl);(iterate 2 exact rfl);(first|decide|omega);exact rfl)|((first|(apply kR;iterate 2 exact rfl)|(apply kQ;exact rfl));all_goals(intro hc;try simp only[hcs]at hc;try(exfalso;first|contradiction|omega))))
    apply CW.loop [0, 10, 87, 88, 89, 90, 91, 92, 93, 94, 95, 96, 97, 98, 99, 100, 101, 102, 103] (fun k : Nat => k ≤ 8) (fun k => [(10, Value.int .i64 (k : Int))])
      (fun _ => St w NoF [.own bx (.cells (nextsL.flatMap NxC.cells).toArray 30 (0, 0)), .own bo (.cells (oldsL.flatMap OldC.cells).toArray 27 (0, 0)), .own bs (.cells (usA.flatMap DaA.row).toArray 44 (0, 0))]) (fun k => 8 - k)
    · intro w' hw'
      exact ⟨0, by simp, ⟨rfl, trivial⟩, hw'⟩
    intro k g2 hk
    by_cases hlk : k < 8
    · have hln : k < nextsL.length := hlk
      have hIn := nexts_I _ (List.getElem_mem hln)
      repeat'(first|(apply CW.reg_heldC)|(apply kp;iterate 2 exact rfl)|apply jJ|(apply jE;exact rfl)|(apply jp;exact rfl)|(apply jc;kernel_rfl)|((first|apply kf|apply kn|apply ke|apply kx|apply kc|apply kb);iterate 2 exact rfl)|((first|apply kz|apply ky);(·exact rfl);(·repeat(first|exact iO|exact iR rfl|apply iT));iterate 2 exact rfl)|(apply kg;iterate 2 exact rfl)|(apply kG;iterate 3 exact rfl)|(apply kB;(iterate 2 exact rfl);intro _)|(apply kA;exact rfl;intro _)|(apply Go.Hb.kK;(iterate 4 exact rfl);intro _)|(apply kU;(iterate 2 exact rfl);(·repeat(first|exact sH _ _ _|apply sT));(first|exact nfL_eq rfl|exact rfl);exact rfl)|((first|apply kh|apply kl);(iterate 2 exact rfl);(first|decide|omega);exact rfl)|((first|(apply kR;iterate 2 exact rfl)|(apply kQ;exact rfl));all_goals(intro hc;try simp only[hcs]at hc;try(exfalso;first|contradiction|omega))))
      all_goals (
        apply DW.quiet [0, 1, 2, 3, 4, 5, 6, 7, 8]
        · decide +kernel
        · first | exact fun _ h => h | exact fun _ h => St.sub h (by repeat (first | exact List.Sublist.refl _ | apply List.Sublist.cons_cons | apply List.Sublist.cons))
        repeat'(first|(apply yp;iterate 3 exact rfl)|(apply QL.ev;(·exact rfl);(·first|((first|apply Ez|apply Ey);(·exact rfl);(·repeat(first|exact iO|exact iR rfl|apply iT));exact rfl)|((first|apply Ev.fieldAddr|apply Ev.len|apply EqOf.eq|apply EqOf.ne|apply Ev.conv|apply Ev.buildN);exact rfl)|((first|apply Ev.shr|apply Ev.shl);(iterate 2 exact rfl);first|decide|omega));·exact rfl)|(apply QL.ev; (· exact rfl); (· first | (apply Ev.indexAddr; (· exact rfl); (· exact rfl); (· omega); (· omega)) | (apply Ev.load_agg_at (cs := oldsL[i].cells); (· exact rfl); (· exact rfl); (· intro w' hw'; exact rd_row OldC.cells_len (hw'.rd_of_blk (by (repeat (first | exact mH _ _ | apply mT)))) hlo (by omega))) | (apply Ev.load_agg_at (cs := nextsL[k].cells); (· exact rfl); (· exact rfl); (· intro w' hw'; exact rd_row NxC.cells_len (hw'.rd_of_blk (by (repeat (first | exact mH _ _ | apply mT)))) hln (by omega)))); (· exact rfl))|(apply yq;iterate 5 exact rfl)|(apply QL.evg;(iterate 3 exact rfl);(·first|((first|apply Ez|apply Ey);(·exact rfl);(·repeat(first|exact iO|exact iR rfl|apply iT));exact rfl)|((first|apply Ev.fieldAddr|apply Ev.len|apply EqOf.eq|apply EqOf.ne|apply Ev.conv|apply Ev.buildN);exact rfl)|((first|apply Ev.shr|apply Ev.shl);(iterate 2 exact rfl);first|decide|omega));·exact rfl)|(apply yn;iterate 4 exact rfl)|((apply QL.split;iterate 3 exact rfl);all_goals(intro hc;try simp only[hcs]at hc;try(exfalso;first|contradiction|omega)))|apply QL.nil)
        all_goals (show DW _ _ _ _ _ _ _ _))
      all_goals (
        apply DW.loud 9
        · exact rfl
        · decide +kernel
        repeat'(first|(apply kg;iterate 2 exact rfl)|(apply kG;iterate 3 exact rfl)|apply kM|(apply kp;iterate 2 exact rfl)|((first|apply kz|apply ky);(·exact rfl);(·repeat(first|exact iO|exact iR rfl|apply iT));iterate 2 exact rfl)|(apply Go.Hb.kK;(iterate 4 exact rfl);intro _)|(apply kU;(iterate 2 exact rfl);(·repeat(first|exact sH _ _ _|apply sT));(first|exact nfL_eq rfl|exact rfl);exact rfl)|(apply kB;(iterate 2 exact rfl);intro _)|(apply kA;exact rfl;intro _)|(apply kq; (· exact rfl); (· intro w1 h1; exact CallsTo.q (show CallsTo Try.prog 3 [oldsL[i].val, .slice (some ⟨bs, 0, none⟩) usA.length 6, .agg (.int .i64 nextsL[k].k :: nextsL[k].g.cells).toArray] w1 _ from q3 oldsL[i] (some ⟨bs, 0, none⟩) 6 usA nextsL[k].k nextsL[k].g w1 (h1.rd_of_blk (by (repeat (first | exact mH _ _ | apply mT)))) (us_R w1) (by decide) hIo.1 hIn.2 hIn.1 hIo.2) h1)))
        all_goals (refine At.stage_same (fun _ h => St.sub h (by repeat (first | exact List.Sublist.refl _ | apply List.Sublist.cons_cons | apply List.Sublist.cons))) ?_))
      all_goals (
        apply DW.quiet [10]
        · decide +kernel
        · first | exact fun _ h => h | exact fun _ h => St.sub h (by repeat (first | exact List.Sublist.refl _ | apply List.Sublist.cons_cons | apply List.Sublist.cons))
        repeat'(first|(apply yp;iterate 3 exact rfl)|(apply QL.ev;(·exact rfl);(·first|((first|apply Ez|apply Ey);(·exact rfl);(·repeat(first|exact iO|exact iR rfl|apply iT));exact rfl)|((first|apply Ev.fieldAddr|apply Ev.len|apply EqOf.eq|apply EqOf.ne|apply Ev.conv|apply Ev.buildN);exact rfl)|((first|apply Ev.shr|apply Ev.shl);(iterate 2 exact rfl);first|decide|omega));·exact rfl)|(apply QL.ev; (· exact rfl); (· first | (apply Ev.indexAddr; (· exact rfl); (· exact rfl); (· omega); (· omega)) | (apply Ev.load_agg_at (cs := oldsL[i].cells); (· exact rfl); (· exact rfl); (· intro w' hw'; exact rd_row OldC.cells_len (hw'.rd_of_blk (by (repeat (first | exact mH _ _ | apply mT)))) hlo (by omega))) | (apply Ev.load_agg_at (cs := nextsL[k].cells); (· exact rfl); (· exact rfl); (· intro w' hw'; exact rd_row NxC.cells_len (hw'.rd_of_blk (by (repeat (first | exact mH _ _ | apply mT)))) hln (by omega)))); (· exact rfl))|(apply yq;iterate 5 exact rfl)|(apply QL.evg;(iterate 3 exact rfl);(·first|((first|apply Ez|apply Ey);(·exact rfl);(·repeat(first|exact iO|exact iR rfl|apply iT));exact rfl)|((first|apply Ev.fieldAddr|apply Ev.len|apply EqOf.eq|apply EqOf.ne|apply Ev.conv|apply Ev.buildN);exact rfl)|((first|apply Ev.shr|apply Ev.shl);(iterate 2 exact rfl);first|decide|omega));·exact rfl)|(apply yn;iterate 4 exact rfl)|((apply QL.split;iterate 3 exact rfl);all_goals(intro hc;try simp only[hcs]at hc;try(exfalso;first|contradiction|omega)))|apply QL.nil)
        all_goals (show DW _ _ _ _ _ _ _ _))
      all_goals (first | (apply DW.done_thn; (· decide +kernel)) | (apply DW.done; (· decide +kernel)))
      repeat'(first|(apply kp;iterate 2 exact rfl)|apply jJ|(apply jE;exact rfl)|(apply jp;exact rfl)|(apply jc;kernel_rfl)|((first|apply kf|apply kn|apply ke|apply kx|apply kc|apply kb);iterate 2 exact rfl)|((first|apply kz|apply ky);(·exact rfl);(·repeat(first|exact iO|exact iR rfl|apply iT));iterate 2 exact rfl)|(apply kg;iterate 2 exact rfl)|(apply kG;iterate 3 exact rfl)|(apply kB;(iterate 2 exact rfl);intro _)|(apply kA;exact rfl;intro _)|(apply Go.Hb.kK;(iterate 4 exact rfl);intro _)|(apply kU;(iterate 2 exact rfl);(·repeat(first|exact sH _ _ _|apply sT));(first|exact nfL_eq rfl|exact rfl);exact rfl)|((first|apply kh|apply kl);(iterate 2 exact rfl);(first|decide|omega);exact rfl)|(apply addX;(iterate 2 exact rfl);(iterate 2(first|omega|(dsimp only;omega)));exact rfl)|((first|(apply kR;iterate 2 exact rfl)|(apply kQ;exact rfl));all_goals(intro hc;try simp only[hcs]at hc;try(exfalso;first|contradiction|omega))))
      refine At.again (k + 1) (by omega) ?_ ⟨rfl, trivial⟩ (fun w' hw' => hw') (by omega)
      (repeat (first | exact Out.refl _ _ | exact Out.mix | (apply Out.upd; (· exact rfl)) | (apply Out.updL; (· exact rfl)) | (apply Out.mixs; (· exact rfl))))
    · repeat'(first|(apply kp;iterate 2 exact rfl)|apply jJ|(apply jE;exact rfl)|(apply jp;exact rfl)|(apply jc;kernel_rfl)|((first|apply kf|apply kn|apply ke|apply kx|apply kc|apply kb);iterate 2 exact rfl)|((first|apply kz|apply ky);(·exact rfl);(·repeat(first|exact iO|exact iR rfl|apply iT));iterate 2 exact rfl)|(apply kg;iterate 2 exact rfl)|(apply kG;iterate 3 exact rfl)|(apply kB;(iterate 2 exact rfl);intro _)|(apply kA;exact rfl;intro _)|(apply Go.Hb.kK;(iterate 4 exact rfl);intro _)|(apply kU;(iterate 2 exact rfl);(·repeat(first|exact sH _ _ _|apply sT));(first|exact nfL_eq rfl|exact rfl);exact rfl)|((first|apply kh|apply kl);(iterate 2 exact rfl);(first|decide|omega);exact rfl)|(apply addX;(iterate 2 exact rfl);(iterate 2(first|omega|(dsimp only;omega)));exact rfl)|((first|(apply kR;iterate 2 exact rfl)|(apply kQ;exact rfl));all_goals(intro hc;try simp only[hcs]at hc;try(exfalso;first|contradiction|omega))))
      refine At.again (i + 1) (by omega) ?_ ⟨rfl, trivial⟩ (fun w' hw' => hw') (by omega)
      (repeat (first | exact Out.refl _ _ | exact Out.mix | (apply Out.upd; (· exact rfl)) | (apply Out.updL; (· exact rfl)) | (apply Out.mixs; (· exact rfl))))
  · repeat'(first|(apply kp;iterate 2 exact rfl)|apply jJ|(apply jE;exact rfl)|(apply jp;exact rfl)|(apply jc;kernel_rfl)|((first|apply kf|apply kn|apply ke|apply kx|apply kc|apply kb);iterate 2 exact rfl)|((first|apply kz|apply ky);(·exact rfl);(·repeat(first|exact iO|exact iR rfl|apply iT));iterate 2 exact rfl)|(apply kg;iterate 2 exact rfl)|(apply kG;iterate 3 exact rfl)|(apply kB;(iterate 2 exact rfl);intro _)|(apply kA;exact rfl;intro _)|(apply Go.Hb.kK;(iterate 4 exact rfl);intro _)|(apply kU;(iterate 2 exact rfl);(·repeat(first|exact sH _ _ _|apply sT));(first|exact nfL_eq rfl|exact rfl);exact rfl)|((first|apply kh|apply kl);(iterate 2 exact rfl);(first|decide|omega);exact rfl)|(apply kq; (· exact rfl); (· intro w1 h1; exact CallsTo.q (q17 w1) h1))|((first|(apply kR;iterate 2 exact rfl)|(apply kQ;exact rfl));all_goals(intro hc;try simp only[hcs]at hc;try(exfalso;first|contradiction|omega))))
    (apply ret1; (· exact rfl); intro w' hS)
    exact ⟨rfl, hS.toKeep⟩
end Go.Proofs.Ytkolmkdbjagfcaa

namespace Go.Proofs.Ytkolmkdbjagfcaa
open Go.Hb Go.ChangeShapes Go.WideShapes
attribute [local irreducible] LR CW At Ev thn blk finK noG again CallsTo DW QL dnext
set_option linter.unusedSimpArgs false
set_option linter.unusedVariables false

set_option maxHeartbeats 1000000 in
set_option maxRecDepth 100000 in
theorem changeNames_lifted (os : Os) (started : os.Started) (H : Type) (enc : TypeId × Value → H) :
    ReturnsInHanded {} Try.checked os 5 .any (Rows.changeNamesSpec.pre6 enc Try.prog Try.f5 Rows.changeNamesRow.domain false) (Rows.changeNamesSpec.post enc Try.prog Try.f5 false true false false) := by
  refine returnsInHanded_of_change_sized (C := Try.checked) (s := Rows.changeNamesSpec) own_knob started (by kernel_rfl) Try.func5
    (ChangeSpec.witness6 (enc := enc) (C := Try.checked) false ⟨#[], #[], []⟩ 12 (by kernel_rfl) (by kernel_rfl) (by kernel_rfl) (by kernel_rfl)) ?_
  intro W base args ds gs before hval hW hcnd hwt _
  have hW' := hW
  obtain ⟨p, q, hA0, hV, rfl, hfz, hnd⟩ := hW'
  obtain ⟨rfl, rfl⟩ := trodVars_none hV
  have hA : DataW.TrodAll enc Try.prog W 0 (fun _ => true) true Try.f5.params.toList args.toList ds p := hA0
  rw [Try.params5] at hA
  obtain ⟨hargs, rfl, rfl⟩ := trodAll_nil hA
  obtain rfl : args = #[] := by cases args; simp_all
  refine (q5 W).calls fun v W' ⟨hv, hg⟩ => ⟨v, rfl, ?_⟩
  subst hv
  exact law_post kids full_slices hW hg rfl rfl (by kernel_rfl) Try.underlying4 (by rw [Try.params5]; decide +kernel)

theorem changeNames_holds : Rows.ChangeNamesSaid :=
  OpenClaim.holds_of_wide 5 Try.f5 rfl rfl rfl rfl rfl rfl rfl ⟨rfl, rfl, rfl, rfl, rfl⟩ rfl rfl rfl rfl rfl (by kernel_rfl) Try.func5 (by kernel_rfl)
    (of_decide_eq_true (by kernel_rfl)) (by unfold Func.isWrapper; first | (rw [if_pos (by decide +kernel)]; kernel_rfl) | (rw [if_neg (by decide +kernel)]; exact ⟨rfl, rfl⟩))
    (fun os started H enc _ => changeNames_lifted os started H enc)
end Go.Proofs.Ytkolmkdbjagfcaa
