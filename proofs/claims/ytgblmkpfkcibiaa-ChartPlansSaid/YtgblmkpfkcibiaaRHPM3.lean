/-
  Lists of numbers, tokens and visits as arguments.
-/
import Derived.Test.YtgblmkpfkcibiaaRHPM2
import Derived.Lib.SliceRun
import Derived.OpenShut

set_option linter.unusedSimpArgs false
set_option linter.unusedVariables false
namespace Go.Proofs.Ytgblmkpfkcibiaa
open Go.Hb
attribute [local irreducible] LR CW At Ev thn blk finK noG again CallsTo DW QL dnext TW DP gpost
set_option maxRecDepth 100000

def cmpM (x y : Int) : Int := if x < y then -1 else if y < x then 1 else 0
theorem m91 (x : Int) (w : World) : CallsTo Try.prog 91 [.int .i64 x] w fun v w' => v = .bool false ∧ Grew w w' := by
  refine go_in (n := 6) (St.refl _ NoF) Try.func91 rfl rfl ?_
  repeat'(first|refine kv' ?_|apply jJ|refine jE' ?_|refine jp' ?_|(apply jc;kernel_rfl)|refine kg' ?_|refine kG' ?_|refine kB' fun _=>?_|refine kA' fun _=>?_|refine kK' fun _=>?_|refine kU' ?_|((first|refine kR' ?_ ?_|refine kQ' ?_ ?_);all_goals(intro hc;try simp only[hcs]at hc;try(exfalso;first|contradiction|omega))))
  (apply ret1; (· exact rfl); intro w' hS)
  exact ⟨congrArg Value.bool (by simp), hS⟩
theorem m69 (x y : Int) (w : World) : CallsTo Try.prog 69 [.int .i64 x, .int .i64 y] w fun v w' => v = .int .i64 (cmpM x y) ∧ Grew w w' := by
  refine go_in (n := 20) (St.refl _ NoF) Try.func69 rfl rfl ?_
  repeat'(first|refine kv' ?_|apply jJ|refine jE' ?_|refine jp' ?_|(apply jc;kernel_rfl)|refine kg' ?_|refine kG' ?_|refine kB' fun _=>?_|refine kA' fun _=>?_|refine kK' fun _=>?_|refine kU' ?_|(apply kq;(·exact rfl);(·intro w1 h1;exact CallsTo.q (m91 _ w1) h1))|((first|refine kR' ?_ ?_|refine kQ' ?_ ?_);all_goals(intro hc;try simp only[hcs]at hc;try(exfalso;first|contradiction|omega))))
  all_goals (
    (apply ret1; (· exact rfl); intro w' hS)
    refine ⟨congrArg (Value.int .i64) ?_, hS⟩
    unfold cmpM; split <;> (try split) <;> omega)
theorem m85 (x y : Plc) (w : World) : CallsTo Try.prog 85 [x.val, y.val] w fun v w' => v = .int .i64 (cmpM x.ring y.ring) ∧ Grew w w' := by
  refine go_in (n := 10) (St.refl _ NoF) Try.func85 rfl rfl ?_
  repeat'(first|refine kv' ?_|apply jJ|refine jE' ?_|refine jp' ?_|(apply jc;kernel_rfl)|refine kg' ?_|refine kG' ?_|refine kB' fun _=>?_|refine kA' fun _=>?_|refine kK' fun _=>?_|refine kU' ?_|(apply kq;(·exact rfl);(·intro w1 h1;exact CallsTo.q (m69 _ _ w1) h1))|((first|refine kR' ?_ ?_|refine kQ' ?_ ?_);all_goals(intro hc;try simp only[hcs]at hc;try(exfalso;first|contradiction|omega))))
  (apply ret1; (· exact rfl); intro w' hS)
  exact ⟨rfl, hS.toKeep⟩
def zP : Plc := ⟨0, 0, 0, 0⟩
def cutP (l : List Plc) (x : Plc) : Nat → Nat
  | 0 => 0
  | k + 1 => if x.ring < (l.getD k zP).ring then cutP l x k else k + 1
theorem cutP_le (l : List Plc) (x : Plc) : ∀ k, cutP l x k ≤ k
  | 0 => Nat.le_refl _
  | k + 1 => by unfold cutP; split; (have := cutP_le l x k; omega); omega
def putP (l : List Plc) (x : Plc) : List Plc := l.take (cutP l x l.length) ++ x :: l.drop (cutP l x l.length)
theorem putP_len (l : List Plc) (x : Plc) : (putP l x).length = l.length + 1 := by
  have := cutP_le l x l.length
  unfold putP
  rw [List.length_append, List.length_cons, List.length_take, List.length_drop]
  omega
def isP (l : List Plc) : List Plc := l.foldl putP []
theorem isP_snoc (l : List Plc) (x : Plc) : isP (l ++ [x]) = putP (isP l) x := by unfold isP; rw [List.foldl_append]; rfl
theorem isP_len (l : List Plc) : (isP l).length = l.length := by
  have : ∀ (l m : List Plc), (l.foldl putP m).length = m.length + l.length := by
    intro l
    induction l with
    | nil => intro m; rfl
    | cons x r ih => intro m; rw [List.foldl_cons, ih, putP_len, List.length_cons]; omega
  have h := this l []
  simpa [isP] using h
theorem isP_take {B : List Plc} {k : Nat} (h : k < B.length) : isP (B.take (k + 1)) = putP (isP (B.take k)) B[k] := by
  rw [List.take_add_one, List.getElem?_eq_getElem h]; exact isP_snoc _ _
def onP (A S : List Plc) (x : Plc) (R : List Plc) (j : Nat) : List Plc := A ++ (S.take j ++ x :: (S.drop j ++ R))
theorem onP_len (A S R : List Plc) (x : Plc) {j : Nat} (h : j ≤ S.length) : (onP A S x R j).length = A.length + S.length + 1 + R.length := by
  unfold onP
  simp only [List.length_append, List.length_cons, List.length_take, List.length_drop]
  omega
theorem onP_at (A S R : List Plc) (x : Plc) {j : Nat} (h : j ≤ S.length) : (onP A S x R j)[A.length + j]? = some x := by
  unfold onP
  rw [List.getElem?_append_right (by omega), Nat.add_sub_cancel_left, List.getElem?_append_right (by rw [List.length_take]; omega), List.length_take, Nat.min_eq_left h, Nat.sub_self]
  rfl
theorem onP_before (A S R : List Plc) (x : Plc) {j : Nat} (h : j < S.length) : (onP A S x R (j + 1))[A.length + j]? = some S[j] := by
  unfold onP
  rw [List.getElem?_append_right (by omega), Nat.add_sub_cancel_left, List.getElem?_append_left (by rw [List.length_take]; omega), List.getElem?_take_of_lt (by omega), List.getElem?_eq_getElem h]
theorem onP_swap (A S R : List Plc) (x : Plc) {j : Nat} (h : j < S.length) : ((onP A S x R (j + 1)).set (A.length + j + 1) S[j]).set (A.length + j) x = onP A S x R j := by
  unfold onP
  have e1 : S.take (j + 1) = S.take j ++ [S[j]] := by rw [List.take_add_one, List.getElem?_eq_getElem h]; rfl
  have e2 : S.drop j = S[j] :: S.drop (j + 1) := List.drop_eq_getElem_cons h
  have hl : (S.take j).length = j := by rw [List.length_take]; omega
  rw [e1, e2, List.set_append_right _ _ (by omega), List.set_append_right _ _ (by omega)]
  rw [show A.length + j + 1 - A.length = j + 1 by omega, show A.length + j - A.length = j by omega]
  simp only [List.append_assoc, List.cons_append, List.nil_append]
  rw [List.set_append_right _ _ (by omega), List.set_append_right _ _ (by omega), hl, Nat.sub_self, show j + 1 - j = 1 by omega]
  rfl
theorem plc_len (p : Plc) : p.cells.length = 4 := rfl
theorem plc_one (p : Plc) : p.cells.all Value.oneCell' = true := rfl
abbrev pN (a : Option Addr) (n c : Nat) (D : List Plc) : Asrt := osl (.slice a n c) 44 4 n (pcs D)
theorem pcs_cell {w : World} {b o : Nat} {D : List Plc} {k : Nat} {x : Plc} (h : Rd w (some ⟨b, o, none⟩) (pcs D)) (hx : D[k]? = some x) {q : Nat} (hq : q = o + k * 4) : ∀ j v, (Plc.cells x)[j]? = some v → w.cell? ((⟨b, q, none⟩ : Addr).add j) = some v := by
  intro j v hj
  have hk : k < D.length := (List.getElem?_eq_some_iff.1 hx).1
  have e : D[k] = x := by rw [List.getElem?_eq_getElem hk] at hx; simpa using hx
  rw [hq]
  have h9 := rd_row (f := Plc.cells) (l := D) (i := k) (q := k * 4) plc_len h hk rfl j v
  rw [e] at h9
  exact h9 hj
theorem put_plc {b o n c q : Nat} {l : List Plc} (x : Plc) {k : Nat} (hk : k < l.length) (hq : q = o + k * 4) :
    Stores Try.prog 44 ⟨b, q, none⟩ x.val (pN (some ⟨b, o, none⟩) n c l) (pN (some ⟨b, o, none⟩) n c (l.set k x)) :=
  rows_store (P := Try.prog) (T := 44) (E := 44) (f := Plc.cells) inferInstance plc_len plc_one x hk hq
def sorP (D : List Plc) (lo k : Nat) : List Plc := D.take lo ++ (isP ((D.drop lo).take k) ++ D.drop (lo + k))
theorem sorP_len (D : List Plc) {lo k : Nat} (h : lo + k ≤ D.length) : (sorP D lo k).length = D.length := by
  unfold sorP
  simp only [List.length_append, List.length_take, List.length_drop, isP_len]
  omega
theorem sorP_one (D : List Plc) {lo : Nat} (h : lo < D.length) : sorP D lo 1 = D := by
  unfold sorP
  have e : (D.drop lo).take 1 = [D[lo]] := by rw [List.drop_eq_getElem_cons h]; rfl
  have e2 : isP [D[lo]] = [D[lo]] := rfl
  rw [e, e2, ← e, ← List.drop_drop, List.take_append_drop, List.take_append_drop]
theorem sorP_on {D : List Plc} {lo k : Nat} (h : lo + k < D.length) : sorP D lo k = onP (D.take lo) (isP ((D.drop lo).take k)) D[lo + k] (D.drop (lo + k + 1)) k := by
  unfold sorP onP
  have hl : (isP ((D.drop lo).take k)).length = k := by rw [isP_len, List.length_take, List.length_drop]; omega
  rw [List.take_of_length_le (l := isP ((D.drop lo).take k)) (by omega), List.drop_of_length_le (l := isP ((D.drop lo).take k)) (by omega), List.nil_append, ← List.drop_eq_getElem_cons h]
theorem sorP_next {D : List Plc} {lo k j : Nat} (h : lo + k < D.length) (hj : cutP (isP ((D.drop lo).take k)) D[lo + k] k = j) : onP (D.take lo) (isP ((D.drop lo).take k)) D[lo + k] (D.drop (lo + k + 1)) j = sorP D lo (k + 1) := by
  have hl : (isP ((D.drop lo).take k)).length = k := by rw [isP_len, List.length_take, List.length_drop]; omega
  have hk : k < (D.drop lo).length := by rw [List.length_drop]; omega
  unfold sorP
  rw [isP_take hk]
  have e : (D.drop lo)[k] = D[lo + k] := by rw [List.getElem_drop]
  rw [e]
  unfold putP onP
  rw [hl, hj]
  simp only [List.append_assoc, List.cons_append, Nat.add_assoc]
end Go.Proofs.Ytgblmkpfkcibiaa

namespace Go.Proofs.Ytgblmkpfkcibiaa
open Go.Hb
attribute [local irreducible] LR CW At Ev thn blk finK noG again CallsTo DW QL dnext TW DP gpost
set_option maxRecDepth 100000

set_option maxHeartbeats 2000000 in
theorem m127 (a : Option Addr) (c : Nat) (D : List Plc) (lo hi : Nat) (w : World) (h : (pN a D.length c D).holds w) (hlo : lo ≤ hi) (hhi : hi ≤ D.length) (hn : D.length ≤ 140737488355328) :
    CallsTo Try.prog 127 [.slice a D.length c, .int .i64 lo, .int .i64 hi, .func (.func 85) #[] #[]] w fun v w' => v = .tuple #[] ∧ Step (pN a D.length c D) (pN a D.length c (sorP D lo (hi - lo))) w w' := by
  have hS0 : St w (pN a D.length c D).foot [pN a D.length c D] w := St.one h (fun k hk => (World.ownsRow.lt h k hk).2) (osl.dep _ _ _ _ _)
  generalize hF : (pN a D.length c D).foot = F at *
  refine go_in (n := 53) hS0 Try.func127 rfl rfl ?_
  have hadd : ∀ k : Nat, ((lo : Int) + (k : Int)) = ((lo + k : Nat) : Int) := fun k => by omega
  repeat'(first|refine kv' ?_|apply jJ|refine jE' ?_|refine jp' ?_|(apply jc;kernel_rfl)|refine kg' ?_|refine kG' ?_|refine kB' fun _=>?_|refine kA' fun _=>?_|refine kK' fun _=>?_|refine kU' ?_|(apply addX;(iterate 2 exact rfl);(iterate 2(first|omega|(dsimp only;omega)));exact rfl)|((first|refine kR' ?_ ?_|refine kQ' ?_ ?_);all_goals(intro hc;try simp only[hcs]at hc;try(exfalso;first|contradiction|omega))))
  apply CW.loop [8, 9, 12, 13, 14, 15, 16, 17, 18, 19, 20, 21, 22, 23, 24, 25, 26, 27, 28, 29, 30, 31, 32, 33, 34, 35, 36, 37, 38, 39, 40, 41, 42, 43, 44, 45, 46, 47, 48, 49, 50, 51, 52] (fun k : Nat => 1 ≤ k ∧ (k ≤ hi - lo ∨ k = 1)) (fun k => [(8, .int .i64 ((lo + k : Nat) : Int))])
    (fun k => St w F [pN a D.length c (sorP D lo k)]) (fun k => hi - lo - k)
  · refine fun w' hw' => ⟨1, ⟨by omega, .inr rfl⟩, ⟨?_, trivial⟩, ?_⟩
    · exact congrArg (Value.int .i64) (by omega)
    · rcases Nat.lt_or_ge lo D.length with hl | hl
      · rw [sorP_one D hl]; exact hw'
      · have e : sorP D lo 1 = D := by
          unfold sorP
          rw [List.drop_of_length_le hl, List.drop_of_length_le (by omega), List.take_of_length_le hl]
          simp [isP]
        rw [e]; exact hw'
  rintro k g1 ⟨hk1, hk2⟩
  by_cases hlt : lo + k < hi
  · have hlk : lo + k < D.length := by omega
    refine CW_fact (φ := ∃ ba oa, a = some ⟨ba, oa, none⟩) (fun w1 hw1 => (ownsRow_rd (hw1.holds (pN a D.length c (sorP D lo k)) memZ)).form (fun e => by have h1 := congrArg List.length e; rw [pcs_length, sorP_len D (by omega), List.length_nil] at h1; omega)) ?_
    rintro ⟨ba, oa, rfl⟩
    obtain ⟨A, hA⟩ : ∃ A, A = D.take lo := ⟨_, rfl⟩
    obtain ⟨S, hSS⟩ : ∃ S, S = isP ((D.drop lo).take k) := ⟨_, rfl⟩
    obtain ⟨R, hR⟩ : ∃ R, R = D.drop (lo + k + 1) := ⟨_, rfl⟩
    obtain ⟨x, hx⟩ : ∃ x, x = D[lo + k] := ⟨_, rfl⟩
    have hon := sorP_on hlk
    have hne : ∀ j, cutP (isP ((D.drop lo).take k)) D[lo + k] k = j → _ := fun j hj => sorP_next hlk hj
    rw [← hA, ← hSS, ← hR, ← hx] at hon
    rw [← hA, ← hSS, ← hR, ← hx] at hne
    have hAl : A.length = lo := by rw [hA, List.length_take]; omega
    have hSl : S.length = k := by rw [hSS, isP_len, List.length_take, List.length_drop]; omega
    have hRl : R.length = D.length - (lo + k + 1) := by rw [hR, List.length_drop]
    rw [hon]
    repeat'(first|refine kv' ?_|apply jJ|refine jE' ?_|refine jp' ?_|(apply jc;kernel_rfl)|refine kg' ?_|refine kG' ?_|refine kB' fun _=>?_|refine kA' fun _=>?_|refine kK' fun _=>?_|refine kU' ?_|((first|refine kR' ?_ ?_|refine kQ' ?_ ?_);all_goals(intro hc;try simp only[hcs]at hc;try(exfalso;first|contradiction|omega))))
    apply CW.loop [9, 18, 19, 20, 21, 22, 23, 24, 25, 26, 27, 28, 29, 30, 31, 32, 33, 34, 35, 36, 37, 38, 39, 40, 41, 42, 43, 44, 45, 46, 47, 48, 49, 50, 51, 52] (fun j : Nat => j ≤ k ∧ cutP S x k = cutP S x j) (fun j => [(9, .int .i64 ((lo + j : Nat) : Int))])
      (fun j => St w F [pN (some ⟨ba, oa, none⟩) D.length c (onP A S x R j)]) (fun j => j)
    · exact fun w' hw' => ⟨k, ⟨by omega, rfl⟩, ⟨rfl, trivial⟩, hw'⟩
    rintro j g2 ⟨hj, hcut⟩
    cases j with
    | zero =>
      have hc0 : cutP S x k = 0 := hcut
      repeat'(first|(apply CW.reg_heldC)|refine kv' ?_|apply jJ|refine jE' ?_|refine jp' ?_|(apply jc;kernel_rfl)|refine kg' ?_|refine kG' ?_|refine kB' fun _=>?_|refine kA' fun _=>?_|refine kK' fun _=>?_|refine kU' ?_|((first|refine kR' ?_ ?_|refine kQ' ?_ ?_);all_goals(intro hc;try simp only[hcs]at hc;try(exfalso;first|contradiction|omega))))
      all_goals (
        apply DW.quiet [0, 1, 2, 3, 4, 5, 6, 7, 8, 9, 10, 11, 12, 13]
        · decide +kernel
        · first | exact fun _ h => h | exact fun _ h => St.sub h subZ
        repeat'(first|refine yv' ?_|refine uv' ?_|refine un' ?_|(refine us' ?_ ?_;all_goals(intro hc;try simp only[hcs]at hc;try(exfalso;first|contradiction|omega)))|apply QL.nil)
        all_goals (show DW _ _ _ _ _ _ _ _))
      all_goals (
        apply DW.loud 14
        · exact rfl
        · decide +kernel
        repeat'(first|refine kg' ?_|refine kG' ?_|apply kM|refine kv' ?_|refine kK' fun _=>?_|refine kU' ?_|refine kB' fun _=>?_|refine kA' fun _=>?_)
        all_goals (refine At.stage_same (fun _ h => St.sub h subZ) ?_))
      all_goals (
        apply DW.quiet [15, 16]
        · decide +kernel
        · first | exact fun _ h => h | exact fun _ h => St.sub h subZ
        repeat'(first|refine yv' ?_|refine uv' ?_|refine un' ?_|(refine us' ?_ ?_;all_goals(intro hc;try simp only[hcs]at hc;try(exfalso;first|contradiction|omega)))|apply QL.nil)
        all_goals (show DW _ _ _ _ _ _ _ _))
      all_goals (first | (apply DW.done_thn; (· decide +kernel)) | (apply DW.done; (· decide +kernel)))
      repeat'(first|refine kv' ?_|apply jJ|refine jE' ?_|refine jp' ?_|(apply jc;kernel_rfl)|refine kg' ?_|refine kG' ?_|refine kB' fun _=>?_|refine kA' fun _=>?_|refine kK' fun _=>?_|refine kU' ?_|(apply addX;(iterate 2 exact rfl);(iterate 2(first|omega|(dsimp only;omega)));exact rfl)|((first|refine kR' ?_ ?_|refine kQ' ?_ ?_);all_goals(intro hc;try simp only[hcs]at hc;try(exfalso;first|contradiction|omega))))
      refine At.again (k + 1) ⟨by omega, .inl (by omega)⟩ ?_ ⟨?_, trivial⟩ (fun w' hw' => ?_) (by omega)
      · (repeat (first | exact Out.refl _ _ | exact Out.mix | (apply Out.upd; (· exact rfl)) | (apply Out.updL; (· exact rfl)) | (apply Out.mixs; (· exact rfl))))
      · exact congrArg (Value.int .i64) (by omega)
      · rw [← hne 0 hc0]; exact hw'
    | succ j =>
      have hjS : j < S.length := by omega
      obtain ⟨y, hy⟩ : ∃ y, S[j] = y := ⟨_, rfl⟩
      have hat1 := onP_at A S R x (j := j + 1) (by omega)
      have hat0 := onP_before A S R x hjS
      have hsw := onP_swap A S R x hjS
      have hol := onP_len A S R x (j := j + 1) (by omega)
      rw [hy] at hat0 hsw
      rw [hAl] at hat1 hat0 hsw
      have hcc : cutP S x (j + 1) = if x.ring < y.ring then cutP S x j else j + 1 := by
        show (if x.ring < (S.getD j zP).ring then cutP S x j else j + 1) = _
        rw [List.getD_eq_getElem?_getD, List.getElem?_eq_getElem hjS, hy]; rfl
      repeat'(first|(apply CW.reg_heldC)|refine kv' ?_|apply jJ|refine jE' ?_|refine jp' ?_|(apply jc;kernel_rfl)|refine kg' ?_|refine kG' ?_|refine kB' fun _=>?_|refine kA' fun _=>?_|refine kK' fun _=>?_|refine kU' ?_|((first|refine kR' ?_ ?_|refine kQ' ?_ ?_);all_goals(intro hc;try simp only[hcs]at hc;try(exfalso;first|contradiction|omega))))
      all_goals (
        apply DW.quiet [0, 1, 2, 3, 4, 5, 6, 7, 8, 9, 10, 11, 12, 13]
        · decide +kernel
        · first | exact fun _ h => h | exact fun _ h => St.sub h subZ
        repeat'(first|refine yv' ?_|(first | (apply QL.evg; (iterate 3 exact rfl); (· first | (apply Ev.indexAddr; (· exact rfl); (· exact rfl); (· omega); (· omega)) | (apply Ev.load_agg_at (cs := Plc.cells x); (· exact rfl); (· exact rfl); (· intro w' hw'; refine pcs_cell (hw'.rd_of_own memZ) hat1 ?_; (· omega))) | (apply Ev.load_agg_at (cs := Plc.cells y); (· exact rfl); (· exact rfl); (· intro w' hw'; refine pcs_cell (hw'.rd_of_own memZ) hat0 ?_; (· omega))) | (apply Ev.sub; (· exact rfl); (· exact rfl); (· omega); (· omega))); (· exact rfl)))|refine uv' ?_|refine un' ?_|(refine us' ?_ ?_;all_goals(intro hc;try simp only[hcs]at hc;try(exfalso;first|contradiction|omega)))|apply QL.nil)
        all_goals (show DW _ _ _ _ _ _ _ _))
      all_goals (
        apply DW.loud 14
        · exact rfl
        · decide +kernel
        repeat'(first|refine kg' ?_|refine kG' ?_|apply kM|refine kv' ?_|refine kK' fun _=>?_|refine kU' ?_|refine kB' fun _=>?_|refine kA' fun _=>?_|(apply LR.qcall_val (g := 85) (cap := []) (v := .int .i64 (cmpM x.ring y.ring)); (· exact rfl); (· exact rfl); (· intro w1 h1; exact CallsTo.q (m85 x y w1) h1)))
        all_goals (refine At.stage_same (fun _ h => St.sub h subZ) ?_))
      all_goals (
        apply DW.quiet [15, 16]
        · decide +kernel
        · first | exact fun _ h => h | exact fun _ h => St.sub h subZ
        repeat'(first|refine yv' ?_|(first | (apply QL.evg; (iterate 3 exact rfl); (· first | (apply Ev.indexAddr; (· exact rfl); (· exact rfl); (· omega); (· omega)) | (apply Ev.load_agg_at (cs := Plc.cells x); (· exact rfl); (· exact rfl); (· intro w' hw'; refine pcs_cell (hw'.rd_of_own memZ) hat1 ?_; (· omega))) | (apply Ev.load_agg_at (cs := Plc.cells y); (· exact rfl); (· exact rfl); (· intro w' hw'; refine pcs_cell (hw'.rd_of_own memZ) hat0 ?_; (· omega))) | (apply Ev.sub; (· exact rfl); (· exact rfl); (· omega); (· omega))); (· exact rfl)))|refine uv' ?_|refine un' ?_|(refine us' ?_ ?_;all_goals(intro hc;try simp only[hcs]at hc;try(exfalso;first|contradiction|omega)))|apply QL.nil)
        all_goals (show DW _ _ _ _ _ _ _ _))
      all_goals (first | (apply DW.done_thn; (· decide +kernel)) | (apply DW.done; (· decide +kernel)))
      rw [show decide (cmpM x.ring y.ring < 0) = decide (x.ring < y.ring) by
        rw [decide_eq_decide]; unfold cmpM; split <;> (try split) <;> omega]
      by_cases hlt2 : x.ring < y.ring
      · rw [if_pos hlt2] at hcc
        rw [decide_eq_true hlt2]
        repeat'(first|(apply CW.reg_held (fun _ => True))|refine kv' ?_|apply jJ|refine jE' ?_|refine jp' ?_|(apply jc;kernel_rfl)|refine kg' ?_|refine kG' ?_|refine kB' fun _=>?_|refine kA' fun _=>?_|refine kK' fun _=>?_|refine kU' ?_|((first|refine kR' ?_ ?_|refine kQ' ?_ ?_);all_goals(intro hc;try simp only[hcs]at hc;try(exfalso;first|contradiction|omega))))
        apply DW.quiet [2, 3, 4]
        · decide +kernel
        · exact fun _ _ => trivial
        repeat'(first|refine yv' ?_|((apply QL.ev; (· exact rfl); (· apply Ev.sub; (· exact rfl); (· exact rfl); (· omega); (· omega)); (· exact rfl)))|refine uv' ?_|refine un' ?_|(refine us' ?_ ?_;all_goals(intro hc;try simp only[hcs]at hc;try(exfalso;first|contradiction|omega)))|apply QL.nil)
        apply DW.gate 15 [15, 16, 17] [0, 1, 5, 6, 7, 8, 9, 10, 11, 12, 13, 14] (St w F [pN (some ⟨ba, oa, none⟩) D.length c (onP A S x R (j + 1))])
        · decide +kernel
        · exact fun _ _ => trivial
        · decide +kernel
        apply DW.quiet [0, 1, 5, 6, 7, 8, 9, 10, 11, 12, 13, 14]
        · decide +kernel
        · exact fun _ h => h
        repeat'(first|refine yv' ?_|((apply QL.ev; (· exact rfl); (· first | (apply Ev.indexAddr; (· exact rfl); (· exact rfl); (· omega); (· omega)) | (apply Ev.load_agg_at (cs := Plc.cells x); (· exact rfl); (· exact rfl); (· intro w' hw'; refine pcs_cell (hw'.rd_of_own memZ) hat1 ?_; (· omega))) | (apply Ev.load_agg_at (cs := Plc.cells y); (· exact rfl); (· exact rfl); (· intro w' hw'; refine pcs_cell (hw'.rd_of_own memZ) hat0 ?_; (· omega))) | (apply Ev.sub; (· exact rfl); (· exact rfl); (· omega); (· omega))); (· exact rfl)))|refine uv' ?_|refine un' ?_|(refine us' ?_ ?_;all_goals(intro hc;try simp only[hcs]at hc;try(exfalso;first|contradiction|omega)))|apply QL.nil)
        apply DW.done
        · decide +kernel
        apply At.gate
        apply DW.loud 15
        · exact rfl
        · decide +kernel
        refine LR.store_obj rfl rfl (Sel.head _ _ _) rfl (put_plc (l := onP A S x R (j + 1)) y (k := lo + j + 1) (by omega) (by omega)) (osl.dep _ _ _ _ _) ?_
        apply kM
        apply At.stage_any
        apply DW.quiet [16]
        · decide +kernel
        · exact fun _ _ => trivial
        repeat'(first|refine yv' ?_|((apply QL.ev; (· exact rfl); (· apply Ev.indexAddr; (· exact rfl); (· exact rfl); (· omega); (· omega)); (· exact rfl)))|refine uv' ?_|refine un' ?_|(refine us' ?_ ?_;all_goals(intro hc;try simp only[hcs]at hc;try(exfalso;first|contradiction|omega)))|apply QL.nil)
        apply DW.loud 17
        · exact rfl
        · decide +kernel
        refine LR.store_obj rfl rfl (Sel.head _ _ _) rfl (put_plc (l := (onP A S x R (j + 1)).set (lo + j + 1) y) x (k := lo + j) (by rw [List.length_set]; omega) (by omega)) (osl.dep _ _ _ _ _) ?_
        apply kM
        apply At.stage_any
        apply DW.done
        · decide +kernel
        rw [hsw]
        repeat'(first|refine kv' ?_|apply jJ|refine jE' ?_|refine jp' ?_|(apply jc;kernel_rfl)|refine kg' ?_|refine kG' ?_|refine kB' fun _=>?_|refine kA' fun _=>?_|refine kK' fun _=>?_|refine kU' ?_|(apply subX;(iterate 2 exact rfl);(iterate 2(first|omega|(dsimp only;omega)));exact rfl)|((first|refine kR' ?_ ?_|refine kQ' ?_ ?_);all_goals(intro hc;try simp only[hcs]at hc;try(exfalso;first|contradiction|omega))))
        refine At.again j ⟨by omega, by rw [hcut, hcc]⟩ ?_ ⟨?_, trivial⟩ (fun w' hw' => hw') (by omega)
        · (repeat (first | exact Out.refl _ _ | exact Out.mix | (apply Out.upd; (· exact rfl)) | (apply Out.updL; (· exact rfl)) | (apply Out.mixs; (· exact rfl))))
        · exact congrArg (Value.int .i64) (by omega)
      · rw [if_neg hlt2] at hcc
        rw [decide_eq_false hlt2]
        repeat'(first|refine kv' ?_|apply jJ|refine jE' ?_|refine jp' ?_|(apply jc;kernel_rfl)|refine kg' ?_|refine kG' ?_|refine kB' fun _=>?_|refine kA' fun _=>?_|refine kK' fun _=>?_|refine kU' ?_|(apply addX;(iterate 2 exact rfl);(iterate 2(first|omega|(dsimp only;omega)));exact rfl)|((first|refine kR' ?_ ?_|refine kQ' ?_ ?_);all_goals(intro hc;try simp only[hcs]at hc;try(exfalso;first|contradiction|omega))))
        refine At.again (k + 1) ⟨by omega, .inl (by omega)⟩ ?_ ⟨?_, trivial⟩ (fun w' hw' => ?_) (by omega)
        · (repeat (first | exact Out.refl _ _ | exact Out.mix | (apply Out.upd; (· exact rfl)) | (apply Out.updL; (· exact rfl)) | (apply Out.mixs; (· exact rfl))))
        · exact congrArg (Value.int .i64) (by omega)
        · rw [← hne (j + 1) (hcut.trans hcc)]; exact hw'
  · have hkk : sorP D lo k = sorP D lo (hi - lo) := by
      rcases hk2 with h1 | h1
      · rw [show k = hi - lo by omega]
      · subst h1
        rcases Nat.lt_or_ge lo hi with h2 | h2
        · rw [show hi - lo = 1 by omega]
        · have e : hi = lo := by omega
          subst e
          rw [Nat.sub_self]
          rcases Nat.lt_or_ge hi D.length with hl | hl
          · rw [sorP_one D hl]
            unfold sorP
            simp [isP]
          · unfold sorP
            rw [List.drop_of_length_le hl, List.drop_of_length_le (by omega), List.drop_of_length_le (by omega)]
            simp [isP]
    repeat'(first|refine kv' ?_|apply jJ|refine jE' ?_|refine jp' ?_|(apply jc;kernel_rfl)|refine kg' ?_|refine kG' ?_|refine kB' fun _=>?_|refine kA' fun _=>?_|refine kK' fun _=>?_|refine kU' ?_|((first|refine kR' ?_ ?_|refine kQ' ?_ ?_);all_goals(intro hc;try simp only[hcs]at hc;try(exfalso;first|contradiction|omega))))
    apply end0; (· exact rfl); intro w' hS
    rw [hkk] at hS
    subst hF
    exact ⟨rfl, hS.step rfl⟩
end Go.Proofs.Ytgblmkpfkcibiaa

namespace Go.Proofs.Ytgblmkpfkcibiaa
open Go.Hb
attribute [local irreducible] LR CW At Ev thn blk finK noG again CallsTo DW QL dnext TW DP gpost
set_option maxRecDepth 100000

theorem sorP_all (D : List Plc) : sorP D 0 (D.length - 0) = isP D := by
  unfold sorP
  rw [Nat.sub_zero, List.drop_zero, List.take_length, Nat.zero_add, List.drop_length, List.append_nil]
  rfl
def SortTo (N : Nat) : Prop := ∀ (a : Option Addr) (c : Nat) (D : List Plc) (w : World), (pN a D.length c D).holds w → D.length ≤ N →
  CallsTo Try.prog 56 [.slice a D.length c] w fun v w' => v = .slice a D.length c ∧ Step (pN a D.length c D) (pN a D.length c (isP D)) w w'
set_option maxHeartbeats 1000000 in
theorem m109s (a : Option Addr) (c : Nat) (D : List Plc) (w : World) (h : (pN a D.length c D).holds w) (hn : D.length ≤ 19) :
    CallsTo Try.prog 109 [.slice a D.length c, .int .i64 D.length, .func (.func 85) #[] #[]] w fun v w' => v = .tuple #[] ∧ Step (pN a D.length c D) (pN a D.length c (isP D)) w w' := by
  have hS0 : St w (pN a D.length c D).foot [pN a D.length c D] w := St.one h (fun k hk => (World.ownsRow.lt h k hk).2) (osl.dep _ _ _ _ _)
  generalize hF : (pN a D.length c D).foot = F at *
  refine go_in (n := 63) hS0 Try.func109 rfl rfl ?_
  repeat'(first|refine kv' ?_|apply jJ|refine jE' ?_|refine jp' ?_|(apply jc;kernel_rfl)|refine kg' ?_|refine kG' ?_|refine kB' fun _=>?_|refine kA' fun _=>?_|refine kK' fun _=>?_|refine kU' ?_|((first|refine kR' ?_ ?_|refine kQ' ?_ ?_);all_goals(intro hc;try simp only[hcs]at hc;try(exfalso;first|contradiction|omega))))
  apply CW.loop [7, 8, 11, 12, 13, 14, 15, 16, 17, 18, 19, 20, 21, 22] (fun _ : Nat => True) (fun _ => [(6, .int .i64 20), (7, .int .i64 0), (8, .int .i64 20)]) (fun _ => St w F [pN a D.length c D]) (fun i => i)
  · exact fun w' hw' => ⟨0, trivial, ⟨rfl, rfl, rfl, trivial⟩, hw'⟩
  intro i g1 _
  repeat'(first|refine kv' ?_|apply jJ|refine jE' ?_|refine jp' ?_|(apply jc;kernel_rfl)|refine kg' ?_|refine kG' ?_|refine kB' fun _=>?_|refine kA' fun _=>?_|refine kK' fun _=>?_|refine kU' ?_|((first|refine kR' ?_ ?_|refine kQ' ?_ ?_);all_goals(intro hc;try simp only[hcs]at hc;try(exfalso;first|contradiction|omega))))
  apply LR.call
  · exact rfl
  intro w1 h1
  refine CallsTo.mono (show CallsTo Try.prog 127 [.slice a D.length c, .int .i64 0, .int .i64 D.length, .func (.func 85) #[] #[]] w1 _ from m127 a c D 0 D.length w1 (h1.holds (pN a D.length c D) memZ) (by omega) (by omega) (by omega)) ?_
  rintro v w2 ⟨rfl, st⟩
  rw [sorP_all] at st
  refine LR.back (h1.did selZ rfl st (osl.dep _ _ _ _ _)) ?_
  clear st h1
  repeat'(first|refine kv' ?_|apply jJ|refine jE' ?_|refine jp' ?_|(apply jc;kernel_rfl)|refine kg' ?_|refine kG' ?_|refine kB' fun _=>?_|refine kA' fun _=>?_|refine kK' fun _=>?_|refine kU' ?_|((first|refine kR' ?_ ?_|refine kQ' ?_ ?_);all_goals(intro hc;try simp only[hcs]at hc;try(exfalso;first|contradiction|omega))))
  apply CW.loop [6, 7, 8, 9, 28, 29, 30, 31, 32, 33, 34, 35, 36, 37, 38, 39, 40, 41, 42, 43, 44, 45, 46, 47, 48, 49, 50, 51, 52, 53, 54, 55, 56, 57, 58, 59, 60, 61, 62] (fun _ : Nat => True) (fun _ => [(6, .int .i64 20)]) (fun _ => St w F [pN a D.length c (isP D)]) (fun i => i)
  · exact fun w' hw' => ⟨0, trivial, ⟨rfl, trivial⟩, hw'⟩
  intro i g2 _
  repeat'(first|refine kv' ?_|apply jJ|refine jE' ?_|refine jp' ?_|(apply jc;kernel_rfl)|refine kg' ?_|refine kG' ?_|refine kB' fun _=>?_|refine kA' fun _=>?_|refine kK' fun _=>?_|refine kU' ?_|((first|refine kR' ?_ ?_|refine kQ' ?_ ?_);all_goals(intro hc;try simp only[hcs]at hc;try(exfalso;first|contradiction|omega))))
  apply end0; (· exact rfl); intro w' hS
  subst hF
  exact ⟨rfl, hS.step rfl⟩
theorem sortTo_of {N : Nat} (hs : ∀ (a : Option Addr) (c : Nat) (D : List Plc) (w : World), (pN a D.length c D).holds w → D.length ≤ N →
    CallsTo Try.prog 109 [.slice a D.length c, .int .i64 D.length, .func (.func 85) #[] #[]] w fun v w' => v = .tuple #[] ∧ Step (pN a D.length c D) (pN a D.length c (isP D)) w w') : SortTo N := by
  intro a c D w h hn
  have hS0 : St w (pN a D.length c D).foot [pN a D.length c D] w := St.one h (fun k hk => (World.ownsRow.lt h k hk).2) (osl.dep _ _ _ _ _)
  generalize hF : (pN a D.length c D).foot = F at *
  refine go_in (n := 6) hS0 Try.func56 rfl rfl ?_
  repeat'(first|refine kv' ?_|apply jJ|refine jE' ?_|refine jp' ?_|(apply jc;kernel_rfl)|refine kg' ?_|refine kG' ?_|refine kB' fun _=>?_|refine kA' fun _=>?_|refine kK' fun _=>?_|refine kU' ?_|((first|refine kR' ?_ ?_|refine kQ' ?_ ?_);all_goals(intro hc;try simp only[hcs]at hc;try(exfalso;first|contradiction|omega))))
  apply LR.call
  · exact rfl
  intro w1 h1
  have h84 : CallsTo Try.prog 84 [.slice a D.length c, .func (.func 85) #[] #[]] w1 fun v w' => v = .tuple #[] ∧ Step (pN a D.length c D) (pN a D.length c (isP D)) w1 w' := by
    have hh : (pN a D.length c D).holds w1 := h1.holds (pN a D.length c D) memZ
    have hS0 : St w1 (pN a D.length c D).foot [pN a D.length c D] w1 := St.one hh (fun k hk => (World.ownsRow.lt hh k hk).2) (osl.dep _ _ _ _ _)
    rw [hF] at hS0
    refine go_in (n := 9) hS0 Try.func84 rfl rfl ?_
    repeat'(first|refine kv' ?_|apply jJ|refine jE' ?_|refine jp' ?_|(apply jc;kernel_rfl)|refine kg' ?_|refine kG' ?_|refine kB' fun _=>?_|refine kA' fun _=>?_|refine kK' fun _=>?_|refine kU' ?_|((first|refine kR' ?_ ?_|refine kQ' ?_ ?_);all_goals(intro hc;try simp only[hcs]at hc;try(exfalso;first|contradiction|omega))))
    apply LR.call
    · exact rfl
    intro w3 h3
    refine CallsTo.mono (show CallsTo Try.prog 109 [.slice a D.length c, .int .i64 D.length, .func (.func 85) #[] #[]] w3 _ from hs a c D w3 (h3.holds (pN a D.length c D) memZ) hn) ?_
    rintro v w4 ⟨rfl, st⟩
    refine LR.back (h3.did selZ rfl st (osl.dep _ _ _ _ _)) ?_
    clear st h3
    repeat'(first|refine kv' ?_|apply jJ|refine jE' ?_|refine jp' ?_|(apply jc;kernel_rfl)|refine kg' ?_|refine kG' ?_|refine kB' fun _=>?_|refine kA' fun _=>?_|refine kK' fun _=>?_|refine kU' ?_|((first|refine kR' ?_ ?_|refine kQ' ?_ ?_);all_goals(intro hc;try simp only[hcs]at hc;try(exfalso;first|contradiction|omega))))
    apply end0; (· exact rfl); intro w' hS
    refine ⟨rfl, ?_⟩
    rw [← hF] at hS
    exact hS.step rfl
  refine h84.mono ?_
  rintro v w2 ⟨rfl, st⟩
  refine LR.back (h1.did selZ rfl st (osl.dep _ _ _ _ _)) ?_
  clear st h1 h84
  repeat'(first|refine kv' ?_|apply jJ|refine jE' ?_|refine jp' ?_|(apply jc;kernel_rfl)|refine kg' ?_|refine kG' ?_|refine kB' fun _=>?_|refine kA' fun _=>?_|refine kK' fun _=>?_|refine kU' ?_|((first|refine kR' ?_ ?_|refine kQ' ?_ ?_);all_goals(intro hc;try simp only[hcs]at hc;try(exfalso;first|contradiction|omega))))
  (apply ret1; (· exact rfl); intro w' hS)
  subst hF
  exact ⟨rfl, hS.step rfl⟩
theorem sort_few : SortTo 19 := sortTo_of m109s
end Go.Proofs.Ytgblmkpfkcibiaa

namespace Go.Proofs.Ytgblmkpfkcibiaa
open Go.Hb

theorem putP_perm (l : List Plc) (x : Plc) : (putP l x).Perm (x :: l) := by
  unfold putP
  have h : (l.take (cutP l x l.length) ++ x :: l.drop (cutP l x l.length)).Perm (x :: (l.take (cutP l x l.length) ++ l.drop (cutP l x l.length))) := List.perm_middle
  rwa [List.take_append_drop] at h
theorem isP_perm (l : List Plc) : (isP l).Perm l := by
  have : ∀ (l m : List Plc), (l.foldl putP m).Perm (m ++ l) := by
    intro l
    induction l with
    | nil => intro m; rw [List.append_nil]; exact List.Perm.refl _
    | cons x r ih =>
      intro m
      rw [List.foldl_cons]
      refine (ih _).trans ?_
      refine ((putP_perm m x).append_right r).trans ?_
      exact (List.perm_middle (a := x) (l₁ := m) (l₂ := r)).symm
  simpa [isP] using this l []
theorem cutP_spec (l : List Plc) (x : Plc) : ∀ k, k ≤ l.length → (∀ i, cutP l x k ≤ i → i < k → x.ring < (l.getD i zP).ring) ∧ (0 < cutP l x k → (l.getD (cutP l x k - 1) zP).ring ≤ x.ring)
  | 0, _ => ⟨fun i h1 h2 => by omega, fun h => by simp [cutP] at h⟩
  | k + 1, hk => by
    have ih := cutP_spec l x k (by omega)
    by_cases h : x.ring < (l.getD k zP).ring
    · have e : cutP l x (k + 1) = cutP l x k := by rw [cutP, if_pos h]
      rw [e]
      refine ⟨fun i h1 h2 => ?_, ih.2⟩
      by_cases hi : i = k
      · subst hi; exact h
      · exact ih.1 i h1 (by omega)
    · have e : cutP l x (k + 1) = k + 1 := by rw [cutP, if_neg h]
      rw [e]
      exact ⟨fun i h1 h2 => by omega, fun _ => by rw [Nat.add_sub_cancel]; omega⟩
def SorP (l : List Plc) : Prop := l.Pairwise fun a b => a.ring ≤ b.ring
theorem getD_plc (l : List Plc) {i : Nat} (h : i < l.length) : l.getD i zP = l[i] := by rw [List.getD_eq_getElem?_getD, List.getElem?_eq_getElem h]; rfl
theorem putP_sor {l : List Plc} (x : Plc) (h : SorP l) : SorP (putP l x) := by
  have hsp := cutP_spec l x l.length (Nat.le_refl _)
  have hle := cutP_le l x l.length
  unfold SorP putP at *
  generalize cutP l x l.length = c at *
  have hs := List.pairwise_iff_getElem.1 h
  rw [List.pairwise_append, List.pairwise_cons]
  refine ⟨h.sublist (List.take_sublist _ _), ⟨fun y hy => ?_, h.sublist (List.drop_sublist _ _)⟩, fun a ha b hb => ?_⟩
  · obtain ⟨i, hi, rfl⟩ := List.getElem_of_mem hy
    rw [List.length_drop] at hi
    rw [List.getElem_drop]
    have := hsp.1 (c + i) (by omega) (by omega)
    rw [getD_plc l (by omega)] at this
    omega
  · obtain ⟨i, hi, rfl⟩ := List.getElem_of_mem ha
    rw [List.length_take] at hi
    rw [List.getElem_take]
    rcases List.mem_cons.1 hb with rfl | hb
    · have h1 := hsp.2 (by omega)
      rw [getD_plc l (by omega)] at h1
      by_cases hic : i = c - 1
      · subst hic; exact h1
      · have := hs i (c - 1) (by omega) (by omega) (by omega)
        omega
    · obtain ⟨j, hj, rfl⟩ := List.getElem_of_mem hb
      rw [List.length_drop] at hj
      rw [List.getElem_drop]
      exact hs i (c + j) (by omega) (by omega) (by omega)
theorem isP_sor (l : List Plc) : SorP (isP l) := by
  have : ∀ (l m : List Plc), SorP m → SorP (l.foldl putP m) := by
    intro l
    induction l with
    | nil => intro m h; exact h
    | cons x r ih => intro m h; exact ih _ (putP_sor x h)
  exact this l [] List.Pairwise.nil
def plcK (K : List Plc) (r : Int) : Option Plc := K.find? fun x => decide (x.ring = r)
theorem plcK_ring {K : List Plc} {r : Int} {x : Plc} (h : plcK K r = some x) : x.ring = r := by
  unfold plcK at h; simpa using List.find?_some h
def leftS (l : List (Int × Plc)) (x : Plc) : List (Int × Plc) := if l.any (fun q => decide (q.1 = x.ring)) then l else l ++ [(x.ring, x)]
def leftL (K : List Plc) : List (Int × Plc) := K.foldl leftS []
def assoc (l : List (Int × Plc)) (r : Int) : Option Plc := (l.find? fun q => decide (q.1 = r)).map Prod.snd
structure LeftOk (K : List Plc) (l : List (Int × Plc)) : Prop where
  nd : (l.map Prod.fst).Nodup
  eq : ∀ r, assoc l r = plcK K r
theorem find_none {l : List (Int × Plc)} {r : Int} : l.find? (fun q => decide (q.1 = r)) = none ↔ l.any (fun q => decide (q.1 = r)) = false := by
  rw [List.find?_eq_none, List.any_eq_false]
theorem left_ok : ∀ (L K : List Plc) (l : List (Int × Plc)), LeftOk K l → LeftOk (K ++ L) (L.foldl leftS l)
  | [], K, l, h => by rwa [List.append_nil]
  | x :: r, K, l, h => by
    have : LeftOk (K ++ [x]) (leftS l x) := by
      unfold leftS
      cases ha : l.any (fun q => decide (q.1 = x.ring)) with
      | true =>
        rw [if_pos rfl]
        refine ⟨h.nd, fun s => ?_⟩
        rw [h.eq]
        unfold plcK
        rw [List.find?_append]
        cases hf : K.find? (fun x => decide (x.ring = s)) with
        | some y => rfl
        | none =>
          by_cases hs : x.ring = s
          · exfalso
            have h2 := h.eq s
            unfold plcK at h2
            rw [hf] at h2
            unfold assoc at h2
            rw [Option.map_eq_none_iff, find_none] at h2
            rw [hs, h2] at ha
            cases ha
          · simp [hs]
      | false =>
        rw [if_neg (by simp)]
        refine ⟨?_, fun s => ?_⟩
        · rw [List.map_append, List.nodup_append]
          refine ⟨h.nd, by simp, fun a ha' b hb e => ?_⟩
          simp only [List.map_cons, List.map_nil, List.mem_singleton] at hb
          obtain ⟨q, hq, rfl⟩ := List.mem_map.1 ha'
          have := List.any_eq_false.1 ha q hq
          simp at this
          exact this (by rw [e, hb])
        · have h2 := h.eq s
          unfold assoc plcK at *
          rw [List.find?_append, List.find?_append, ← h2]
          cases hf : l.find? (fun q => decide (q.1 = s)) with
          | some y => rfl
          | none => by_cases hs : x.ring = s <;> simp [hs]
    have := left_ok r (K ++ [x]) _ this
    rw [List.append_assoc] at this
    exact this
theorem leftL_ok (K : List Plc) : LeftOk K (leftL K) := left_ok K [] [] ⟨List.nodup_nil, fun r => rfl⟩
theorem leftL_len (K : List Plc) : (leftL K).length ≤ K.length := by
  have : ∀ (L : List Plc) (l : List (Int × Plc)), (L.foldl leftS l).length ≤ l.length + L.length := by
    intro L
    induction L with
    | nil => intro l; simp
    | cons x r ih =>
      intro l
      rw [List.foldl_cons]
      have h1 := ih (leftS l x)
      have h2 : (leftS l x).length ≤ l.length + 1 := by unfold leftS; split <;> simp
      rw [List.length_cons]
      omega
  have h := this K []
  simpa [leftL] using h
def farD (p : List Int × List Gat) (n r : Int) : Int := (farT p.1 p.2 n r).getD 0
def stepsR (p : List Int × List Gat) (K : List Plc) (a b : Int) : Bool := match plcK K a, plcK K b with
  | some x, some y => (List.range 8).any fun i => decide (farT p.1 p.2 ((i + 1 : Nat) : Int) a = some b) && (hasC x.members ((i + 1 : Nat) : Int) && hasC y.members ((i + 1 : Nat) : Int))
  | _, _ => false
inductive Rch (st : Int → Int → Bool) (a : Int) : Int → Prop
  | refl : Rch st a a
  | step {b c : Int} (h : Rch st a b) (hs : st b c = true) : Rch st a c
theorem Rch.trans {st : Int → Int → Bool} {a b c : Int} (h : Rch st a b) (h2 : Rch st b c) : Rch st a c := by
  induction h2 with
  | refl => exact h
  | step _ hs ih => exact ih.step hs
abbrev SV : Type := List Plc × List (Int × Plc)
def dfsP (p : List Int × List Gat) : Nat → Plc → SV → SV
  | 0, _, s => s
  | k + 1, x, s => (gwsT p.1 p.2 x.ring).foldl (fun s n => match assoc s.2 (farD p n x.ring) with
    | some y => if hasC x.members n && hasC y.members n then dfsP p k y s else s
    | none => s) (s.1 ++ [x], s.2.filter fun q => decide (q.1 ≠ x.ring))
def dStep (p : List Int × List Gat) (k : Nat) (x : Plc) (s : SV) (n : Int) : SV := match assoc s.2 (farD p n x.ring) with
  | some y => if hasC x.members n && hasC y.members n then dfsP p k y s else s
  | none => s
theorem dfsP_succ (p : List Int × List Gat) (k : Nat) (x : Plc) (s : SV) : dfsP p (k + 1) x s = (gwsT p.1 p.2 x.ring).foldl (dStep p k x) (s.1 ++ [x], s.2.filter fun q => decide (q.1 ≠ x.ring)) := rfl
structure InvS (K : List Plc) (s : SV) : Prop where
  eq : s.2 = (leftL K).filter fun q => !(s.1.map Plc.ring).contains q.1
  pl : ∀ y ∈ s.1, plcK K y.ring = some y
  nd : (s.1.map Plc.ring).Nodup
theorem assoc_filter {l : List (Int × Plc)} {f : Int → Bool} (r : Int) : assoc (l.filter fun q => f q.1) r = if f r then assoc l r else none := by
  unfold assoc
  induction l with
  | nil => simp
  | cons q t ih =>
    rw [List.filter_cons]
    by_cases hq : q.1 = r
    · subst hq
      cases hf : f q.1 with
      | true => rw [if_pos rfl, if_pos rfl, List.find?_cons_of_pos (by simp), List.find?_cons_of_pos (by simp)]
      | false => rw [if_neg (by simp), if_neg (by simp)]; rw [ih, hf]; simp
    · cases hf : f q.1 with
      | true => rw [if_pos rfl, List.find?_cons_of_neg (by simpa using hq), List.find?_cons_of_neg (by simpa using hq), ih]
      | false => rw [if_neg (by simp), List.find?_cons_of_neg (by simpa using hq), ih]
theorem InvS.assoc {K : List Plc} {s : SV} (h : InvS K s) (r : Int) : Go.Proofs.Ytgblmkpfkcibiaa.assoc s.2 r = if (s.1.map Plc.ring).contains r then none else plcK K r := by
  rw [h.eq, assoc_filter (f := fun r => !(s.1.map Plc.ring).contains r), (leftL_ok K).eq]
  cases (s.1.map Plc.ring).contains r <;> rfl
theorem InvS.add {K : List Plc} {s : SV} (h : InvS K s) {x : Plc} (hx : Go.Proofs.Ytgblmkpfkcibiaa.assoc s.2 x.ring = some x) : InvS K (s.1 ++ [x], s.2.filter fun q => decide (q.1 ≠ x.ring)) := by
  rw [h.assoc] at hx
  split at hx
  · cases hx
  rename_i hn
  refine ⟨?_, fun y hy => ?_, ?_⟩
  · simp only
    rw [h.eq, List.filter_filter]
    refine List.filter_congr fun q _ => ?_
    rw [List.map_append, List.contains_append, Bool.not_or, Bool.and_comm]
    congr 1
    simp
  · rcases List.mem_append.1 hy with hy | hy
    · exact h.pl y hy
    · rw [List.mem_singleton] at hy; rw [hy]; exact hx
  · show ((s.1 ++ [x]).map Plc.ring).Nodup
    rw [List.map_append, List.nodup_append]
    refine ⟨h.nd, by simp, fun a ha b hb e => hn ?_⟩
    simp only [List.map_cons, List.map_nil, List.mem_singleton] at hb
    rw [← hb, ← e]
    simpa using ha
theorem filter_lt {l : List (Int × Plc)} {r : Int} (h : (assoc l r).isSome = true) : (l.filter fun q => decide (q.1 ≠ r)).length < l.length := by
  have : ∃ q ∈ l, q.1 = r := by
    unfold assoc at h
    rw [Option.isSome_map, List.find?_isSome] at h
    obtain ⟨q, hq, he⟩ := h
    exact ⟨q, hq, by simpa using he⟩
  obtain ⟨q, hq, he⟩ := this
  have h1 := List.length_filter_lt_length_iff_exists (p := fun q : Int × Plc => decide (q.1 ≠ r)) (l := l)
  exact h1.2 ⟨q, hq, by simp [he]⟩
theorem far_gws {R : List Int} {G : List Gat} {n r : Int} : n ∈ gwsT R G r ↔ (1 ≤ n ∧ n ≤ 8) ∧ (farT R G n r).isSome = true := by
  unfold gwsT; rw [gwsTo_mem]; rfl
theorem stepsR_iff {p : List Int × List Gat} {K : List Plc} {a b : Int} : stepsR p K a b = true ↔ ∃ x y n, plcK K a = some x ∧ plcK K b = some y ∧ n ∈ gwsT p.1 p.2 a ∧ farT p.1 p.2 n a = some b ∧ hasC x.members n = true ∧ hasC y.members n = true := by
  unfold stepsR
  cases ha : plcK K a with
  | none => simp
  | some x =>
    cases hb : plcK K b with
    | none => simp
    | some y =>
      simp only [List.any_eq_true, List.mem_range, Bool.and_eq_true, decide_eq_true_eq]
      constructor
      · rintro ⟨i, hi, h1, h2, h3⟩
        exact ⟨x, y, _, rfl, rfl, far_gws.2 ⟨by omega, by rw [h1]; rfl⟩, h1, h2, h3⟩
      · rintro ⟨x', y', n, e1, e2, hn, h1, h2, h3⟩
        cases e1; cases e2
        have hr := (far_gws.1 hn).1
        refine ⟨n.toNat - 1, by omega, ?_⟩
        have e : ((n.toNat - 1 + 1 : Nat) : Int) = n := by omega
        rw [e]
        exact ⟨h1, h2, h3⟩
structure DoneS (p : List Int × List Gat) (K : List Plc) (r : Int) (s s' : SV) (t : List Plc) : Prop where
  inv : InvS K s'
  eq : s'.1 = s.1 ++ t
  rch : ∀ y ∈ t, Rch (stepsR p K) r y.ring
  clo : ∀ y ∈ t, ∀ b, stepsR p K y.ring b = true → b ∈ s'.1.map Plc.ring
  len : s'.2.length ≤ s.2.length
theorem dfs_done (p : List Int × List Gat) (K : List Plc) : ∀ (k : Nat) (x : Plc) (s : SV), InvS K s → assoc s.2 x.ring = some x → s.2.length ≤ k → ∃ t, DoneS p K x.ring s (dfsP p k x s) t ∧ x ∈ t
  | 0, x, s, hi, hx, hl => by
    have : s.2 = [] := List.eq_nil_of_length_eq_zero (by omega)
    rw [this] at hx
    cases hx
  | k + 1, x, s, hi, hx, hl => by
    rw [dfsP_succ]
    have hi0 := hi.add hx
    have hlt := filter_lt (l := s.2) (r := x.ring) (by rw [hx]; rfl)
    obtain ⟨s0, hs0⟩ : ∃ s0 : SV, s0 = (s.1 ++ [x], s.2.filter fun q => decide (q.1 ≠ x.ring)) := ⟨_, rfl⟩
    have hpx : plcK K x.ring = some x := by
      have := hi0.pl x (by simp)
      exact this
    rw [← hs0] at hi0 ⊢
    have hs02 : s0.2.length < s.2.length := by rw [hs0]; exact hlt
    have hl0 : s0.2.length ≤ k := by omega
    have key : ∀ (ns : List Int) (s1 : SV) (t : List Plc), (∀ n ∈ ns, n ∈ gwsT p.1 p.2 x.ring) → DoneS p K x.ring s0 s1 t →
        ∃ t', DoneS p K x.ring s0 (ns.foldl (dStep p k x) s1) t' ∧ (∀ z ∈ s1.1.map Plc.ring, z ∈ (ns.foldl (dStep p k x) s1).1.map Plc.ring) ∧ ∀ n ∈ ns, ∀ b y, farT p.1 p.2 n x.ring = some b → plcK K b = some y → hasC x.members n = true → hasC y.members n = true → b ∈ (ns.foldl (dStep p k x) s1).1.map Plc.ring := by
      intro ns
      induction ns with
      | nil => intro s1 t _ hd; exact ⟨t, hd, fun z hz => hz, fun n hn => by cases hn⟩
      | cons n ns ih =>
        intro s1 t hns hd
        have hn := hns n List.mem_cons_self
        have hns' : ∀ m ∈ ns, m ∈ gwsT p.1 p.2 x.ring := fun m hm => hns m (List.mem_cons_of_mem _ hm)
        obtain ⟨b, hb⟩ := Option.isSome_iff_exists.1 (far_gws.1 hn).2
        have hfd : farD p n x.ring = b := by unfold farD; rw [hb]; rfl
        -- what one node does
        have one : ∃ t1, DoneS p K x.ring s0 (dStep p k x s1 n) t1 ∧ (∀ z ∈ s1.1.map Plc.ring, z ∈ (dStep p k x s1 n).1.map Plc.ring) ∧ ∀ y, plcK K b = some y → hasC x.members n = true → hasC y.members n = true → b ∈ (dStep p k x s1 n).1.map Plc.ring := by
          unfold dStep
          rw [hfd, hd.inv.assoc]
          by_cases hc : (s1.1.map Plc.ring).contains b = true
          · rw [if_pos hc]
            exact ⟨t, hd, fun z hz => hz, fun y _ _ _ => by simpa using hc⟩
          · rw [if_neg hc]
            cases hpb : plcK K b with
            | none => exact ⟨t, hd, fun z hz => hz, fun y h => by cases h⟩
            | some y =>
              have hyr := plcK_ring hpb
              cases hh : hasC x.members n && hasC y.members n with
              | false =>
                simp only [hh, Bool.false_eq_true, if_false]
                exact ⟨t, hd, fun z hz => hz, fun y' e h1 h2 => by cases e; rw [h1, h2] at hh; cases hh⟩
              | true =>
                simp only [hh, if_true]
                have ha : assoc s1.2 y.ring = some y := by rw [hd.inv.assoc, hyr, if_neg hc, hpb]
                obtain ⟨u, hu, hyu⟩ := dfs_done p K k y s1 hd.inv ha (by have := hd.len; omega)
                have hst : stepsR p K x.ring y.ring = true := by
                  rw [Bool.and_eq_true] at hh
                  rw [hyr]
                  exact stepsR_iff.2 ⟨x, y, n, hpx, hpb, hn, hb, hh.1, hh.2⟩
                have hmono : ∀ z ∈ s1.1.map Plc.ring, z ∈ (dfsP p k y s1).1.map Plc.ring := fun z hz => by
                  rw [hu.eq, List.map_append]; exact List.mem_append_left _ hz
                refine ⟨t ++ u, ⟨hu.inv, by rw [hu.eq, hd.eq, List.append_assoc], fun z hz => ?_, fun z hz c hc2 => ?_, by have := hu.len; have := hd.len; omega⟩, hmono, fun y' e h1 h2 => ?_⟩
                · rcases List.mem_append.1 hz with hz | hz
                  · exact hd.rch z hz
                  · exact (Rch.refl.step hst).trans (hu.rch z hz)
                · rcases List.mem_append.1 hz with hz | hz
                  · exact hmono c (hd.clo z hz c hc2)
                  · exact hu.clo z hz c hc2
                · rw [← hyr, hu.eq, List.map_append]
                  exact List.mem_append_right _ (List.mem_map_of_mem hyu)
        obtain ⟨t1, hd1, hm1, hb1⟩ := one
        obtain ⟨t2, hd2, hm2, hb2⟩ := ih (dStep p k x s1 n) t1 hns' hd1
        rw [List.foldl_cons]
        refine ⟨t2, hd2, fun z hz => hm2 z (hm1 z hz), fun m hm c y hc hy h1 h2 => ?_⟩
        rcases List.mem_cons.1 hm with rfl | hm
        · rw [hb] at hc
          cases hc
          exact hm2 _ (hb1 y hy h1 h2)
        · exact hb2 m hm c y hc hy h1 h2
    obtain ⟨t, hd, hm, hb⟩ := key (gwsT p.1 p.2 x.ring) s0 [] (fun n hn => hn) ⟨hi0, by rw [List.append_nil], fun y hy => (by cases hy), fun y hy => (by cases hy), Nat.le_refl _⟩
    refine ⟨x :: t, ⟨hd.inv, by rw [hd.eq, hs0]; simp, fun y hy => ?_, fun y hy b hst => ?_, by have := hd.len; omega⟩, List.mem_cons_self⟩
    · rcases List.mem_cons.1 hy with rfl | hy
      · exact Rch.refl
      · exact hd.rch y hy
    · rcases List.mem_cons.1 hy with rfl | hy
      · obtain ⟨x', y', n, e1, e2, hn, h1, h2, h3⟩ := stepsR_iff.1 hst
        rw [hpx] at e1
        cases e1
        exact hb n hn b y' h1 e2 h2 h3
      · exact hd.clo y hy b hst
def viewP (p : List Int × List Gat) (fr : Int) (K : List Plc) : List Plc :=
  if chkP p.1 p.2 && ringG p.1 fr then (match plcK K fr with
    | some x => isP (dfsP p (leftL K).length x ([], leftL K)).1
    | none => [])
  else []
structure ViewIs (p : List Int × List Gat) (K : List Plc) (fr : Int) (v : List Plc) : Prop where
  pl : ∀ y ∈ v, plcK K y.ring = some y
  asc : (v.map Plc.ring).Pairwise (· < ·)
  mem : ∀ r, r ∈ v.map Plc.ring ↔ Rch (stepsR p K) fr r
theorem view_is {p : List Int × List Gat} {fr : Int} {K : List Plc} {x : Plc} (hx : plcK K fr = some x) : ViewIs p K fr (isP (dfsP p (leftL K).length x ([], leftL K)).1) := by
  have hxr := plcK_ring hx
  have hi0 : InvS K ([], leftL K) := ⟨(List.filter_eq_self.2 (fun q _ => rfl)).symm, fun y hy => (by cases hy), List.nodup_nil⟩
  obtain ⟨t, hd, hxt⟩ := dfs_done p K (leftL K).length x ([], leftL K) hi0 (by rw [(leftL_ok K).eq, hxr, hx]) (Nat.le_refl _)
  have he : (dfsP p (leftL K).length x ([], leftL K)).1 = t := by rw [hd.eq]; rfl
  have hinv := hd.inv
  have hclo := hd.clo
  rw [he] at hclo ⊢
  have hpm := isP_perm t
  have hpl := hinv.pl
  have hnd := hinv.nd
  rw [he] at hpl hnd
  refine ⟨fun y hy => hpl y (hpm.mem_iff.1 hy), ?_, fun r => ?_⟩
  · have h1 := isP_sor t
    have h2 : ((isP t).map Plc.ring).Nodup := (hpm.map Plc.ring).nodup_iff.2 hnd
    rw [List.nodup_iff_pairwise_ne, List.pairwise_map] at h2
    rw [List.pairwise_map]
    unfold SorP at h1
    exact (List.Pairwise.and h1 h2).imp fun {a b} h => by have := h.1; have := h.2; omega
  · rw [(hpm.map Plc.ring).mem_iff]
    constructor
    · intro hr
      obtain ⟨y, hy, rfl⟩ := List.mem_map.1 hr
      have := hd.rch y hy
      rwa [hxr] at this
    · intro hr
      induction hr with
      | refl => rw [← hxr]; exact List.mem_map_of_mem hxt
      | step _ hs ih =>
        obtain ⟨y, hy, rfl⟩ := List.mem_map.1 ih
        exact hclo y hy _ hs
end Go.Proofs.Ytgblmkpfkcibiaa

namespace Go.Proofs.Ytgblmkpfkcibiaa
open Go.Hb
attribute [local irreducible] LR CW At Ev thn blk finK noG again CallsTo DW QL dnext TW DP gpost
set_option maxRecDepth 100000

instance : KMap Try.prog 91 (intK IntKind.i64) okK (zP.val) := KMap.ofInt Try.underlying91 Try.underlying3 (fun w => Try.zeroValue44 w)
def kvs (l : List (Int × Plc)) : List (Int × Value) := l.map fun q => (q.1, q.2.val)
theorem kvs_fst (l : List (Int × Plc)) : (kvs l).map Prod.fst = l.map Prod.fst := by unfold kvs; rw [List.map_map]; rfl
theorem kvs_filter (l : List (Int × Plc)) (r : Int) : (kvs l).filter (fun q => decide (q.1 ≠ r)) = kvs (l.filter fun q => decide (q.1 ≠ r)) := by unfold kvs; rw [List.filter_map]; rfl
theorem kvs_snoc (l : List (Int × Plc)) (x : Plc) : kvs l ++ [(x.ring, x.val)] = kvs (l ++ [(x.ring, x)]) := by unfold kvs; rw [List.map_append]; rfl
theorem assoc_mem {l : List (Int × Plc)} {r : Int} {y : Plc} (h : assoc l r = some y) : (r, y.val) ∈ kvs l := by
  unfold assoc at h
  rw [Option.map_eq_some_iff] at h
  obtain ⟨q, hq, rfl⟩ := h
  have h1 := List.mem_of_find?_eq_some hq
  have h2 : q.1 = r := by simpa using List.find?_some hq
  exact List.mem_map.2 ⟨q, h1, by rw [h2]⟩
theorem assoc_no {l : List (Int × Plc)} {r : Int} (h : assoc l r = none) : ∀ q ∈ kvs l, q.1 ≠ r := by
  unfold assoc at h
  rw [Option.map_eq_none_iff, List.find?_eq_none] at h
  intro q hq e
  obtain ⟨z, hz, rfl⟩ := List.mem_map.1 hq
  exact h z hz (by simpa using e)
theorem any_no {l : List (Int × Plc)} {r : Int} (h : l.any (fun q => decide (q.1 = r)) = false) : assoc l r = none := by unfold assoc; rw [Option.map_eq_none_iff, find_none]; exact h
theorem any_yes {l : List (Int × Plc)} {r : Int} (h : l.any (fun q => decide (q.1 = r)) = true) : ∃ y, assoc l r = some y := by
  cases hx : assoc l r with
  | some y => exact ⟨y, rfl⟩
  | none =>
    exfalso
    unfold assoc at hx
    rw [Option.map_eq_none_iff, find_none, h] at hx
    cases hx
abbrev kM91 (bm : Nat) (l : List (Int × Plc)) : Asrt := kmap (intK IntKind.i64) bm (kvs l)
abbrev oC (bo : Nat) (a : Option Addr) (n c : Nat) : Asrt := .own bo (.cells [Value.slice a n c].toArray 37 (0, 0))
abbrev lC (bl bm : Nat) : Asrt := .own bl (.cells [Value.map (some bm)].toArray 91 (0, 0))
def vG (bo bl bm : Nat) (a : Option Addr) (c : Nat) (s : SV) : Asrt := both (oC bo a s.1.length c) (both (pN a s.1.length c s.1) (both (lC bl bm) (kM91 bm s.2)))
section
variable {bo bl bm : Nat} {a : Option Addr} {c : Nat} {s : SV} {w0 w : World} {F : Nat → Prop} {R : List Asrt}
theorem vG_dep : (vG bo bl bm a c s).dep := both_dep (Asrt.dep_own _ _) (both_dep (osl.dep _ _ _ _ _) (both_dep (Asrt.dep_own _ _) (kmap.dep _ _)))
theorem vG_open (h : St w0 F (vG bo bl bm a c s :: R) w) : St w0 F (oC bo a s.1.length c :: pN a s.1.length c s.1 :: lC bl bm :: kM91 bm s.2 :: R) w := by
  have h1 := (h.part (Asrt.dep_own _ _) (both_dep (osl.dep _ _ _ _ _) (both_dep (Asrt.dep_own _ _) (kmap.dep _ _)))).swap
  have h2 := h1.part (osl.dep _ _ _ _ _) (both_dep (Asrt.dep_own _ _) (kmap.dep _ _))
  have h3 := h2.swap.part (Asrt.dep_own _ _) (kmap.dep _ _)
  have h4 : St w0 F (pN a s.1.length c s.1 :: lC bl bm :: kM91 bm s.2 :: oC bo a s.1.length c :: R) w := front h3 2 rfl rfl
  exact front h4 3 rfl rfl
theorem vG_shut (h : St w0 F (oC bo a s.1.length c :: pN a s.1.length c s.1 :: lC bl bm :: kM91 bm s.2 :: R) w) : St w0 F (vG bo bl bm a c s :: R) w := by
  have h1 : St w0 F (kM91 bm s.2 :: oC bo a s.1.length c :: pN a s.1.length c s.1 :: lC bl bm :: R) w := front h 3 rfl rfl
  have h2 : St w0 F (lC bl bm :: kM91 bm s.2 :: oC bo a s.1.length c :: pN a s.1.length c s.1 :: R) w := front h1 3 rfl rfl
  have h3 := h2.join rfl rfl
  have h4 : St w0 F (pN a s.1.length c s.1 :: both (lC bl bm) (kM91 bm s.2) :: oC bo a s.1.length c :: R) w := front h3 2 rfl rfl
  have h5 := (h4.join rfl rfl).swap
  exact h5.join rfl rfl
end
def WfL (l : List (Int × Plc)) : Prop := ∀ q ∈ l, q.2.ring = q.1
theorem WfL.get {l : List (Int × Plc)} (h : WfL l) {r : Int} {y : Plc} (hy : assoc l r = some y) : y.ring = r := by
  unfold assoc at hy
  rw [Option.map_eq_some_iff] at hy
  obtain ⟨q, hq, rfl⟩ := hy
  have h2 : q.1 = r := by simpa using List.find?_some hq
  rw [h q (List.mem_of_find?_eq_some hq), h2]
theorem WfL.sub {l m : List (Int × Plc)} (h : WfL l) (hs : m.Sublist l) : WfL m := fun q hq => h q (hs.subset hq)
theorem dfs_len (p : List Int × List Gat) : ∀ (k : Nat) (x : Plc) (s : SV), WfL s.2 → (assoc s.2 x.ring).isSome = true → (dfsP p k x s).1.length + (dfsP p k x s).2.length ≤ s.1.length + s.2.length ∧ (dfsP p k x s).2.Sublist s.2
  | 0, x, s, _, h => by rw [dfsP]; exact ⟨Nat.le_refl _, List.Sublist.refl _⟩
  | k + 1, x, s, hw, h => by
    rw [dfsP_succ]
    have hlt := filter_lt h
    have key : ∀ (ns : List Int) (s1 : SV), WfL s1.2 → (ns.foldl (dStep p k x) s1).1.length + (ns.foldl (dStep p k x) s1).2.length ≤ s1.1.length + s1.2.length ∧ (ns.foldl (dStep p k x) s1).2.Sublist s1.2 := by
      intro ns
      induction ns with
      | nil => intro s1 _; exact ⟨Nat.le_refl _, List.Sublist.refl _⟩
      | cons n ns ih =>
        intro s1 hw1
        rw [List.foldl_cons]
        have one : (dStep p k x s1 n).1.length + (dStep p k x s1 n).2.length ≤ s1.1.length + s1.2.length ∧ (dStep p k x s1 n).2.Sublist s1.2 := by
          unfold dStep
          split
          · rename_i y hy
            split
            · exact dfs_len p k y s1 hw1 (by rw [hw1.get hy, hy]; rfl)
            · exact ⟨Nat.le_refl _, List.Sublist.refl _⟩
          · exact ⟨Nat.le_refl _, List.Sublist.refl _⟩
        have h2 := ih (dStep p k x s1 n) (hw1.sub one.2)
        exact ⟨Nat.le_trans h2.1 one.1, h2.2.trans one.2⟩
    have h2 := key (gwsT p.1 p.2 x.ring) (s.1 ++ [x], s.2.filter fun q => decide (q.1 ≠ x.ring)) (hw.sub List.filter_sublist)
    refine ⟨Nat.le_trans h2.1 ?_, h2.2.trans List.filter_sublist⟩
    simp only [List.length_append, List.length_cons, List.length_nil]
    omega
structure EnvG (w : World) (p : Pln) (A : PlA) (bo bl bp bf : Nat) (F : Nat → Prop) : Prop where
  pr : PlR w p A
  bx : Rd w (some ⟨bp, 0, none⟩) (p.cells A)
  fn : Rd w (some ⟨bf, 0, none⟩) [.func (.func 55) #[] #[.pointer (some ⟨bo, 0, none⟩), .pointer (some ⟨bl, 0, none⟩), .pointer (some ⟨bp, 0, none⟩), .pointer (some ⟨bf, 0, none⟩)]]
  d1 : ∀ k, rdFoot A.ra (iv p.R) k → ¬ F k
  d2 : ∀ k, rdFoot A.ga (gv p.G) k → ¬ F k
  d3 : ∀ k, rdFoot (some ⟨bp, 0, none⟩) (p.cells A) k → ¬ F k
  d4 : ∀ k, rdFoot (some ⟨bf, 0, none⟩) [Value.func (.func 55) #[] #[.pointer (some ⟨bo, 0, none⟩), .pointer (some ⟨bl, 0, none⟩), .pointer (some ⟨bp, 0, none⟩), .pointer (some ⟨bf, 0, none⟩)]] k → ¬ F k
theorem EnvG.old {w w0 : World} {p : Pln} {A : PlA} {bo bl bp bf : Nat} {F : Nat → Prop} {L : List Asrt} (h : EnvG w0 p A bo bl bp bf F) (h1 : St w0 F L w) : PlR w p A ∧ Rd w (some ⟨bp, 0, none⟩) (p.cells A) ∧ Rd w (some ⟨bf, 0, none⟩) [.func (.func 55) #[] #[.pointer (some ⟨bo, 0, none⟩), .pointer (some ⟨bl, 0, none⟩), .pointer (some ⟨bp, 0, none⟩), .pointer (some ⟨bf, 0, none⟩)]] :=
  ⟨⟨h1.oldRdF h.pr.r h.d1, h1.oldRdF h.pr.g h.d2⟩, h1.oldRdF h.bx h.d3, h1.oldRdF h.fn h.d4⟩
structure GSt where
  i : Nat
  a : Option Addr
  c : Nat
  s : SV
set_option maxHeartbeats 4000000 in
theorem m55 (p : Pln) (A : PlA) (hi : PlI p) (bo bl bm bp bf : Nat) : ∀ (k : Nat) (x : Plc) (a : Option Addr) (c : Nat) (s : SV) (w : World), (vG bo bl bm a c s).holds w → EnvG w p A bo bl bp bf (vG bo bl bm a c s).foot →
    (s.2.map Prod.fst).Nodup → WfL s.2 → (assoc s.2 x.ring).isSome = true → s.2.length ≤ k → (s.1.length + s.2.length) * 32 ≤ 140737488355328 →
    CallsTo Try.prog 55 [x.val, .pointer (some ⟨bo, 0, none⟩), .pointer (some ⟨bl, 0, none⟩), .pointer (some ⟨bp, 0, none⟩), .pointer (some ⟨bf, 0, none⟩)] w fun v w' => v = .tuple #[] ∧ ∃ a' c', Step (vG bo bl bm a c s) (vG bo bl bm a' c' (dfsP (p.R, p.G) k x s)) w w' := by
  intro k
  induction k with
  | zero =>
    intro x a c s w _ _ _ _ hx hl _
    have : s.2 = [] := List.eq_nil_of_length_eq_zero (by omega)
    rw [this] at hx
    cases hx
  | succ k ih =>
    intro x a c s w hh hE hnd hwf hx hl hm
    have hlt := filter_lt hx
    have hS0 := (((((St.one hh (both_live hh) vG_dep).addRd hE.pr.r hE.d1).addRd hE.pr.g hE.d2).addRd hE.bx hE.d3).addRd hE.fn hE.d4)
    have hS1 := vG_open (R := [rdA (some ⟨bf, 0, none⟩) [.func (.func 55) #[] #[.pointer (some ⟨bo, 0, none⟩), .pointer (some ⟨bl, 0, none⟩), .pointer (some ⟨bp, 0, none⟩), .pointer (some ⟨bf, 0, none⟩)]], rdA (some ⟨bp, 0, none⟩) (p.cells A), rdA A.ga (gv p.G), rdA A.ra (iv p.R)]) (front hS0 4 rfl rfl)
    generalize hF : (vG bo bl bm a c s).foot = F at *
    refine go_in (n := 59) hS1 Try.func55 rfl rfl ?_
    repeat'(first|(refine kB' fun bx => ?_)|(apply Go.Hb.kK;(iterate 4 exact rfl);intro bs)|refine kv' ?_|apply jJ|refine jE' ?_|refine jp' ?_|(apply jc;kernel_rfl)|refine kg' ?_|refine kG' ?_|refine kB' fun _=>?_|refine kA' fun _=>?_|refine kK' fun _=>?_|refine kU' ?_|(apply LR.append (xs := pcs s.1) (news := x.cells) (m := 1); (· exact rfl); (· exact rfl); (· intro a' c'; (repeat (first | exact sH _ _ _ | apply sT))); (· exact fun w' hw' => hw'.rd_of_blk (mH _ _)); (· exact fun hx => by cases hx); (· exact rfl); (· exact rfl); (· omega); (· unfold maxLen; omega); (· exact rfl); (intro a3 c3))|((first|refine kR' ?_ ?_|refine kQ' ?_ ?_);all_goals(intro hc;try simp only[hcs]at hc;try(exfalso;first|contradiction|omega))))
    refine LR.deleteK (enc := intK IntKind.i64) (ok := okK) (l := kvs s.2) (a := x.ring) (K1 := 3) (by kernel_rfl) rfl rfl selZ (fun _ _ => trivial) (by rw [kvs_fst]; exact hnd) trivial ?_
    rw [kvs_filter]
    obtain ⟨s0, hs0⟩ : ∃ s0 : SV, s0 = (s.1 ++ [x], s.2.filter fun q => decide (q.1 ≠ x.ring)) := ⟨_, rfl⟩
    have hs1 : s0.1.length = s.1.length + 1 := by rw [hs0]; simp
    have hs2 : s0.2.length < s.2.length := by rw [hs0]; exact hlt
    have hnd0 : (s0.2.map Prod.fst).Nodup := by rw [hs0]; exact hnd.sublist (List.filter_sublist.map _)
    have hwf0 : WfL s0.2 := by rw [hs0]; exact hwf.sub List.filter_sublist
    have hdfs : dfsP (p.R, p.G) (k + 1) x s = (gwsT p.R p.G x.ring).foldl (dStep (p.R, p.G) k x) s0 := by rw [dfsP_succ, hs0]
    have hpc : pcs s.1 ++ x.cells = pcs s0.1 := by rw [hs0]; simp [pcs]
    have hkk : kvs (s.2.filter fun q => decide (q.1 ≠ x.ring)) = kvs s0.2 := by rw [hs0]
    rw [hpc, ← hs1, hkk]
    repeat'(first|refine kv' ?_|apply jJ|refine jE' ?_|refine jp' ?_|(apply jc;kernel_rfl)|refine kg' ?_|refine kG' ?_|refine kB' fun _=>?_|refine kA' fun _=>?_|refine kK' fun _=>?_|refine kU' ?_|((first|refine kR' ?_ ?_|refine kQ' ?_ ?_);all_goals(intro hc;try simp only[hcs]at hc;try(exfalso;first|contradiction|omega))))
    apply LR.call
    · exact rfl
    intro w1 h1
    refine CallsTo.mono (show CallsTo Try.prog 20 [p.val A, .int .i64 x.ring] w1 _ from m20 p A x.ring w1 ⟨h1.rd_of memZ, h1.rd_of memZ⟩ hi) ?_
    rintro v w2 ⟨a4, c4, rfl, hn⟩
    refine LR.back (h1.newSl hn) ?_
    clear hn h1
    repeat'(first|refine kv' ?_|apply jJ|refine jE' ?_|refine jp' ?_|(apply jc;kernel_rfl)|refine kg' ?_|refine kG' ?_|refine kB' fun _=>?_|refine kA' fun _=>?_|refine kK' fun _=>?_|refine kU' ?_|((first|refine kR' ?_ ?_|refine kQ' ?_ ?_);all_goals(intro hc;try simp only[hcs]at hc;try(exfalso;first|contradiction|omega))))
    have hns8 := gwsTo_len p.R p.G x.ring 8
    obtain ⟨ns, hns⟩ : ∃ ns, ns = gwsT p.R p.G x.ring := ⟨_, rfl⟩
    have hnsl : ns.length ≤ 8 := by rw [hns]; exact hns8
    rw [← hns] at hdfs ⊢
    apply CW.loop [7, 8, 9, 10, 11, 24, 25, 26, 27, 28, 29, 30, 31, 32, 33, 34, 35, 36, 37, 38, 39, 40, 41, 42, 43, 44, 45, 46, 47, 48, 49, 50, 51, 52, 53, 54, 55, 56, 57, 58] (fun s : GSt => (s.i ≤ ns.length ∧ s.s = (ns.take s.i).foldl (dStep (p.R, p.G) k x) s0) ∧ (s.s.2.map Prod.fst).Nodup ∧ WfL s.s.2 ∧ s.s.2.length ≤ s0.2.length ∧ s.s.1.length + s.s.2.length ≤ s0.1.length + s0.2.length) (fun s => [(24, .int .i64 (s.i : Int))])
      (fun s => St w F [oC bo s.a s.s.1.length s.c, pN s.a s.s.1.length s.c s.s.1, lC bl bm, kM91 bm s.s.2, ilK a4 c4 ns, .own bx (.cells x.cells.toArray 44 (0, 0)), rdA (some ⟨bf, 0, none⟩) [Value.func (.func 55) #[] #[.pointer (some ⟨bo, 0, none⟩), .pointer (some ⟨bl, 0, none⟩), .pointer (some ⟨bp, 0, none⟩), .pointer (some ⟨bf, 0, none⟩)]], rdA (some ⟨bp, 0, none⟩) (p.cells A), rdA A.ga (gv p.G), rdA A.ra (iv p.R)]) (fun s => ns.length - s.i)
    · intro w' hw'
      refine ⟨⟨0, a3, c3, s0⟩, ⟨⟨by simp, rfl⟩, hnd0, hwf0, Nat.le_refl _, Nat.le_refl _⟩, ⟨rfl, trivial⟩, ?_⟩
      have h2 : St w F [ilK a4 c4 ns, .own bx (.cells x.cells.toArray 44 (0, 0)), oC bo a3 s0.1.length c3, pN a3 s0.1.length c3 s0.1, lC bl bm, kM91 bm s0.2, rdA (some ⟨bf, 0, none⟩) [Value.func (.func 55) #[] #[.pointer (some ⟨bo, 0, none⟩), .pointer (some ⟨bl, 0, none⟩), .pointer (some ⟨bp, 0, none⟩), .pointer (some ⟨bf, 0, none⟩)]], rdA (some ⟨bp, 0, none⟩) (p.cells A), rdA A.ga (gv p.G), rdA A.ra (iv p.R)] w' := hw'.sub subZ
      have h3 : St w F [.own bx (.cells x.cells.toArray 44 (0, 0)), oC bo a3 s0.1.length c3, pN a3 s0.1.length c3 s0.1, lC bl bm, kM91 bm s0.2, ilK a4 c4 ns, rdA (some ⟨bf, 0, none⟩) [Value.func (.func 55) #[] #[.pointer (some ⟨bo, 0, none⟩), .pointer (some ⟨bl, 0, none⟩), .pointer (some ⟨bp, 0, none⟩), .pointer (some ⟨bf, 0, none⟩)]], rdA (some ⟨bp, 0, none⟩) (p.cells A), rdA A.ga (gv p.G), rdA A.ra (iv p.R)] w' := h2.perm (by
        refine (List.Perm.swap _ _ _).trans ((List.Perm.cons _ ?_))
        exact (List.perm_middle (l₁ := [oC bo a3 s0.1.length c3, pN a3 s0.1.length c3 s0.1, lC bl bm, kM91 bm s0.2])).symm)
      exact h3.perm (List.perm_middle (l₁ := [oC bo a3 s0.1.length c3, pN a3 s0.1.length c3 s0.1, lC bl bm, kM91 bm s0.2, ilK a4 c4 ns])).symm
    rintro ⟨i, a5, c5, s1⟩ g1 ⟨⟨hil, hs⟩, hnd1, hwf1, hle1, hle2⟩
    simp only at hil hs hnd1 hwf1 hle1 hle2 ⊢
    by_cases hlt2 : i < ns.length
    · refine CW_fact (φ := ∃ ba oa, a4 = some ⟨ba, oa, none⟩) (fun w1 hw1 => (ownsRow_rd (hw1.holds (ilK a4 c4 ns) memZ)).form (fun e => by have h1 := congrArg List.length e; simp only [iv_length, List.length_nil] at h1; omega)) ?_
      rintro ⟨ba, oa, rfl⟩
      have htk : (ns.take (i + 1)).foldl (dStep (p.R, p.G) k x) s0 = dStep (p.R, p.G) k x s1 ns[i] := by
        rw [List.take_add_one, List.getElem?_eq_getElem hlt2, List.foldl_append, ← hs]; rfl
      obtain ⟨n, hn⟩ : ∃ n, ns[i] = n := ⟨_, rfl⟩
      rw [hn] at htk
      have hds : dStep (p.R, p.G) k x s1 n = match assoc s1.2 (farD (p.R, p.G) n x.ring) with | some y => if hasC x.members n && hasC y.members n then dfsP (p.R, p.G) k y s1 else s1 | none => s1 := rfl
      obtain ⟨fr, hfr⟩ : ∃ fr, fr = farD (p.R, p.G) n x.ring := ⟨_, rfl⟩
      rw [← hfr] at hds
      cases has : assoc s1.2 fr with
      | none =>
        rw [has] at hds
        repeat'(first|(refine kA' fun b10 => ?_)|refine kv' ?_|apply jJ|refine jE' ?_|refine jp' ?_|(apply jc;kernel_rfl)|refine kg' ?_|refine kG' ?_|refine kB' fun _=>?_|refine kA' fun _=>?_|refine kK' fun _=>?_|refine kU' ?_|(apply idxX;(iterate 2 exact rfl);(iterate 2(first|omega|(dsimp only;omega)));exact rfl)|(apply addX;(iterate 2 exact rfl);(iterate 2(first|omega|(dsimp only;omega)));exact rfl)|(apply LR.ev; (· apply Ev.load_osl; (· exact rfl); (· repeat (first | exact mH _ _ | apply mT)); (· exact (iv_at (l := ns) (i := i) (by simp) (by omega)).trans (by rw [hn]))); (· exact rfl))|(apply kq; (· exact rfl); (· intro w1 h1; first | (have hq := CallsTo.q (m15 p A n x.ring w1 ⟨h1.rd_of memZ, h1.rd_of memZ⟩ hi) h1; exact hq) | fail))|(apply LR.ev; (· apply Ev.lookup_no (enc := intK IntKind.i64) (ok := okK) (l := kvs s1.2) (a := farD (p.R, p.G) n x.ring); (· exact rfl); (· exact rfl); (· exact fun w' hw' => hw'.holds (kM91 bm s1.2) memZ); (· exact fun _ _ => trivial); (· trivial); (· rw [← hfr]; exact assoc_no has)); (· exact rfl))|((first|refine kR' ?_ ?_|refine kQ' ?_ ?_);all_goals(intro hc;try simp only[hcs]at hc;try(exfalso;first|contradiction|omega))))
        refine At.again (⟨i + 1, a5, c5, s1⟩ : GSt) ⟨⟨by simp only; omega, by simp only; rw [htk, hds]⟩, hnd1, hwf1, hle1, hle2⟩ ?_ ⟨rfl, trivial⟩ (fun w' hw' => hw'.sub subZ) (by simp only; omega)
        (repeat (first | exact Out.refl _ _ | exact Out.mix | (apply Out.upd; (· exact rfl)) | (apply Out.updL; (· exact rfl)) | (apply Out.mixs; (· exact rfl))))
      | some y =>
        rw [has] at hds
        have hds : dStep (p.R, p.G) k x s1 n = if hasC x.members n && hasC y.members n then dfsP (p.R, p.G) k y s1 else s1 := hds
        have hyr : y.ring = fr := hwf1.get has
        have hyv : y.val = .agg y.cells.toArray := rfl
        cases hx1 : hasC x.members n with
        | false =>
          rw [hx1] at hds
          simp only [Bool.false_and, Bool.false_eq_true, if_false] at hds
          repeat'(first|(refine kA' fun b10 => ?_)|refine kv' ?_|apply jJ|refine jE' ?_|refine jp' ?_|(apply jc;kernel_rfl)|refine kg' ?_|refine kG' ?_|refine kB' fun _=>?_|refine kA' fun _=>?_|refine kK' fun _=>?_|refine kU' ?_|(apply idxX;(iterate 2 exact rfl);(iterate 2(first|omega|(dsimp only;omega)));exact rfl)|(apply addX;(iterate 2 exact rfl);(iterate 2(first|omega|(dsimp only;omega)));exact rfl)|(apply LR.ev; (· apply Ev.load_osl; (· exact rfl); (· repeat (first | exact mH _ _ | apply mT)); (· exact (iv_at (l := ns) (i := i) (by simp) (by omega)).trans (by rw [hn]))); (· exact rfl))|(apply kq; (· exact rfl); (· intro w1 h1; first | (have hq := CallsTo.q (m15 p A n x.ring w1 ⟨h1.rd_of memZ, h1.rd_of memZ⟩ hi) h1; exact hq) | (have hq := CallsTo.q (q23 x.members n w1) h1; rw [hx1] at hq; exact hq)))|(apply LR.ev; (· apply Ev.lookup_yes (enc := intK IntKind.i64) (ok := okK) (l := kvs s1.2) (a := farD (p.R, p.G) n x.ring) (u := y.val); (· exact rfl); (· exact rfl); (· exact fun w' hw' => hw'.holds (kM91 bm s1.2) memZ); (· exact fun _ _ => trivial); (· rw [kvs_fst]; exact hnd1); (· rw [← hfr]; exact assoc_mem has)); (· exact rfl))|((first|refine kR' ?_ ?_|refine kQ' ?_ ?_);all_goals(intro hc;try simp only[hcs]at hc;try(exfalso;first|contradiction|omega))))
          refine At.again (⟨i + 1, a5, c5, s1⟩ : GSt) ⟨⟨by simp only; omega, by simp only; rw [htk, hds]⟩, hnd1, hwf1, hle1, hle2⟩ ?_ ⟨rfl, trivial⟩ (fun w' hw' => hw'.sub subZ) (by simp only; omega)
          (repeat (first | exact Out.refl _ _ | exact Out.mix | (apply Out.upd; (· exact rfl)) | (apply Out.updL; (· exact rfl)) | (apply Out.mixs; (· exact rfl))))
        | true =>
          cases hy1 : hasC y.members n with
          | false =>
            rw [hx1, hy1] at hds
            simp only [Bool.and_false, Bool.false_eq_true, if_false] at hds
            repeat'(first|(refine kA' fun b10 => ?_)|refine kv' ?_|apply jJ|refine jE' ?_|refine jp' ?_|(apply jc;kernel_rfl)|refine kg' ?_|refine kG' ?_|refine kB' fun _=>?_|refine kA' fun _=>?_|refine kK' fun _=>?_|refine kU' ?_|(apply idxX;(iterate 2 exact rfl);(iterate 2(first|omega|(dsimp only;omega)));exact rfl)|(apply addX;(iterate 2 exact rfl);(iterate 2(first|omega|(dsimp only;omega)));exact rfl)|(apply LR.ev; (· apply Ev.load_osl; (· exact rfl); (· repeat (first | exact mH _ _ | apply mT)); (· exact (iv_at (l := ns) (i := i) (by simp) (by omega)).trans (by rw [hn]))); (· exact rfl))|(apply kq; (· exact rfl); (· intro w1 h1; first | (have hq := CallsTo.q (m15 p A n x.ring w1 ⟨h1.rd_of memZ, h1.rd_of memZ⟩ hi) h1; exact hq) | (have hq := CallsTo.q (q23 x.members n w1) h1; rw [hx1] at hq; exact hq) | (have hq := CallsTo.q (q23 y.members n w1) h1; rw [hy1] at hq; exact hq)))|(apply LR.ev; (· apply Ev.lookup_yes (enc := intK IntKind.i64) (ok := okK) (l := kvs s1.2) (a := farD (p.R, p.G) n x.ring) (u := y.val); (· exact rfl); (· exact rfl); (· exact fun w' hw' => hw'.holds (kM91 bm s1.2) memZ); (· exact fun _ _ => trivial); (· rw [kvs_fst]; exact hnd1); (· rw [← hfr]; exact assoc_mem has)); (· exact rfl))|((first|refine kR' ?_ ?_|refine kQ' ?_ ?_);all_goals(intro hc;try simp only[hcs]at hc;try(exfalso;first|contradiction|omega))))
            refine At.again (⟨i + 1, a5, c5, s1⟩ : GSt) ⟨⟨by simp only; omega, by simp only; rw [htk, hds]⟩, hnd1, hwf1, hle1, hle2⟩ ?_ ⟨rfl, trivial⟩ (fun w' hw' => hw'.sub subZ) (by simp only; omega)
            (repeat (first | exact Out.refl _ _ | exact Out.mix | (apply Out.upd; (· exact rfl)) | (apply Out.updL; (· exact rfl)) | (apply Out.mixs; (· exact rfl))))
          | true =>
            rw [hx1, hy1] at hds
            simp only [Bool.and_self, if_true] at hds
            repeat'(first|(refine kA' fun b10 => ?_)|refine kv' ?_|apply jJ|refine jE' ?_|refine jp' ?_|(apply jc;kernel_rfl)|refine kg' ?_|refine kG' ?_|refine kB' fun _=>?_|refine kA' fun _=>?_|refine kK' fun _=>?_|refine kU' ?_|(apply idxX;(iterate 2 exact rfl);(iterate 2(first|omega|(dsimp only;omega)));exact rfl)|(apply addX;(iterate 2 exact rfl);(iterate 2(first|omega|(dsimp only;omega)));exact rfl)|(apply LR.ev; (· apply Ev.load_osl; (· exact rfl); (· repeat (first | exact mH _ _ | apply mT)); (· exact (iv_at (l := ns) (i := i) (by simp) (by omega)).trans (by rw [hn]))); (· exact rfl))|(apply kq; (· exact rfl); (· intro w1 h1; first | (have hq := CallsTo.q (m15 p A n x.ring w1 ⟨h1.rd_of memZ, h1.rd_of memZ⟩ hi) h1; exact hq) | (have hq := CallsTo.q (q23 x.members n w1) h1; rw [hx1] at hq; exact hq) | (have hq := CallsTo.q (q23 y.members n w1) h1; rw [hy1] at hq; exact hq)))|(apply LR.ev; (· apply Ev.lookup_yes (enc := intK IntKind.i64) (ok := okK) (l := kvs s1.2) (a := farD (p.R, p.G) n x.ring) (u := y.val); (· exact rfl); (· exact rfl); (· exact fun w' hw' => hw'.holds (kM91 bm s1.2) memZ); (· exact fun _ _ => trivial); (· rw [kvs_fst]; exact hnd1); (· rw [← hfr]; exact assoc_mem has)); (· exact rfl))|((first|refine kR' ?_ ?_|refine kQ' ?_ ?_);all_goals(intro hc;try simp only[hcs]at hc;try(exfalso;first|contradiction|omega))))
            apply LR.call_val (g := 55) (cap := [.pointer (some ⟨bo, 0, none⟩), .pointer (some ⟨bl, 0, none⟩), .pointer (some ⟨bp, 0, none⟩), .pointer (some ⟨bf, 0, none⟩)])
            · exact rfl
            · exact rfl
            intro w1 h1
            have h2 : St w F (vG bo bl bm a5 c5 s1 :: [.own b10 (.cells [Value.int .i64 y.ring, .int .i64 y.seq, .int .i64 y.rep, .int .i64 y.members].toArray 44 (0, 0)), ilK (some ⟨ba, oa, none⟩) c4 ns, .own bx (.cells x.cells.toArray 44 (0, 0)), rdA (some ⟨bf, 0, none⟩) [Value.func (.func 55) #[] #[.pointer (some ⟨bo, 0, none⟩), .pointer (some ⟨bl, 0, none⟩), .pointer (some ⟨bp, 0, none⟩), .pointer (some ⟨bf, 0, none⟩)]], rdA (some ⟨bp, 0, none⟩) (p.cells A), rdA A.ga (gv p.G), rdA A.ra (iv p.R)]) w1 := vG_shut (h1.perm (List.perm_middle (l₁ := [oC bo a5 s1.1.length c5, pN a5 s1.1.length c5 s1.1, lC bl bm, kM91 bm s1.2])).symm)
            have hap := fun (z : Asrt) (hz : z ∈ [.own b10 (.cells [Value.int .i64 y.ring, .int .i64 y.seq, .int .i64 y.rep, .int .i64 y.members].toArray 44 (0, 0)), ilK (some ⟨ba, oa, none⟩) c4 ns, .own bx (.cells x.cells.toArray 44 (0, 0)), rdA (some ⟨bf, 0, none⟩) [Value.func (.func 55) #[] #[.pointer (some ⟨bo, 0, none⟩), .pointer (some ⟨bl, 0, none⟩), .pointer (some ⟨bp, 0, none⟩), .pointer (some ⟨bf, 0, none⟩)]], rdA (some ⟨bp, 0, none⟩) (p.cells A), rdA A.ga (gv p.G), rdA A.ra (iv p.R)]) => St.apart h2 hz (show (true || z.excl) = true from rfl)
            have hE1 : EnvG w1 p A bo bl bp bf (vG bo bl bm a5 c5 s1).foot := by
              refine ⟨⟨h2.rd_of memZ, h2.rd_of memZ⟩, h2.rd_of memZ, h2.rd_of memZ, ?_, ?_, ?_, ?_⟩
              · exact fun z hz hf => hap (rdA A.ra (iv p.R)) memZ z hf hz
              · exact fun z hz hf => hap (rdA A.ga (gv p.G)) memZ z hf hz
              · exact fun z hz hf => hap (rdA (some ⟨bp, 0, none⟩) (p.cells A)) memZ z hf hz
              · exact fun z hz hf => hap (rdA (some ⟨bf, 0, none⟩) [Value.func (.func 55) #[] #[.pointer (some ⟨bo, 0, none⟩), .pointer (some ⟨bl, 0, none⟩), .pointer (some ⟨bp, 0, none⟩), .pointer (some ⟨bf, 0, none⟩)]]) memZ z hf hz
            have hys : (assoc s1.2 y.ring).isSome = true := by rw [hyr, has]; rfl
            have hdl := dfs_len (p.R, p.G) k y s1 hwf1 hys
            refine CallsTo.mono (show CallsTo Try.prog 55 [y.val, .pointer (some ⟨bo, 0, none⟩), .pointer (some ⟨bl, 0, none⟩), .pointer (some ⟨bp, 0, none⟩), .pointer (some ⟨bf, 0, none⟩)] w1 _ from ih y a5 c5 s1 w1 (h2.holds _ (mH _ _)) hE1 hnd1 hwf1 hys (by omega) (by omega)) ?_
            rintro v w2 ⟨rfl, a6, c6, st⟩
            have h4 := vG_open (h2.did (Sel.head _ _ _) rfl st vG_dep)
            refine LR.back h4 ?_
            clear h4 st h2 hap hE1 h1
            rw [← hds] at hdl ⊢
            obtain ⟨s2, hs2'⟩ : ∃ s2, s2 = dStep (p.R, p.G) k x s1 n := ⟨_, rfl⟩
            rw [← hs2'] at hdl htk ⊢
            repeat'(first|refine kv' ?_|apply jJ|refine jE' ?_|refine jp' ?_|(apply jc;kernel_rfl)|refine kg' ?_|refine kG' ?_|refine kB' fun _=>?_|refine kA' fun _=>?_|refine kK' fun _=>?_|refine kU' ?_|(apply addX;(iterate 2 exact rfl);(iterate 2(first|omega|(dsimp only;omega)));exact rfl)|((first|refine kR' ?_ ?_|refine kQ' ?_ ?_);all_goals(intro hc;try simp only[hcs]at hc;try(exfalso;first|contradiction|omega))))
            refine At.again (⟨i + 1, a6, c6, s2⟩ : GSt) ⟨⟨by simp only; omega, by simp only; rw [htk]⟩, hnd1.sublist (hdl.2.map _), hwf1.sub hdl.2, by simp only; have := hdl.2.length_le; omega, by simp only; omega⟩ ?_ ⟨rfl, trivial⟩ (fun w' hw' => hw'.sub subZ) (by simp only; omega)
            (repeat (first | exact Out.refl _ _ | exact Out.mix | (apply Out.upd; (· exact rfl)) | (apply Out.updL; (· exact rfl)) | (apply Out.mixs; (· exact rfl))))
    · have hie : i = ns.length := by omega
      subst hie
      rw [List.take_length] at hs
      repeat'(first|refine kv' ?_|apply jJ|refine jE' ?_|refine jp' ?_|(apply jc;kernel_rfl)|refine kg' ?_|refine kG' ?_|refine kB' fun _=>?_|refine kA' fun _=>?_|refine kK' fun _=>?_|refine kU' ?_|((first|refine kR' ?_ ?_|refine kQ' ?_ ?_);all_goals(intro hc;try simp only[hcs]at hc;try(exfalso;first|contradiction|omega))))
      apply end0; (· exact rfl); intro w' hS
      refine ⟨rfl, a5, c5, ?_⟩
      rw [hdfs, ← hs]
      subst hF
      exact (vG_shut hS).step rfl
end Go.Proofs.Ytgblmkpfkcibiaa

namespace Go.Proofs.Ytgblmkpfkcibiaa
open Go.Hb
attribute [local irreducible] LR CW At Ev thn blk finK noG again CallsTo DW QL dnext TW DP gpost
set_option maxRecDepth 100000

theorem asc_lenM : ∀ (l : List Int) (a : Int) (n : Nat), l.Pairwise (· < ·) → (∀ x ∈ l, a ≤ x ∧ x < a + n) → l.length ≤ n
  | [], _, _, _, _ => Nat.zero_le _
  | x :: l, a, n, h, hr => by
    rw [List.pairwise_cons] at h
    have hx := hr x List.mem_cons_self
    cases n with
    | zero => omega
    | succ n =>
      have := asc_lenM l (a + 1) n h.2 (fun y hy => by
        have h1 := h.1 y hy
        have h2 := hr y (List.mem_cons_of_mem _ hy)
        omega)
      rw [List.length_cons]
      omega
theorem far_rng {R : List Int} {G : List Gat} {n r b : Int} (h : farT R G n r = some b) : 0 ≤ b ∧ b < R.length := by
  unfold farT at h
  split at h
  · rename_i hc
    have hok := pl_ok hc
    have : ∀ G', (∀ g ∈ G', Fine R g) → farG G' n r = some b → 0 ≤ b ∧ b < R.length := by
      intro G'
      induction G' with
      | nil => intro _ h; cases h
      | cons g t ih =>
        intro hf hg
        have hg' := hf g List.mem_cons_self
        have h1 := hg'.a0
        have h2 := hg'.ab
        have h3 := hg'.bl
        unfold farG at hg
        split at hg
        · cases hg; omega
        · split at hg
          · cases hg; omega
          · exact ih (fun x hx => hf x (List.mem_cons_of_mem _ hx)) hg
    exact this G hok.fine h
  · cases h
theorem rch_rng {p : List Int × List Gat} {K : List Plc} {a b : Int} (ha : 0 ≤ a ∧ a < p.1.length) (h : Rch (stepsR p K) a b) : 0 ≤ b ∧ b < p.1.length := by
  induction h with
  | refl => exact ha
  | step _ hs _ =>
    obtain ⟨x, y, n, _, _, _, h1, _⟩ := stepsR_iff.1 hs
    exact far_rng h1
theorem ViewIs.len {p : List Int × List Gat} {K : List Plc} {fr : Int} {v : List Plc} (h : ViewIs p K fr v) (hf : 0 ≤ fr ∧ fr < p.1.length) : v.length ≤ p.1.length := by
  have := asc_lenM (v.map Plc.ring) 0 p.1.length h.asc (fun x hx => by
    have := rch_rng hf ((h.mem x).1 hx)
    omega)
  simpa using this
abbrev plR (w w' : World) (v : Value) (l : List Plc) : Prop := ∃ a' c', v = .slice a' l.length c' ∧ NewSl w w' (.slice a' l.length c') 44 4 l.length (pcs l)
theorem plR_nil (w : World) {w' : World} (h : Grew w w') : plR w w' (.slice none 0 0) [] := ⟨none, 0, rfl, ((h : St w NoF [] w').nilsl 44 4).toNew (mH _ _)⟩
theorem leftS_wf {l : List (Int × Plc)} {x : Plc} (h : WfL l) : WfL (leftS l x) := by
  unfold leftS
  split
  · exact h
  · intro q hq
    rcases List.mem_append.1 hq with hq | hq
    · exact h q hq
    · rw [List.mem_singleton] at hq; rw [hq]
theorem left_wf : ∀ (L : List Plc) (l : List (Int × Plc)), WfL l → WfL (L.foldl leftS l)
  | [], l, h => h
  | x :: r, l, h => left_wf r _ (leftS_wf h)
theorem leftL_wf (K : List Plc) : WfL (leftL K) := left_wf K [] (fun q hq => by cases hq)
set_option maxHeartbeats 4000000 in
theorem m24 (p : Pln) (A : PlA) (hi : PlI p) (fr : Int) (K : List Plc) (a : Option Addr) (c : Nat) (w : World) (hr : PlR w p A) (hk : Rd w a (pcs K)) (hm : K.length * 32 ≤ 140737488351232) :
    CallsTo Try.prog 24 [p.val A, .int .i64 fr, .slice a K.length c] w fun v w' => plR w w' v (viewP (p.R, p.G) fr K) := by
  refine go_in (n := 64) ((pl_in hr).addRd hk (fun _ _ h => h)) Try.func24 rfl rfl ?_
  rw [show p.val A = .agg [.slice A.ra p.R.length A.rc, .slice A.ga p.G.length A.gc].toArray from rfl]
  unfold viewP
  cases hck : chkP p.R p.G with
  | false =>
    rw [Bool.false_and, if_neg (by simp)]
    repeat'(first|refine kv' ?_|apply jJ|refine jE' ?_|refine jp' ?_|(apply jc;kernel_rfl)|refine kg' ?_|refine kG' ?_|refine kB' fun _=>?_|refine kA' fun _=>?_|refine kK' fun _=>?_|refine kU' ?_|(apply kq; (· exact rfl); (· intro w1 h1; exact (show CallsTo Try.prog 13 [p.val A] w1 _ from m13F hi h1 ⟨h1.rd_of memZ, h1.rd_of memZ⟩ hck)))|((first|refine kR' ?_ ?_|refine kQ' ?_ ?_);all_goals(intro hc;try simp only[hcs]at hc;try(exfalso;first|contradiction|omega))))
    (apply ret1; (· exact rfl); intro w' hS)
    exact plR_nil w hS.toKeep
  | true =>
    by_cases hfr : ¬ (0 ≤ fr ∧ fr < p.R.length)
    · have e : ringG p.R fr = false := by unfold ringG; exact decide_eq_false hfr
      rw [e, Bool.and_false, if_neg (by simp)]
      repeat'(first|refine kv' ?_|apply jJ|refine jE' ?_|refine jp' ?_|(apply jc;kernel_rfl)|refine kg' ?_|refine kG' ?_|refine kB' fun _=>?_|refine kA' fun _=>?_|refine kK' fun _=>?_|refine kU' ?_|(apply kq; (· exact rfl); (· intro w1 h1; exact (show CallsTo Try.prog 13 [p.val A] w1 _ from m13T hi h1 ⟨h1.rd_of memZ, h1.rd_of memZ⟩ hck)))|((first|refine kR' ?_ ?_|refine kQ' ?_ ?_);all_goals(intro hc;try simp only[hcs]at hc;try(exfalso;first|contradiction|omega))))
      all_goals (first
        | (exfalso; omega)
        | ((apply ret1; (· exact rfl); intro w' hS)
           exact plR_nil w hS.toKeep))
    have hfr : 0 ≤ fr ∧ fr < p.R.length := Classical.not_not.1 hfr
    have e : ringG p.R fr = true := by unfold ringG; exact decide_eq_true hfr
    rw [e, Bool.and_true, if_pos rfl]
    clear e
    repeat'(first|(refine kB' fun bp => ?_)|(refine LR.makeMapK (enc := intK IntKind.i64) (ok := okK) rfl fun bm => ?_)|(refine kA' fun bl => ?_)|refine kv' ?_|apply jJ|refine jE' ?_|refine jp' ?_|(apply jc;kernel_rfl)|refine kg' ?_|refine kG' ?_|refine kB' fun _=>?_|refine kA' fun _=>?_|refine kK' fun _=>?_|refine kU' ?_|(apply kq; (· exact rfl); (· intro w1 h1; exact (show CallsTo Try.prog 13 [p.val A] w1 _ from m13T hi h1 ⟨h1.rd_of memZ, h1.rd_of memZ⟩ hck)))|((first|refine kR' ?_ ?_|refine kQ' ?_ ?_);all_goals(intro hc;try simp only[hcs]at hc;try(exfalso;first|contradiction|omega))))
    apply CW.loop [9, 10, 11, 33, 34, 35, 36, 37, 38, 39, 40, 41, 42, 43, 44, 45, 46, 47, 48, 49, 50] (fun s : Nat × List (Int × Plc) => s.1 ≤ K.length ∧ s.2 = (K.take s.1).foldl leftS []) (fun s => [(33, .int .i64 (s.1 : Int))])
      (fun s => St w NoF [lC bl bm, kM91 bm s.2, .own bp (.cells [Value.slice A.ra p.R.length A.rc, .slice A.ga p.G.length A.gc].toArray 25 (0, 0)), rdA a (pcs K), rdA A.ga (gv p.G), rdA A.ra (iv p.R)]) (fun s => K.length - s.1)
    · exact fun w' hw' => ⟨(0, []), ⟨Nat.zero_le _, rfl⟩, ⟨rfl, trivial⟩, hw'⟩
    rintro ⟨i, l⟩ g1 ⟨hil, hl⟩
    simp only at hil hl ⊢
    have hok : LeftOk (K.take i) l := by rw [hl]; exact leftL_ok (K.take i)
    have hnd := hok.nd
    by_cases hlt : i < K.length
    · obtain ⟨x, hx⟩ : ∃ x, K[i] = x := ⟨_, rfl⟩
      have hKi : K[i]? = some x := by rw [List.getElem?_eq_getElem hlt, hx]
      have htk : (K.take (i + 1)).foldl leftS [] = leftS l x := by
        rw [List.take_add_one, hKi, List.foldl_append, ← hl]; rfl
      obtain ⟨ba, oa, rfl⟩ := hk.form (fun e => by have h1 := congrArg List.length e; rw [pcs_length, List.length_nil] at h1; omega)
      have hlf : leftS l x = if l.any (fun q => decide (q.1 = x.ring)) then l else l ++ [(x.ring, x)] := rfl
      cases ha : l.any (fun q => decide (q.1 = x.ring)) with
      | true =>
        rw [ha, if_pos rfl] at hlf
        obtain ⟨y, hy⟩ := any_yes ha
        repeat'(first|refine kv' ?_|apply jJ|refine jE' ?_|refine jp' ?_|(apply jc;kernel_rfl)|refine kg' ?_|refine kG' ?_|refine kB' fun _=>?_|refine kA' fun _=>?_|refine kK' fun _=>?_|refine kU' ?_|(apply idxX;(iterate 2 exact rfl);(iterate 2(first|omega|(dsimp only;omega)));exact rfl)|(apply addX;(iterate 2 exact rfl);(iterate 2(first|omega|(dsimp only;omega)));exact rfl)|(apply LR.ev; (· apply Ev.load_agg_at (cs := [Value.int .i64 x.ring, .int .i64 x.seq, .int .i64 x.rep, .int .i64 x.members]); (· exact rfl); (· exact rfl); (· intro w' hw'; refine pcs_cell (x := x) (hw'.rd_of memZ) hKi ?_; (· simp; done))); (· exact rfl))|(apply LR.ev; (· apply Ev.lookup_yes (enc := intK IntKind.i64) (ok := okK) (l := kvs l) (a := x.ring) (u := y.val); (· exact rfl); (· exact rfl); (· exact fun w' hw' => hw'.holds (kM91 bm l) memZ); (· exact fun _ _ => trivial); (· rw [kvs_fst]; exact hnd); (· exact assoc_mem hy)); (· exact rfl))|((first|refine kR' ?_ ?_|refine kQ' ?_ ?_);all_goals(intro hc;try simp only[hcs]at hc;try(exfalso;first|contradiction|omega))))
        refine At.again (i + 1, l) ⟨by show i + 1 ≤ _; omega, by show l = _; rw [htk, hlf]⟩ ?_ ⟨rfl, trivial⟩ (fun w' hw' => hw'.sub subZ) (by show K.length - (i + 1) < K.length - i; omega)
        (repeat (first | exact Out.refl _ _ | exact Out.mix | (apply Out.upd; (· exact rfl)) | (apply Out.updL; (· exact rfl)) | (apply Out.mixs; (· exact rfl))))
      | false =>
        rw [ha, if_neg (by simp)] at hlf
        repeat'(first|refine kv' ?_|apply jJ|refine jE' ?_|refine jp' ?_|(apply jc;kernel_rfl)|refine kg' ?_|refine kG' ?_|refine kB' fun _=>?_|refine kA' fun _=>?_|refine kK' fun _=>?_|refine kU' ?_|(apply idxX;(iterate 2 exact rfl);(iterate 2(first|omega|(dsimp only;omega)));exact rfl)|(apply addX;(iterate 2 exact rfl);(iterate 2(first|omega|(dsimp only;omega)));exact rfl)|(apply LR.ev; (· apply Ev.load_agg_at (cs := [Value.int .i64 x.ring, .int .i64 x.seq, .int .i64 x.rep, .int .i64 x.members]); (· exact rfl); (· exact rfl); (· intro w' hw'; refine pcs_cell (x := x) (hw'.rd_of memZ) hKi ?_; (· simp; done))); (· exact rfl))|(apply LR.ev; (· apply Ev.lookup_no (enc := intK IntKind.i64) (ok := okK) (l := kvs l) (a := x.ring); (· exact rfl); (· exact rfl); (· exact fun w' hw' => hw'.holds (kM91 bm l) memZ); (· exact fun _ _ => trivial); (· trivial); (· exact assoc_no (any_no ha))); (· exact rfl))|((first|refine kR' ?_ ?_|refine kQ' ?_ ?_);all_goals(intro hc;try simp only[hcs]at hc;try(exfalso;first|contradiction|omega))))
        refine LR.insertK (enc := intK IntKind.i64) (ok := okK) (l := kvs l) (a := x.ring) (v := x.val) rfl rfl rfl selZ (fun _ _ => trivial) trivial (assoc_no (any_no ha)) ?_
        rw [kvs_snoc]
        repeat'(first|refine kv' ?_|apply jJ|refine jE' ?_|refine jp' ?_|(apply jc;kernel_rfl)|refine kg' ?_|refine kG' ?_|refine kB' fun _=>?_|refine kA' fun _=>?_|refine kK' fun _=>?_|refine kU' ?_|(apply addX;(iterate 2 exact rfl);(iterate 2(first|omega|(dsimp only;omega)));exact rfl)|((first|refine kR' ?_ ?_|refine kQ' ?_ ?_);all_goals(intro hc;try simp only[hcs]at hc;try(exfalso;first|contradiction|omega))))
        refine At.again (i + 1, l ++ [(x.ring, x)]) ⟨by show i + 1 ≤ _; omega, by show l ++ [(x.ring, x)] = _; rw [htk, hlf]⟩ ?_ ⟨rfl, trivial⟩ (fun w' hw' => hw'.sub subZ) (by show K.length - (i + 1) < K.length - i; omega)
        (repeat (first | exact Out.refl _ _ | exact Out.mix | (apply Out.upd; (· exact rfl)) | (apply Out.updL; (· exact rfl)) | (apply Out.mixs; (· exact rfl))))
    have hie : i = K.length := by omega
    subst hie
    rw [List.take_length] at hl hok
    have hl : l = leftL K := hl
    cases hpk : plcK K fr with
    | none =>
      repeat'(first|(refine kA' (T := 37) fun bo => ?_)|(refine kA' (T := 93) fun bf => ?_)|(refine kA' (T := 44) fun bx => ?_)|(apply LR.ev (v := Value.func (.func 55) #[] #[.pointer (some ⟨bo, 0, none⟩), .pointer (some ⟨bl, 0, none⟩), .pointer (some ⟨bp, 0, none⟩), .pointer (some ⟨bf, 0, none⟩)]); (· exact Ev.makeFunc (xs := []) (ys := [.tmp 12, .tmp 7, .tmp 3, .tmp 13])); (· exact rfl))|refine kv' ?_|apply jJ|refine jE' ?_|refine jp' ?_|(apply jc;kernel_rfl)|refine kg' ?_|refine kG' ?_|refine kB' fun _=>?_|refine kA' fun _=>?_|refine kK' fun _=>?_|refine kU' ?_|(apply LR.ev; (· apply Ev.lookup_no (enc := intK IntKind.i64) (ok := okK) (l := kvs l) (a := fr); (· exact rfl); (· exact rfl); (· exact fun w' hw' => hw'.holds (kM91 bm l) memZ); (· exact fun _ _ => trivial); (· trivial); (· exact assoc_no (by rw [hok.eq, hpk]))); (· exact rfl))|((first|refine kR' ?_ ?_|refine kQ' ?_ ?_);all_goals(intro hc;try simp only[hcs]at hc;try(exfalso;first|contradiction|omega))))
      apply LR.call
      · exact rfl
      intro w1 h1
      have h2 := h1.nilsl 44 4
      refine CallsTo.mono (show CallsTo Try.prog 56 [.slice none 0 0] w1 _ from sort_few none 0 [] w1 (h2.holds (pN none 0 0 []) (mH _ _)) (by simp)) ?_
      rintro v w2 ⟨rfl, st⟩
      refine LR.back (h2.did (Sel.head _ _ _) rfl st (osl.dep _ _ _ _ _)) ?_
      clear h1 h2 st
      repeat'(first|refine kv' ?_|apply jJ|refine jE' ?_|refine jp' ?_|(apply jc;kernel_rfl)|refine kg' ?_|refine kG' ?_|refine kB' fun _=>?_|refine kA' fun _=>?_|refine kK' fun _=>?_|refine kU' ?_|((first|refine kR' ?_ ?_|refine kQ' ?_ ?_);all_goals(intro hc;try simp only[hcs]at hc;try(exfalso;first|contradiction|omega))))
      (apply ret1; (· exact rfl); intro w' hS)
      exact plR_nil w hS.toKeep
    | some x =>
      repeat'(first|(refine kA' (T := 37) fun bo => ?_)|(refine kA' (T := 93) fun bf => ?_)|(refine kA' (T := 44) fun bx => ?_)|(apply LR.ev (v := Value.func (.func 55) #[] #[.pointer (some ⟨bo, 0, none⟩), .pointer (some ⟨bl, 0, none⟩), .pointer (some ⟨bp, 0, none⟩), .pointer (some ⟨bf, 0, none⟩)]); (· exact Ev.makeFunc (xs := []) (ys := [.tmp 12, .tmp 7, .tmp 3, .tmp 13])); (· exact rfl))|refine kv' ?_|apply jJ|refine jE' ?_|refine jp' ?_|(apply jc;kernel_rfl)|refine kg' ?_|refine kG' ?_|refine kB' fun _=>?_|refine kA' fun _=>?_|refine kK' fun _=>?_|refine kU' ?_|(apply LR.ev; (· apply Ev.lookup_yes (enc := intK IntKind.i64) (ok := okK) (l := kvs l) (a := fr) (u := x.val); (· exact rfl); (· exact rfl); (· exact fun w' hw' => hw'.holds (kM91 bm l) memZ); (· exact fun _ _ => trivial); (· rw [kvs_fst]; exact hnd); (· exact assoc_mem (by rw [hok.eq, hpk]))); (· exact rfl))|((first|refine kR' ?_ ?_|refine kQ' ?_ ?_);all_goals(intro hc;try simp only[hcs]at hc;try(exfalso;first|contradiction|omega))))
      have hxr := plcK_ring hpk
      apply LR.call_val (g := 55) (cap := [.pointer (some ⟨bo, 0, none⟩), .pointer (some ⟨bl, 0, none⟩), .pointer (some ⟨bp, 0, none⟩), .pointer (some ⟨bf, 0, none⟩)])
      · exact rfl
      · exact rfl
      intro w1 h1
      have h2 := h1.nilsl 44 4
      have h3 : St w NoF [kM91 bm l, pN none 0 0 [], .own bx (.cells [Value.int .i64 x.ring, .int .i64 x.seq, .int .i64 x.rep, .int .i64 x.members].toArray 44 (0, 0)), .own bf (.cells [Value.func (.func 55) #[] #[.pointer (some ⟨bo, 0, none⟩), .pointer (some ⟨bl, 0, none⟩), .pointer (some ⟨bp, 0, none⟩), .pointer (some ⟨bf, 0, none⟩)]].toArray 93 (0, 0)), oC bo none 0 0, lC bl bm, .own bp (.cells [Value.slice A.ra p.R.length A.rc, .slice A.ga p.G.length A.gc].toArray 25 (0, 0)), rdA a (pcs K), rdA A.ga (gv p.G), rdA A.ra (iv p.R)] w1 := front h2 5 rfl rfl
      have h4 : St w NoF [lC bl bm, kM91 bm l, pN none 0 0 [], .own bx (.cells [Value.int .i64 x.ring, .int .i64 x.seq, .int .i64 x.rep, .int .i64 x.members].toArray 44 (0, 0)), .own bf (.cells [Value.func (.func 55) #[] #[.pointer (some ⟨bo, 0, none⟩), .pointer (some ⟨bl, 0, none⟩), .pointer (some ⟨bp, 0, none⟩), .pointer (some ⟨bf, 0, none⟩)]].toArray 93 (0, 0)), oC bo none 0 0, .own bp (.cells [Value.slice A.ra p.R.length A.rc, .slice A.ga p.G.length A.gc].toArray 25 (0, 0)), rdA a (pcs K), rdA A.ga (gv p.G), rdA A.ra (iv p.R)] w1 := front h3 5 rfl rfl
      have h5 : St w NoF [pN none 0 0 [], lC bl bm, kM91 bm l, .own bx (.cells [Value.int .i64 x.ring, .int .i64 x.seq, .int .i64 x.rep, .int .i64 x.members].toArray 44 (0, 0)), .own bf (.cells [Value.func (.func 55) #[] #[.pointer (some ⟨bo, 0, none⟩), .pointer (some ⟨bl, 0, none⟩), .pointer (some ⟨bp, 0, none⟩), .pointer (some ⟨bf, 0, none⟩)]].toArray 93 (0, 0)), oC bo none 0 0, .own bp (.cells [Value.slice A.ra p.R.length A.rc, .slice A.ga p.G.length A.gc].toArray 25 (0, 0)), rdA a (pcs K), rdA A.ga (gv p.G), rdA A.ra (iv p.R)] w1 := front h4 2 rfl rfl
      have h5b : St w NoF [oC bo none 0 0, pN none 0 0 [], lC bl bm, kM91 bm l, .own bx (.cells [Value.int .i64 x.ring, .int .i64 x.seq, .int .i64 x.rep, .int .i64 x.members].toArray 44 (0, 0)), .own bf (.cells [Value.func (.func 55) #[] #[.pointer (some ⟨bo, 0, none⟩), .pointer (some ⟨bl, 0, none⟩), .pointer (some ⟨bp, 0, none⟩), .pointer (some ⟨bf, 0, none⟩)]].toArray 93 (0, 0)), .own bp (.cells [Value.slice A.ra p.R.length A.rc, .slice A.ga p.G.length A.gc].toArray 25 (0, 0)), rdA a (pcs K), rdA A.ga (gv p.G), rdA A.ra (iv p.R)] w1 := front h5 5 rfl rfl
      have h6 : St w NoF (vG bo bl bm none 0 ([], l) :: [.own bx (.cells [Value.int .i64 x.ring, .int .i64 x.seq, .int .i64 x.rep, .int .i64 x.members].toArray 44 (0, 0)), .own bf (.cells [Value.func (.func 55) #[] #[.pointer (some ⟨bo, 0, none⟩), .pointer (some ⟨bl, 0, none⟩), .pointer (some ⟨bp, 0, none⟩), .pointer (some ⟨bf, 0, none⟩)]].toArray 93 (0, 0)), .own bp (.cells [Value.slice A.ra p.R.length A.rc, .slice A.ga p.G.length A.gc].toArray 25 (0, 0)), rdA a (pcs K), rdA A.ga (gv p.G), rdA A.ra (iv p.R)]) w1 := vG_shut h5b
      have hap := fun (z : Asrt) (hz : z ∈ [.own bx (.cells [Value.int .i64 x.ring, .int .i64 x.seq, .int .i64 x.rep, .int .i64 x.members].toArray 44 (0, 0)), .own bf (.cells [Value.func (.func 55) #[] #[.pointer (some ⟨bo, 0, none⟩), .pointer (some ⟨bl, 0, none⟩), .pointer (some ⟨bp, 0, none⟩), .pointer (some ⟨bf, 0, none⟩)]].toArray 93 (0, 0)), .own bp (.cells [Value.slice A.ra p.R.length A.rc, .slice A.ga p.G.length A.gc].toArray 25 (0, 0)), rdA a (pcs K), rdA A.ga (gv p.G), rdA A.ra (iv p.R)]) => St.apart h6 hz (show (true || z.excl) = true from rfl)
      have hE1 : EnvG w1 p A bo bl bp bf (vG bo bl bm none 0 ([], l)).foot := by
        refine ⟨⟨h6.rd_of memZ, h6.rd_of memZ⟩, h6.rd_of_blk memZ, h6.rd_of_blk memZ, ?_, ?_, ?_, ?_⟩
        · exact fun z hz hf => hap (rdA A.ra (iv p.R)) memZ z hf hz
        · exact fun z hz hf => hap (rdA A.ga (gv p.G)) memZ z hf hz
        · intro z hz hf
          obtain ⟨_, ad, e, hz'⟩ := hz
          cases e
          exact hap (.own bp (.cells [Value.slice A.ra p.R.length A.rc, .slice A.ga p.G.length A.gc].toArray 25 (0, 0))) memZ z hf hz'
        · intro z hz hf
          obtain ⟨_, ad, e, hz'⟩ := hz
          cases e
          exact hap (.own bf (.cells [Value.func (.func 55) #[] #[.pointer (some ⟨bo, 0, none⟩), .pointer (some ⟨bl, 0, none⟩), .pointer (some ⟨bp, 0, none⟩), .pointer (some ⟨bf, 0, none⟩)]].toArray 93 (0, 0))) memZ z hf hz'
      have hll := leftL_len K
      refine CallsTo.mono (show CallsTo Try.prog 55 [x.val, .pointer (some ⟨bo, 0, none⟩), .pointer (some ⟨bl, 0, none⟩), .pointer (some ⟨bp, 0, none⟩), .pointer (some ⟨bf, 0, none⟩)] w1 _ from m55 p A hi bo bl bm bp bf l.length x none 0 ([], l) w1 (h6.holds _ (mH _ _)) hE1 hnd (by rw [hl]; exact leftL_wf K) (by rw [hok.eq, hxr, hpk]; rfl) (Nat.le_refl _) (by rw [hl]; simp only [List.length_nil]; omega)) ?_
      rintro v w2 ⟨rfl, a6, c6, st⟩
      have h8 := vG_open (h6.did (Sel.head _ _ _) rfl st vG_dep)
      refine LR.back h8 ?_
      clear h8 st hap hE1 h6 h5b h5 h4 h3 h2 h1
      have hvi := view_is (p := (p.R, p.G)) hpk
      have hvl := hvi.len hfr
      have hok2 := pl_ok hck
      rw [← hl] at hvi hvl ⊢
      obtain ⟨s2, hs2⟩ : ∃ s2, s2 = dfsP (p.R, p.G) l.length x ([], l) := ⟨_, rfl⟩
      rw [← hs2] at hvi hvl ⊢
      have hil2 := isP_len s2.1
      have hl4 := hok2.l4
      have hvl : (isP s2.1).length ≤ p.R.length := hvl
      repeat'(first|refine kv' ?_|apply jJ|refine jE' ?_|refine jp' ?_|(apply jc;kernel_rfl)|refine kg' ?_|refine kG' ?_|refine kB' fun _=>?_|refine kA' fun _=>?_|refine kK' fun _=>?_|refine kU' ?_|((first|refine kR' ?_ ?_|refine kQ' ?_ ?_);all_goals(intro hc;try simp only[hcs]at hc;try(exfalso;first|contradiction|omega))))
      apply LR.call
      · exact rfl
      intro w1 h1
      refine CallsTo.mono (show CallsTo Try.prog 56 [.slice a6 s2.1.length c6] w1 _ from sort_few a6 c6 s2.1 w1 (h1.holds (pN a6 s2.1.length c6 s2.1) memZ) (by omega)) ?_
      rintro v w2 ⟨rfl, st⟩
      refine LR.back (h1.did selZ rfl st (osl.dep _ _ _ _ _)) ?_
      clear h1 st
      repeat'(first|refine kv' ?_|apply jJ|refine jE' ?_|refine jp' ?_|(apply jc;kernel_rfl)|refine kg' ?_|refine kG' ?_|refine kB' fun _=>?_|refine kA' fun _=>?_|refine kK' fun _=>?_|refine kU' ?_|((first|refine kR' ?_ ?_|refine kQ' ?_ ?_);all_goals(intro hc;try simp only[hcs]at hc;try(exfalso;first|contradiction|omega))))
      (apply ret1; (· exact rfl); intro w' hS)
      show plR w w' (.slice a6 s2.1.length c6) (isP (dfsP (p.R, p.G) l.length x ([], l)).1)
      rw [← hs2]
      refine ⟨a6, c6, ?_, ?_⟩
      · show Value.slice a6 s2.1.length c6 = Value.slice a6 (isP s2.1).length c6
        rw [hil2]
      · have h9 : pN a6 s2.1.length c6 (isP s2.1) = osl (.slice a6 (isP s2.1).length c6) 44 4 (isP s2.1).length (pcs (isP s2.1)) := by rw [hil2]
        rw [h9] at hS
        exact hS.toNew memZ
end Go.Proofs.Ytgblmkpfkcibiaa

namespace Go.Proofs.Ytgblmkpfkcibiaa
open Go.Hb

def sw1 (st : Int → Int → Bool) (a : Nat) (bs : List Bool) (b : Nat) : List Bool := if bs.getD a false && st a b then bs.set b true else bs
def rowS (st : Int → Int → Bool) (n : Nat) (bs : List Bool) (a : Nat) : List Bool := (List.range n).foldl (sw1 st a) bs
structure Le (bs cs : List Bool) : Prop where
  len : cs.length = bs.length
  le : ∀ i, bs.getD i false = true → cs.getD i false = true
theorem Le.refl (bs : List Bool) : Le bs bs := ⟨rfl, fun _ h => h⟩
theorem Le.trans {a b c : List Bool} (h : Le a b) (h2 : Le b c) : Le a c := ⟨h2.len.trans h.len, fun i hi => h2.le i (h.le i hi)⟩
theorem getD_set {bs : List Bool} {b i : Nat} : (bs.set b true).getD i false = (bs.getD i false || (decide (i = b) && decide (b < bs.length))) := by
  rw [List.getD_eq_getElem?_getD, List.getD_eq_getElem?_getD, List.getElem?_set]
  by_cases h : b = i
  · subst h
    by_cases hl : b < bs.length
    · simp [hl]
    · simp [hl, List.getElem?_eq_none (Nat.le_of_not_lt hl)]
  · have h2 : ¬ i = b := fun e => h e.symm
    simp [h, h2]
theorem Le.sw1 (st : Int → Int → Bool) (a b : Nat) (bs : List Bool) : Le bs (Go.Proofs.Ytgblmkpfkcibiaa.sw1 st a bs b) := by
  unfold Go.Proofs.Ytgblmkpfkcibiaa.sw1
  split
  · exact ⟨by simp, fun i h => by rw [getD_set, h]; rfl⟩
  · exact Le.refl _
theorem Le.fold {α : Type} {f : List Bool → α → List Bool} (hf : ∀ bs x, Le bs (f bs x)) : ∀ (l : List α) (bs : List Bool), Le bs (l.foldl f bs)
  | [], bs => Le.refl _
  | x :: r, bs => (hf bs x).trans (Le.fold hf r _)
theorem Le.row (st : Int → Int → Bool) (n a : Nat) (bs : List Bool) : Le bs (rowS st n bs a) := Le.fold (fun bs b => Le.sw1 st a b bs) _ _
theorem Le.ext {bs cs : List Bool} (h : Le bs cs) (h2 : Le cs bs) : bs = cs := by
  refine List.ext_getElem h.len.symm fun i h1 h3 => ?_
  have a1 := h.le i
  have a2 := h2.le i
  rw [List.getD_eq_getElem?_getD, List.getD_eq_getElem?_getD, List.getElem?_eq_getElem h1, List.getElem?_eq_getElem h3, Option.getD_some, Option.getD_some] at a1 a2
  cases hx : bs[i] <;> cases hy : cs[i] <;> simp_all
def AllR (st : Int → Int → Bool) (fr : Int) (bs : List Bool) : Prop := ∀ i, bs.getD i false = true → Rch st fr (i : Int)
theorem AllR.sw1 {st : Int → Int → Bool} {fr : Int} {bs : List Bool} (h : AllR st fr bs) (a b : Nat) : AllR st fr (Go.Proofs.Ytgblmkpfkcibiaa.sw1 st a bs b) := by
  unfold Go.Proofs.Ytgblmkpfkcibiaa.sw1
  split
  · rename_i hc
    rw [Bool.and_eq_true] at hc
    intro i hi
    rw [getD_set] at hi
    by_cases hib : i = b
    · subst hib; exact (h a hc.1).step hc.2
    · exact h i (by simpa [hib] using hi)
  · exact h
theorem AllR.fold {st : Int → Int → Bool} {fr : Int} {α : Type} {f : List Bool → α → List Bool} (hf : ∀ bs x, AllR st fr bs → AllR st fr (f bs x)) : ∀ (l : List α) (bs : List Bool), AllR st fr bs → AllR st fr (l.foldl f bs)
  | [], bs, h => h
  | x :: r, bs, h => AllR.fold hf r _ (hf bs x h)
end Go.Proofs.Ytgblmkpfkcibiaa

namespace Go.Proofs.Ytgblmkpfkcibiaa
open Go.Hb
attribute [local irreducible] LR CW At Ev thn blk finK noG again CallsTo DW QL dnext TW DP gpost
set_option maxRecDepth 100000

theorem pcs_snoc (O : List Plc) (z : Plc) : pcs (O ++ [z]) = pcs O ++ z.cells := by simp [pcs]
theorem pN_snoc {a : Option Addr} {c : Nat} {O : List Plc} {z : Plc} : pN a (O ++ [z]).length c (O ++ [z]) = osl (.slice a (O.length + 1) c) 44 4 (O.length + 1) (pcs O ++ z.cells) := by
  have h1 : (O ++ [z]).length = O.length + 1 := by simp
  show osl _ _ _ _ (pcs (O ++ [z])) = _
  rw [h1, pcs_snoc]
end Go.Proofs.Ytgblmkpfkcibiaa

namespace Go.Hb
def eq3V : Value → Value → Option Bool
  | .agg ⟨[.int .i64 a, .int .i64 b, .int .i64 c]⟩, .agg ⟨[.int .i64 a', .int .i64 b', .int .i64 c']⟩ => some (decide ([a, b, c] = [a', b', c']))
  | _, _ => none
def eq6V : Value → Value → Option Bool
  | .agg ⟨[.int .i64 a, .int .i64 b, .int .i64 c, .int .i64 d, .int .i64 e, .int .i64 g]⟩, .agg ⟨[.int .i64 a', .int .i64 b', .int .i64 c', .int .i64 d', .int .i64 e', .int .i64 g']⟩ => some (decide ([a, b, c, d, e, g] = [a', b', c', d', e', g']))
  | _, _ => none
theorem eq3V_inv {v u : Value} {r : Bool} (h : eq3V v u = some r) : ∃ xs ys : List Int, v = .agg (xs.map (Value.int .i64)).toArray ∧ u = .agg (ys.map (Value.int .i64)).toArray ∧ xs.length = 3 ∧ ys.length = 3 ∧ r = decide (xs = ys) := by
  unfold eq3V at h; split at h
  · rename_i a b c a' b' c'; cases h; exact ⟨[a, b, c], [a', b', c'], rfl, rfl, rfl, rfl, rfl⟩
  · cases h
theorem eq6V_inv {v u : Value} {r : Bool} (h : eq6V v u = some r) : ∃ xs ys : List Int, v = .agg (xs.map (Value.int .i64)).toArray ∧ u = .agg (ys.map (Value.int .i64)).toArray ∧ xs.length = 6 ∧ ys.length = 6 ∧ r = decide (xs = ys) := by
  unfold eq6V at h; split at h
  · rename_i a b c d e g a' b' c' d' e' g'; cases h; exact ⟨[a, b, c, d, e, g], [a', b', c', d', e', g'], rfl, rfl, rfl, rfl, rfl⟩
  · cases h
instance {P : Program} {T : TypeId} [h : Eqs P T 3] : EqOf P T eq3V where
  eq := fun hb => by obtain ⟨_, _, h1, h2, h3, h4, rfl⟩ := eq3V_inv hb; exact Ev.structs h1 h2 h3 h4
  ne := fun hb => by obtain ⟨_, _, h1, h2, h3, h4, rfl⟩ := eq3V_inv hb; exact Ev.structs_ne h1 h2 h3 h4
instance {P : Program} {T : TypeId} [h : Eqs P T 6] : EqOf P T eq6V where
  eq := fun hb => by obtain ⟨_, _, h1, h2, h3, h4, rfl⟩ := eq6V_inv hb; exact Ev.structs h1 h2 h3 h4
  ne := fun hb => by obtain ⟨_, _, h1, h2, h3, h4, rfl⟩ := eq6V_inv hb; exact Ev.structs_ne h1 h2 h3 h4
end Go.Hb

namespace Go.Hb
theorem zeroCells_one (z : Value) (m : Nat) : (Builtin.zeroCells [z].toArray m).toList = List.replicate m z := by
  simp [Builtin.zeroCells]
  apply List.ext_getElem
  · simp
  · intro i h1 h2
    simp [Nat.mod_one]
theorem run_clear {P : Program} {w : World} {t E ty : TypeId} {z : Value} {by_ : Nat} (h : SliceOf P t E 1 by_) (hz : ZeroOf P E [z]) (h1 : z.oneCell' = true) {a : Option Addr} {n c j : Nat} {xs : List Value} (hw : ownsAt w E 1 (.slice a n c) n xs) (hj : j ≤ n) :
    ∃ w', (Builtin.clear_ #[t] ty #[.slice (subA a c j 1) (n - j) (c - j)]).run P w = .ok (.tuple #[]) w' ∧ Step (odl (.slice a n c) E 1 n xs) (odl (.slice a n c) E 1 n (xs.take j ++ List.replicate (n - j) z)) w w' := by
  obtain ⟨hl, hr⟩ := hw
  have hl' : xs.length = n := by omega
  by_cases hm : n - j = 0
  · refine ⟨w, ?_, ?_⟩
    · rw [hm]
      cases subA a c j 1 <;> simp [Builtin.clear_, run_underlying h.und]
    · have e : xs.take j ++ List.replicate (n - j) z = xs := by rw [hm, List.take_of_length_le (by omega)]; simp
      rw [e]
      exact ⟨St.refl w _, ⟨hl, hr⟩, fun k hk => .inl hk⟩
  · rcases hr with ⟨he, hn0⟩ | ⟨g, o, cap, cur, he, hg, hnc, hcm, hcs, htake⟩
    · omega
    simp only [Value.slice.injEq] at he
    obtain ⟨rfl, _, rfl⟩ := he
    obtain ⟨v, hv, hvc⟩ := hz.zero
    have hsub : subA (some ⟨g, o, none⟩) c j 1 = some ⟨g, o + j, none⟩ := by
      unfold subA
      rw [if_neg (by omega)]
      simp [addr_add]
    have hst := run_storeCells_at P g (o + j) E (List.replicate (n - j) z) 0 cur w (by simpa using hg) (by simp; omega) (fun u hu => by rw [List.eq_of_mem_replicate hu]; exact h1)
    have e : ∀ (D vs : List Value), D.take (o + j + 0) ++ vs ++ D.drop (o + j + 0 + vs.length) = splice D (o + j) vs := fun _ _ => rfl
    rw [e] at hst
    obtain ⟨m, hm'⟩ : ∃ m, n - j = m + 1 := ⟨n - j - 1, by omega⟩
    have hg' : w.heap[g]? = some (.cells cur.toList.toArray E (0, 0)) := by simpa using hg
    have hsz : cur.toList.length = cur.size := Array.length_toList
    refine ⟨w.setRow g (splice cur.toList (o + j) (List.replicate (n - j) z)).toArray, ?_, Keep.setRow w g _ _ E hg rfl, ⟨by simp; omega, .inr ⟨g, o, c, _, rfl, setRow_heap w g _ _ E (0, 0) hg, hnc, hcm, ?_, ?_⟩⟩, fun k hk => .inl hk⟩
    · rw [hsub]
      have hzc := zeroCells_one z (n - j)
      rw [hm'] at hzc hst ⊢
      simp [Builtin.clear_, run_underlying h.und, hv, hvc, hzc, hst]
    · simp [splice]; omega
    · show ((splice cur.toList (o + j) (List.replicate (n - j) z)).drop o).take (n * 1) = _
      rw [splice_drop (by omega), splice_take (by simp; omega) (by simp; omega), htake]
      unfold splice
      rw [List.drop_eq_nil_of_le (by simp; omega), List.append_nil]
section
variable {P : Program} {f : Frm} {T T' : TypeId} {x : Operand} {w0 : World} {F : Nat → Prop} {L L' : List Asrt}
variable {n' : Nat} {ops rest : List Oper} {Q : Post} {p : String} {af : Array Edge}
theorem LR.clear {E : TypeId} {z : Value} {by_ n c j : Nat} {a : Option Addr} {xs : List Value} [h : SliceOf P T E 1 by_] [hz : ZeroOf P E [z]] (hx : f.ev x = .slice (subA a c j 1) (n - j) (c - j)) (h1 : z.oneCell' = true)
    (hs : Sel L (odl (.slice a n c) E 1 n xs) (odl (.slice a n c) E 1 n (xs.take j ++ List.replicate (n - j) z)) L') (hj : j ≤ n)
    (k : LR false P n' ops rest Q f (St w0 F L')) : LR false P n' ops (⟨none, .call ⟨.builtin .clear, [x].toArray, [T].toArray⟩, T', p, af, none⟩ :: rest) Q f (St w0 F L) := by
  intro w hw b hb
  refine wpList_plain rfl fun K hK => ?_
  obtain ⟨w', hr, st⟩ := run_clear (P := P) (ty := T') h hz h1 (hw.holds _ hs.mem) hj
  have hr' : (execOp f.ev ⟨none, .call ⟨.builtin .clear, [x].toArray, [T].toArray⟩, T', p, af, none⟩).run P w = .ok (.value (.tuple #[])) w' := by
    simp only [execOp, resolve, invoke, builtin, Sem.run_bind, Sem.run_pure, Result.andThen_ok, List.map_toArray, List.map_cons, List.map_nil, hx, hr]
  rw [← hb.eval] at hr'
  simp only [Oper.wp, hr', Oper.upon_value]
  exact hK _ _ (k _ (hw.did hs rfl st (odl.dep _ _ _ _ _)) _ (hb.put_none _))
theorem LR.mapUpdate {T : TypeId} {x y z : Operand} {v zv : Value} {q : IntKind} {b : Nat} {l : List (Int × Value)} {key : Int} [h : MapOf P T q zv] (hx : f.ev x = .map (some b)) (hy : f.ev y = .int q key) (hz : f.ev z = v)
    (hs : Sel L (.own b (mapObj q l)) (.own b (mapObj q (l ++ [(key, v)]))) L') (hnew : (findI key l 0).isNone = true)
    (k : LR false P n' ops rest Q f (St w0 F L')) : LR false P n' ops (⟨none, .mapUpdate T x y z, T', p, af, none⟩ :: rest) Q f (St w0 F L) := by
  intro w hw a ha
  refine wpList_plain rfl fun K hK => ?_
  obtain ⟨kt, et, ht, hk, _⟩ := h.ex
  have hb : w.heap[b]? = some (.map (ents q 0 l).toArray l.length) := hw.own_at hs.mem
  have hfind : (Instr.findKey kt (.int q key) (ents q 0 l)).run P w = .ok none w := by
    refine MapKept.run_findKey hk ?_
    rw [findNow_ents]
    cases hf : findI key l 0 with
    | none => rfl
    | some r => rw [hf] at hnew; cases hnew
  have hr : (execOp a.eval ⟨none, .mapUpdate T x y z, T', p, af, none⟩).run P w = .ok .skip { w with heap := w.heap.setIfInBounds b (mapObj q (l ++ [(key, v)])) } := by
    rw [ha.eval]
    have e : Obj.map ((ents q 0 l).toArray.push ⟨.int q key, v, l.length⟩) (l.length + 1) = mapObj q (l ++ [(key, v)]) := by
      simp [mapObj, ents_snoc]
    simp only [execOp, hx, hy, hz, Instr.mapUpdate, Sem.run_bind, run_underlying ht, Result.andThen_ok, MapKept.run_getObj_map hb, MapKept.run_checkKey (k := .int q key) hk (by rfl) _ 9999, hfind, MapKept.run_setObj_map _ hb, e, Sem.run_pure]
  simp only [Oper.wp, hr, Oper.upon_skip]
  have hsz : b < w.heap.size := (Array.getElem?_eq_some_iff.1 hb).1
  refine hK _ _ (k _ ?_ _ (ha.put_none undef))
  exact hw.turn hs rfl (Keep.setObj w b _ rfl) (by show (w.heap.setIfInBounds b _)[b]? = _; simp [hsz]) (fun k hk => .inl hk) (Asrt.dep_own _ _)
end
end Go.Hb

namespace Go.Hb
theorem zeroCells_flat (zs : List Value) (hz : 0 < zs.length) (m : Nat) : (Builtin.zeroCells zs.toArray m).toList = (List.replicate m zs).flatten := by
  rw [← made_flat zs hz m]
  rfl
theorem rep_flat_len (zs : List Value) (m : Nat) : (List.replicate m zs).flatten.length = m * zs.length := by
  induction m with
  | zero => simp
  | succ m ih => rw [List.replicate_succ, List.flatten_cons, List.length_append, ih, Nat.succ_mul]; omega
theorem rep_flat_one {zs : List Value} (h : zs.all Value.oneCell' = true) (m : Nat) : ∀ u ∈ (List.replicate m zs).flatten, u.oneCell' = true := by
  intro u hu
  obtain ⟨l, hl, hu⟩ := List.mem_flatten.1 hu
  rw [List.eq_of_mem_replicate hl] at hu
  exact List.all_eq_true.1 h u hu
theorem run_clearN {P : Program} {w : World} {t E ty : TypeId} {zs : List Value} {sz by_ : Nat} (h : SliceOf P t E sz by_) (hz : ZeroOf P E zs) (h1 : zs.all Value.oneCell' = true) (hzl : zs.length = sz) {a : Option Addr} {n c j : Nat} {xs : List Value} (hw : w.ownsRow 0 E sz (.slice a n c) n xs) (hj : j ≤ n) :
    ∃ w', (Builtin.clear_ #[t] ty #[.slice (subA a c j sz) (n - j) (c - j)]).run P w = .ok (.tuple #[]) w' ∧ Step (osl (.slice a n c) E sz n xs) (osl (.slice a n c) E sz n (xs.take (j * sz) ++ (List.replicate (n - j) zs).flatten)) w w' := by
  have hpos := h.pos
  have hw0 := hw
  obtain ⟨hl, hr⟩ := hw
  by_cases hm : n - j = 0
  · refine ⟨w, ?_, ?_⟩
    · rw [hm]
      cases subA a c j sz <;> simp [Builtin.clear_, run_underlying h.und]
    · have hjn : j = n := by omega
      have e : xs.take (j * sz) ++ (List.replicate (n - j) zs).flatten = xs := by rw [hm, hjn, List.take_of_length_le (by omega)]; simp
      rw [e]
      exact ⟨St.refl w _, hw0, fun k hk => .inl hk⟩
  · rcases hr with ⟨he, hn0⟩ | ⟨g, cap, cur, he, hbg, hg, hnc, hcm, hcs, htake⟩
    · omega
    simp only [Value.slice.injEq] at he
    obtain ⟨rfl, _, rfl⟩ := he
    obtain ⟨v, hv, hvc⟩ := hz.zero
    have hsub : subA (some ⟨g, 0, none⟩) c j sz = some ⟨g, 0 + j * sz, none⟩ := by
      unfold subA
      rw [if_neg (by omega)]
      simp [addr_add]
    have hfl := rep_flat_len zs (n - j)
    rw [hzl] at hfl
    have hnj : j * sz + (n - j) * sz = n * sz := by rw [← Nat.add_mul]; congr 1; omega
    have hsz : cur.toList.length = cur.size := Array.length_toList
    have hnn : n * sz ≤ cur.size := by
      have := congrArg List.length htake
      rw [List.length_take, hl, hsz] at this
      omega
    have hst := run_storeCells_at P g (0 + j * sz) E (List.replicate (n - j) zs).flatten 0 cur w (by simpa using hg) (by rw [hfl]; omega) (rep_flat_one h1 _)
    have e : ∀ (D vs : List Value), D.take (0 + j * sz + 0) ++ vs ++ D.drop (0 + j * sz + 0 + vs.length) = splice D (0 + j * sz) vs := fun _ _ => rfl
    rw [e] at hst
    obtain ⟨m, hm'⟩ : ∃ m, n - j = m + 1 := ⟨n - j - 1, by omega⟩
    have hg' : w.heap[g]? = some (.cells cur.toList.toArray E (0, 0)) := by simpa using hg
    have hspl : (splice cur.toList (0 + j * sz) (List.replicate (n - j) zs).flatten).length = cur.size := by
      unfold splice
      simp only [List.length_append, List.length_take, List.length_drop, hfl, hsz]
      omega
    refine ⟨w.setRow g (splice cur.toList (0 + j * sz) (List.replicate (n - j) zs).flatten).toArray, ?_, Keep.setRow w g _ _ E hg rfl, ⟨?_, .inr ⟨g, c, _, rfl, hbg, setRow_heap w g _ _ E (0, 0) hg, hnc, hcm, ?_, ?_⟩⟩, fun k hk => .inl hk⟩
    · rw [hsub]
      have hzc := zeroCells_flat zs (by omega) (n - j)
      rw [hm'] at hzc hst ⊢
      simp only [Nat.zero_add] at hst ⊢
      simp [Builtin.clear_, run_underlying h.und, hv, hvc, hzc, hst]
    · rw [List.length_append, hfl, List.length_take, hl]; omega
    · rw [List.size_toArray, hspl]; exact hcs
    · show (splice cur.toList (0 + j * sz) (List.replicate (n - j) zs).flatten).take (n * sz) = _
      rw [splice_take (by rw [hfl]; omega) (by omega), htake]
      unfold splice
      rw [Nat.zero_add, List.drop_eq_nil_of_le (by rw [hfl, hl]; omega), List.append_nil]
section
variable {P : Program} {f : Frm} {T T' : TypeId} {x : Operand} {w0 : World} {F : Nat → Prop} {L L' : List Asrt}
variable {n' : Nat} {ops rest : List Oper} {Q : Post} {p : String} {af : Array Edge}
theorem LR.clearN {E : TypeId} {zs : List Value} {by_ sz n c j : Nat} {a : Option Addr} {xs : List Value} [h : SliceOf P T E sz by_] [hz : ZeroOf P E zs] (hx : f.ev x = .slice (subA a c j sz) (n - j) (c - j)) (h1 : zs.all Value.oneCell' = true) (hzl : zs.length = sz)
    (hs : Sel L (osl (.slice a n c) E sz n xs) (osl (.slice a n c) E sz n (xs.take (j * sz) ++ (List.replicate (n - j) zs).flatten)) L') (hj : j ≤ n)
    (k : LR false P n' ops rest Q f (St w0 F L')) : LR false P n' ops (⟨none, .call ⟨.builtin .clear, [x].toArray, [T].toArray⟩, T', p, af, none⟩ :: rest) Q f (St w0 F L) := by
  intro w hw b hb
  refine wpList_plain rfl fun K hK => ?_
  obtain ⟨w', hr, st⟩ := run_clearN (P := P) (ty := T') h hz h1 hzl (hw.holds _ hs.mem) hj
  have hr' : (execOp f.ev ⟨none, .call ⟨.builtin .clear, [x].toArray, [T].toArray⟩, T', p, af, none⟩).run P w = .ok (.value (.tuple #[])) w' := by
    simp only [execOp, resolve, invoke, builtin, Sem.run_bind, Sem.run_pure, Result.andThen_ok, List.map_toArray, List.map_cons, List.map_nil, hx, hr]
  rw [← hb.eval] at hr'
  simp only [Oper.wp, hr', Oper.upon_value]
  exact hK _ _ (k _ (hw.did hs rfl st (osl.dep _ _ _ _ _)) _ (hb.put_none _))
end
theorem ownsRow_cut {w : World} {base E sz n c k : Nat} {a : Option Addr} {xs : List Value} (h : w.ownsRow base E sz (.slice a n c) n xs) (hk : k ≤ n) : w.ownsRow base E sz (.slice a k c) k (xs.take (k * sz)) := by
  obtain ⟨hl, hr⟩ := h
  have hks : k * sz ≤ n * sz := Nat.mul_le_mul_right _ hk
  refine ⟨by rw [List.length_take]; omega, ?_⟩
  rcases hr with ⟨he, hn0⟩ | ⟨g, cap, cur, he, hbg, hg, hnc, hcm, hcs, htake⟩
  · left
    have : k = 0 := by omega
    subst this
    simp only [Value.slice.injEq] at he
    exact ⟨by rw [he.1, he.2.2], rfl⟩
  · right
    simp only [Value.slice.injEq] at he
    refine ⟨g, cap, cur, by rw [he.1, he.2.2], hbg, hg, by omega, hcm, hcs, ?_⟩
    rw [← htake, List.take_take, Nat.min_eq_left hks]
theorem St.osl_cut {w0 w : World} {F : Nat → Prop} {L L' : List Asrt} {E sz n c k : Nat} {a : Option Addr} {xs : List Value} (h : St w0 F L w) (hs : Sel L (osl (.slice a n c) E sz n xs) (osl (.slice a k c) E sz k (xs.take (k * sz))) L') (hk : k ≤ n) : St w0 F L' w :=
  h.turn hs rfl (St.refl w _) (ownsRow_cut (h.holds _ hs.mem) hk) (fun j hj => .inl (by cases a <;> exact hj)) (osl.dep _ _ _ _ _)
end Go.Hb

namespace Go.Proofs.Ytgblmkpfkcibiaa
open Go.Hb
attribute [local irreducible] LR CW At Ev thn blk finK noG again CallsTo DW QL dnext TW DP gpost
set_option maxRecDepth 100000

def orM : List Int → Int
  | [] => 0
  | x :: r => if x ≠ 0 then x else orM r
theorem orM_skip {l : List Int} {i : Nat} (h : i < l.length) (h0 : l[i] = 0) : orM (l.drop i) = orM (l.drop (i + 1)) := by
  rw [List.drop_eq_getElem_cons h, orM, if_neg (by simp [h0])]
theorem orM_hit {l : List Int} {i : Nat} (h : i < l.length) (h0 : ¬ l[i] = 0) : orM (l.drop i) = l[i] := by
  rw [List.drop_eq_getElem_cons h, orM, if_pos h0]
theorem m68 (a : Option Addr) (c : Nat) (l : List Int) (w : World) (hr : Rd w a (iv l)) (hm : l.length ≤ 1000) : CallsTo Try.prog 68 [.slice a l.length c] w fun v w' => v = .int .i64 (orM l) ∧ Grew w w' := by
  refine go_in (n := 18) (St.rd1 hr) Try.func68 rfl rfl ?_
  repeat'(first|refine kv' ?_|apply jJ|refine jE' ?_|refine jp' ?_|(apply jc;kernel_rfl)|refine kg' ?_|refine kG' ?_|refine kB' fun _=>?_|refine kA' fun _=>?_|refine kK' fun _=>?_|refine kU' ?_|((first|refine kR' ?_ ?_|refine kQ' ?_ ?_);all_goals(intro hc;try simp only[hcs]at hc;try(exfalso;first|contradiction|omega))))
  apply CW.loop [2, 5, 8, 9, 10, 11, 12, 13, 14, 15, 16] (fun i : Nat => i ≤ l.length ∧ orM l = orM (l.drop i)) (fun i : Nat => [(8, Value.int .i64 i)]) (fun i => St w NoF [rdA a (iv l)]) (fun i => l.length - i)
  · exact fun w' hw' => ⟨0, ⟨by omega, by simp⟩, ⟨rfl, trivial⟩, hw'⟩
  intro i g ⟨hi, heq⟩
  by_cases hlt : i < l.length
  · obtain ⟨ba, oa, rfl⟩ := hr.form (fun e => by have := congrArg List.length e; simp at this; subst this; simp at hlt)
    repeat'(first|refine kv' ?_|apply jJ|refine jE' ?_|refine jp' ?_|(apply jc;kernel_rfl)|refine kg' ?_|refine kG' ?_|refine kB' fun _=>?_|refine kA' fun _=>?_|refine kK' fun _=>?_|refine kU' ?_|(apply idxX;(iterate 2 exact rfl);(iterate 2(first|omega|(dsimp only;omega)));exact rfl)|(apply LR.ev; (· apply Ev.load_rd; (· exact rfl); (· repeat (first | exact mH _ _ | apply mT)); (· exact iv_at (i := i) (by simp) (by omega))); (· exact rfl))|(apply addX;(iterate 2 exact rfl);(iterate 2(first|omega|(dsimp only;omega)));exact rfl)|((first|refine kR' ?_ ?_|refine kQ' ?_ ?_);all_goals(intro hc;try simp only[hcs]at hc;try(exfalso;first|contradiction|omega))))
    · (apply ret1; (· exact rfl); intro w' hS)
      refine ⟨congrArg (Value.int .i64) ?_, hS.toKeep⟩
      rw [heq, orM_hit hlt hc]
    · apply At.again (i + 1) ⟨by omega, by rw [heq]; exact orM_skip hlt hc⟩
      · (repeat (first | exact Out.refl _ _ | exact Out.mix | (apply Out.upd; (· exact rfl)) | (apply Out.updL; (· exact rfl)) | (apply Out.mixs; (· exact rfl))))
      · exact ⟨rfl, trivial⟩
      · exact fun w' hw' => hw'
      · omega
  · have hie : i = l.length := by omega
    subst hie
    rw [List.drop_length] at heq
    repeat'(first|refine kv' ?_|apply jJ|refine jE' ?_|refine jp' ?_|(apply jc;kernel_rfl)|refine kg' ?_|refine kG' ?_|refine kB' fun _=>?_|refine kA' fun _=>?_|refine kK' fun _=>?_|refine kU' ?_|((first|refine kR' ?_ ?_|refine kQ' ?_ ?_);all_goals(intro hc;try simp only[hcs]at hc;try(exfalso;first|contradiction|omega))))
    (apply ret1; (· exact rfl); intro w' hS)
    exact ⟨by rw [heq]; rfl, hS.toKeep⟩
def ringsM (s r s' r' : Int) : Int := if s = s' then cmpM r r' else cmpM s s'
theorem orM_rings (s r s' r' : Int) : orM [cmpM s s', cmpM r r'] = ringsM s r s' r' := by
  unfold orM orM orM ringsM cmpM
  repeat' split
  all_goals omega
set_option maxHeartbeats 1000000 in
theorem m32 (s r s' r' : Int) (w : World) : CallsTo Try.prog 32 [.agg [.int .i64 s, .int .i64 r].toArray, .agg [.int .i64 s', .int .i64 r'].toArray] w fun v w' => v = .int .i64 (ringsM s r s' r') ∧ Grew w w' := by
  refine go_in (n := 17) (St.refl _ NoF) Try.func32 rfl rfl ?_
  rw [← orM_rings]
  repeat'(first|(apply CW.reg_heldC)|refine kv' ?_|apply jJ|refine jE' ?_|refine jp' ?_|(apply jc;kernel_rfl)|refine kg' ?_|refine kG' ?_|refine kB' fun _=>?_|refine kA' fun _=>?_|refine kK' fun _=>?_|refine kU' ?_|((first|refine kR' ?_ ?_|refine kQ' ?_ ?_);all_goals(intro hc;try simp only[hcs]at hc;try(exfalso;first|contradiction|omega))))
  all_goals (
    apply DW.quiet [0, 1, 2, 3, 5, 6, 7, 8]
    · decide +kernel
    · first | exact fun _ h => h | exact fun _ h => St.sub h subZ
    repeat'(first|refine yv' ?_|refine uv' ?_|refine un' ?_|(refine us' ?_ ?_;all_goals(intro hc;try simp only[hcs]at hc;try(exfalso;first|contradiction|omega)))|apply QL.nil)
    all_goals (show DW _ _ _ _ _ _ _ _))
  all_goals (
    apply DW.loud 4
    · exact rfl
    · decide +kernel
    repeat'(first|refine kg' ?_|refine kG' ?_|apply kM|refine kv' ?_|refine kK' fun _=>?_|refine kU' ?_|refine kB' fun _=>?_|refine kA' fun _=>?_|(apply kq; (· exact rfl); (· intro w1 h1; first | exact CallsTo.q (m69 s s' w1) h1 | exact CallsTo.q (m69 r r' w1) h1 | exact CallsTo.q (m68 _ 2 [cmpM s s', cmpM r r'] w1 (h1.rd_of_blk memZ) (by simp)) h1)))
    all_goals (refine At.stage_same (fun _ h => St.sub h subZ) ?_))
  all_goals (
    apply DW.loud 9
    · exact rfl
    · decide +kernel
    repeat'(first|refine kg' ?_|refine kG' ?_|apply kM|refine kv' ?_|refine kK' fun _=>?_|refine kU' ?_|refine kB' fun _=>?_|refine kA' fun _=>?_|(apply kq; (· exact rfl); (· intro w1 h1; first | exact CallsTo.q (m69 s s' w1) h1 | exact CallsTo.q (m69 r r' w1) h1 | exact CallsTo.q (m68 _ 2 [cmpM s s', cmpM r r'] w1 (h1.rd_of_blk memZ) (by simp)) h1)))
    all_goals (refine At.stage_same (fun _ h => St.sub h subZ) ?_))
  all_goals (
    apply DW.loud 10
    · exact rfl
    · decide +kernel
    repeat'(first|refine kg' ?_|refine kG' ?_|apply kM|refine kv' ?_|refine kK' fun _=>?_|refine kU' ?_|refine kB' fun _=>?_|refine kA' fun _=>?_|(apply kq; (· exact rfl); (· intro w1 h1; first | exact CallsTo.q (m69 s s' w1) h1 | exact CallsTo.q (m69 r r' w1) h1 | exact CallsTo.q (m68 _ 2 [cmpM s s', cmpM r r'] w1 (h1.rd_of_blk memZ) (by simp)) h1)))
    all_goals (refine At.stage_same (fun _ h => St.sub h subZ) ?_))
  all_goals (
    apply DW.loud 11
    · exact rfl
    · decide +kernel
    repeat'(first|refine kg' ?_|refine kG' ?_|apply kM|refine kv' ?_|refine kK' fun _=>?_|refine kU' ?_|refine kB' fun _=>?_|refine kA' fun _=>?_|(apply kq; (· exact rfl); (· intro w1 h1; first | exact CallsTo.q (m69 s s' w1) h1 | exact CallsTo.q (m69 r r' w1) h1 | exact CallsTo.q (m68 _ 2 [cmpM s s', cmpM r r'] w1 (h1.rd_of_blk memZ) (by simp)) h1)))
    all_goals (refine At.stage_same (fun _ h => St.sub h subZ) ?_))
  all_goals (
    apply DW.quiet [12]
    · decide +kernel
    · first | exact fun _ h => h | exact fun _ h => St.sub h subZ
    repeat'(first|refine yv' ?_|refine uv' ?_|refine un' ?_|(refine us' ?_ ?_;all_goals(intro hc;try simp only[hcs]at hc;try(exfalso;first|contradiction|omega)))|apply QL.nil)
    all_goals (show DW _ _ _ _ _ _ _ _))
  all_goals (first | (apply DW.done_thn; (· decide +kernel)) | (apply DW.done; (· decide +kernel)))
  repeat'(first|refine kv' ?_|apply jJ|refine jE' ?_|refine jp' ?_|(apply jc;kernel_rfl)|refine kg' ?_|refine kG' ?_|refine kB' fun _=>?_|refine kA' fun _=>?_|refine kK' fun _=>?_|refine kU' ?_|((first|refine kR' ?_ ?_|refine kQ' ?_ ?_);all_goals(intro hc;try simp only[hcs]at hc;try(exfalso;first|contradiction|omega))))
  (apply ret1; (· exact rfl); intro w' hS)
  exact ⟨rfl, hS.toKeep⟩
def mayP (x : Plc) : Bool := decide (0 ≤ x.ring ∧ x.ring < 4 ∧ ¬(x.seq = 0 ∧ x.rep = 0) ∧ ringE x.seq x.rep = 0) && membersC x.members
end Go.Proofs.Ytgblmkpfkcibiaa

namespace Go.Proofs.Ytgblmkpfkcibiaa
open Go.Hb
attribute [local irreducible] LR CW At Ev thn blk finK noG again CallsTo DW QL dnext TW DP gpost
set_option maxRecDepth 100000

theorem pcs_take (l : List Plc) (k : Nat) (h : k ≤ l.length) : (pcs l).take (k * 4) = pcs (l.take k) := by
  have e : pcs l = pcs (l.take k) ++ pcs (l.drop k) := by unfold pcs; rw [← List.flatMap_append, List.take_append_drop]
  have hl : (pcs (l.take k)).length = k * 4 := by rw [pcs_length, List.length_take]; omega
  rw [e, List.take_append_of_le_length (by omega), List.take_of_length_le (by omega)]
theorem pcs_ones (l : List Plc) : (pcs l).all Value.oneCell' = true := rows_all_one plc_one l
theorem subA0 {b o c sz : Nat} : subA (some ⟨b, o, none⟩) c 0 sz = some ⟨b, o, none⟩ := by
  unfold subA
  split
  · rfl
  · simp [addr_add]
end Go.Proofs.Ytgblmkpfkcibiaa

namespace Go.Proofs.Ytgblmkpfkcibiaa
open Go.Hb
attribute [local irreducible] LR CW At Ev thn blk finK noG again CallsTo DW QL dnext TW DP gpost
set_option maxRecDepth 100000

theorem m62 (K : List Plc) (a : Option Addr) (c : Nat) (w : World) (hk : Rd w a (pcs K)) (hz : a = none → c = 0) (hm : K.length * 32 ≤ 140737488355328) :
    CallsTo Try.prog 62 [.slice a K.length c] w fun v w' => plR w w' v K := by
  refine go_in (n := 8) (St.rd1 hk) Try.func62 rfl rfl ?_
  cases a with
  | none =>
    have hl : K.length = 0 := by have h1 := hk.none_nil; have h2 := pcs_length K; rw [h1, List.length_nil] at h2; omega
    have hK : K = [] := List.eq_nil_of_length_eq_zero hl
    subst hK
    have hc0 := hz rfl
    subst hc0
    repeat'(first|refine kv' ?_|apply jJ|refine jE' ?_|refine jp' ?_|(apply jc;kernel_rfl)|refine kg' ?_|refine kG' ?_|refine kB' fun _=>?_|refine kA' fun _=>?_|refine kK' fun _=>?_|refine kU' ?_|((first|refine kR' ?_ ?_|refine kQ' ?_ ?_);all_goals(intro hc;try simp only[hcs]at hc;try(exfalso;first|contradiction|omega))))
    (apply ret1; (· exact rfl); intro w' hS)
    exact plR_nil w hS.toKeep
  | some ad =>
    repeat'(first|(refine kK' fun bs => ?_)|refine kv' ?_|apply jJ|refine jE' ?_|refine jp' ?_|(apply jc;kernel_rfl)|refine kg' ?_|refine kG' ?_|refine kB' fun _=>?_|refine kA' fun _=>?_|refine kK' fun _=>?_|refine kU' ?_|((first|refine kR' ?_ ?_|refine kQ' ?_ ?_);all_goals(intro hc;try simp only[hcs]at hc;try(exfalso;first|contradiction|omega))))
    refine LR.own_osl (k := 0) (sz := 4) (E := 44) (sH _ _ _) rfl (by unfold maxLen; omega) ?_
    refine LR.append (k := 0) (c := 0) (xs := []) (news := pcs K) (m := K.length) rfl rfl (fun a' c' => by (repeat (first | exact sH _ _ _ | apply sT))) (fun w' hw' => hw'.rd_of memZ) (fun hx => by cases hx) (pcs_length K) (pcs_ones K) (by omega) (by unfold maxLen; omega) rfl fun a2 c2 => ?_
    repeat'(first|refine kv' ?_|apply jJ|refine jE' ?_|refine jp' ?_|(apply jc;kernel_rfl)|refine kg' ?_|refine kG' ?_|refine kB' fun _=>?_|refine kA' fun _=>?_|refine kK' fun _=>?_|refine kU' ?_|((first|refine kR' ?_ ?_|refine kQ' ?_ ?_);all_goals(intro hc;try simp only[hcs]at hc;try(exfalso;first|contradiction|omega))))
    (apply ret1; (· exact rfl); intro w' hS)
    rw [Nat.zero_add, List.nil_append] at hS
    refine ⟨a2, c2, ?_, hS.toNew memZ⟩
    show Value.slice a2 (0 + K.length) c2 = _
    rw [Nat.zero_add]
def anyR (K : List Plc) (x : Plc) : Bool := K.any fun y => decide (y.ring = x.ring) && decide (0 ≤ ringsM y.seq y.rep x.seq x.rep)
def takesP (K : List Plc) (x : Plc) : Bool := mayP x && !anyR K x
def keepP (tk : Bool) (x y : Plc) : Bool := !tk || decide (y.ring ≠ x.ring)
def lrnL (K : List Plc) (x : Plc) : List Plc := K.filter (keepP (takesP K x) x) ++ if takesP K x then [x] else []
def lrnP (K : List Plc) (x : Plc) : List Plc := isP (lrnL K x)
theorem any_take {α : Type} (l : List α) (f : α → Bool) {k : Nat} (h : k < l.length) : (l.take (k + 1)).any f = ((l.take k).any f || f (l[k]'h)) := by
  rw [List.take_add_one, List.getElem?_eq_getElem h, List.any_append]; simp
theorem filter_take {α : Type} (l : List α) (f : α → Bool) {k : Nat} (h : k < l.length) : (l.take (k + 1)).filter f = (l.take k).filter f ++ if f (l[k]'h) then [l[k]'h] else [] := by
  rw [List.take_add_one, List.getElem?_eq_getElem h, List.filter_append]
  congr 1
  show [l[k]].filter f = _
  rw [List.filter_cons]
  rfl
theorem plc_val (x : Plc) : x.val = .agg [.int .i64 x.ring, .int .i64 x.seq, .int .i64 x.rep, .int .i64 x.members].toArray := rfl
end Go.Proofs.Ytgblmkpfkcibiaa

namespace Go.Proofs.Ytgblmkpfkcibiaa
open Go.Hb
attribute [local irreducible] LR CW At Ev thn blk finK noG again CallsTo DW QL dnext TW DP gpost
set_option maxRecDepth 100000

theorem m64 (y x : Plc) (bx : Nat) (w : World) (h : Rd w (some ⟨bx, 0, none⟩) x.cells) : CallsTo Try.prog 64 [y.val, .pointer (some ⟨bx, 0, none⟩)] w fun v w' => v = .bool (decide (y.ring = x.ring)) ∧ Grew w w' := by
  refine go_in (n := 9) (St.rd1 h) Try.func64 rfl rfl ?_
  repeat'(first|refine kv' ?_|apply jJ|refine jE' ?_|refine jp' ?_|(apply jc;kernel_rfl)|refine kg' ?_|refine kG' ?_|refine kB' fun _=>?_|refine kA' fun _=>?_|refine kK' fun _=>?_|refine kU' ?_|((first|refine kR' ?_ ?_|refine kQ' ?_ ?_);all_goals(intro hc;try simp only[hcs]at hc;try(exfalso;first|contradiction|omega))))
  (apply ret1; (· exact rfl); intro w' hS)
  exact ⟨rfl, hS.toKeep⟩
theorem m88 (a : Option Addr) (c : Nat) (D : List Plc) (x : Plc) (bx : Nat) (w : World) (hk : Rd w a (pcs D)) (hb : Rd w (some ⟨bx, 0, none⟩) x.cells) (hm : D.length ≤ 140737488355328)
    (i0 : Nat) (h0 : i0 ≤ D.length) (hno : ∀ k, (hk : k < i0) → ¬ (D[k]'(by omega)).ring = x.ring) (hend : (h : i0 < D.length) → (D[i0]'h).ring = x.ring) :
    CallsTo Try.prog 88 [.slice a D.length c, .func (.func 64) #[] #[.pointer (some ⟨bx, 0, none⟩)]] w fun v w' => v = .int .i64 (if i0 < D.length then (i0 : Int) else -1) ∧ Grew w w' := by
  refine go_in (n := 19) ((St.rd1 hk).addRd hb (fun _ _ h => h)) Try.func88 rfl rfl ?_
  repeat'(first|refine kv' ?_|apply jJ|refine jE' ?_|refine jp' ?_|(apply jc;kernel_rfl)|refine kg' ?_|refine kG' ?_|refine kB' fun _=>?_|refine kA' fun _=>?_|refine kK' fun _=>?_|refine kU' ?_|((first|refine kR' ?_ ?_|refine kQ' ?_ ?_);all_goals(intro hc;try simp only[hcs]at hc;try(exfalso;first|contradiction|omega))))
  apply CW.loop [4, 5, 8, 9, 10, 11, 12, 13, 14, 15, 16, 17, 18] (fun i : Nat => i ≤ i0) (fun i => [(8, .int .i64 (i : Int))]) (fun _ => St w NoF [rdA (some ⟨bx, 0, none⟩) x.cells, rdA a (pcs D)]) (fun i => i0 - i)
  · exact fun w' hw' => ⟨0, by omega, ⟨rfl, trivial⟩, hw'⟩
  intro i g hi
  by_cases hlt : i < D.length
  · obtain ⟨ba, oa, rfl⟩ := hk.form (fun e => by have h1 := congrArg List.length e; rw [pcs_length, List.length_nil] at h1; omega)
    obtain ⟨y, hy⟩ : ∃ y, D[i] = y := ⟨_, rfl⟩
    have hly : D[i]? = some y := by rw [List.getElem?_eq_getElem hlt, hy]
    by_cases hx : y.ring = x.ring
    · have hie : i = i0 := by
        rcases Nat.lt_or_ge i i0 with h | h
        · exact absurd (by rw [hy]; exact hx) (hno i h)
        · omega
      subst hie
      rw [if_pos hlt]
      repeat'(first|(apply LR.ev; (· apply Ev.load_agg_at (cs := y.cells); (· exact rfl); (· exact rfl); (· intro w' hw'; refine pcs_cell (x := y) (hw'.rd_of memZ) hly ?_; (· simp; done))); (· exact rfl))|refine kv' ?_|apply jJ|refine jE' ?_|refine jp' ?_|(apply jc;kernel_rfl)|refine kg' ?_|refine kG' ?_|refine kB' fun _=>?_|refine kA' fun _=>?_|refine kK' fun _=>?_|refine kU' ?_|(apply idxX;(iterate 2 exact rfl);(iterate 2(first|omega|(dsimp only;omega)));exact rfl)|(apply LR.qcall_val (g := 64) (cap := [.pointer (some ⟨bx, 0, none⟩)]) (v := .bool true); (· exact rfl); (· exact rfl); (· intro w1 h1; have hq := CallsTo.q (m64 y x bx w1 (h1.rd_of memZ)) h1; rw [decide_eq_true hx] at hq; exact hq))|((first|refine kR' ?_ ?_|refine kQ' ?_ ?_);all_goals(intro hc;try simp only[hcs]at hc;try(exfalso;first|contradiction|omega))))
      (apply ret1; (· exact rfl); intro w' hS)
      exact ⟨rfl, hS.toKeep⟩
    · have hlt2 : i < i0 := by
        rcases Nat.lt_or_ge i i0 with h | h
        · exact h
        · have e : i = i0 := by omega
          subst e
          exact absurd (by rw [← hy]; exact hend hlt) hx
      repeat'(first|(apply LR.ev; (· apply Ev.load_agg_at (cs := y.cells); (· exact rfl); (· exact rfl); (· intro w' hw'; refine pcs_cell (x := y) (hw'.rd_of memZ) hly ?_; (· simp; done))); (· exact rfl))|refine kv' ?_|apply jJ|refine jE' ?_|refine jp' ?_|(apply jc;kernel_rfl)|refine kg' ?_|refine kG' ?_|refine kB' fun _=>?_|refine kA' fun _=>?_|refine kK' fun _=>?_|refine kU' ?_|(apply idxX;(iterate 2 exact rfl);(iterate 2(first|omega|(dsimp only;omega)));exact rfl)|(apply addX;(iterate 2 exact rfl);(iterate 2(first|omega|(dsimp only;omega)));exact rfl)|(apply LR.qcall_val (g := 64) (cap := [.pointer (some ⟨bx, 0, none⟩)]) (v := .bool false); (· exact rfl); (· exact rfl); (· intro w1 h1; have hq := CallsTo.q (m64 y x bx w1 (h1.rd_of memZ)) h1; rw [decide_eq_false hx] at hq; exact hq))|((first|refine kR' ?_ ?_|refine kQ' ?_ ?_);all_goals(intro hc;try simp only[hcs]at hc;try(exfalso;first|contradiction|omega))))
      refine At.again (i + 1) (by omega) ?_ ⟨rfl, trivial⟩ (fun w' hw' => hw') (by omega)
      (repeat (first | exact Out.refl _ _ | exact Out.mix | (apply Out.upd; (· exact rfl)) | (apply Out.updL; (· exact rfl)) | (apply Out.mixs; (· exact rfl))))
  · have hie : i = D.length := by omega
    subst hie
    rw [if_neg (by omega)]
    repeat'(first|refine kv' ?_|apply jJ|refine jE' ?_|refine jp' ?_|(apply jc;kernel_rfl)|refine kg' ?_|refine kG' ?_|refine kB' fun _=>?_|refine kA' fun _=>?_|refine kK' fun _=>?_|refine kU' ?_|((first|refine kR' ?_ ?_|refine kQ' ?_ ?_);all_goals(intro hc;try simp only[hcs]at hc;try(exfalso;first|contradiction|omega))))
    (apply ret1; (· exact rfl); intro w' hS)
    exact ⟨rfl, hS.toKeep⟩
def noP (D : List Plc) (r : Int) : List Plc := D.filter fun y => decide (y.ring ≠ r)
theorem noP_len (D : List Plc) (r : Int) : (noP D r).length ≤ D.length := List.length_filter_le _ _
theorem first_of (D : List Plc) (r : Int) : ∃ i0, i0 ≤ D.length ∧ (∀ k, k < i0 → ∀ y, D[k]? = some y → ¬ y.ring = r) ∧ (∀ y, D[i0]? = some y → y.ring = r) := by
  induction D with
  | nil => exact ⟨0, Nat.le_refl _, fun k hk => by omega, fun y hy => by cases hy⟩
  | cons z D ih =>
    by_cases hz : z.ring = r
    · exact ⟨0, Nat.zero_le _, fun k hk => by omega, fun y hy => by simp at hy; rw [← hy]; exact hz⟩
    · obtain ⟨i, h1, h2, h3⟩ := ih
      refine ⟨i + 1, by simp; omega, fun k hk y hy => ?_, fun y hy => h3 y (by simpa using hy)⟩
      cases k with
      | zero => simp at hy; rw [← hy]; exact hz
      | succ k => exact h2 k (by omega) y (by simpa using hy)
structure DelI (D : List Plc) (r : Int) (j i : Nat) (D' : List Plc) : Prop where
  ij : i < j
  jl : j ≤ D.length
  len : D'.length = D.length
  pre : D'.take i = noP (D.take j) r
  suf : ∀ k, j ≤ k → D'[k]? = D[k]?
theorem DelI.skip {D D' : List Plc} {r : Int} {j i : Nat} (h : DelI D r j i D') (hj : j < D.length) (hx : (D[j]'hj).ring = r) : DelI D r (j + 1) i D' := by
  refine ⟨by have := h.ij; omega, hj, h.len, ?_, fun k hk => h.suf k (by omega)⟩
  rw [h.pre]
  unfold noP
  rw [filter_take D _ hj, if_neg (by simp [hx]), List.append_nil]
theorem DelI.keep {D D' : List Plc} {r : Int} {j i : Nat} (h : DelI D r j i D') (hj : j < D.length) (hx : ¬ (D[j]'hj).ring = r) : DelI D r (j + 1) (i + 1) (D'.set i (D[j]'hj)) := by
  have hij := h.ij
  have hl := h.len
  refine ⟨by omega, hj, by rw [List.length_set]; exact hl, ?_, fun k hk => ?_⟩
  · rw [List.take_add_one, List.getElem?_set_self (by omega), List.take_set_of_le (Nat.le_refl _), h.pre]
    unfold noP
    rw [filter_take D _ hj, if_pos (by simp [hx])]
    rfl
  · rw [List.getElem?_set_ne (by omega)]
    exact h.suf k (by omega)
set_option maxHeartbeats 2000000 in
theorem m63 (a : Option Addr) (c : Nat) (D : List Plc) (x : Plc) (bx : Nat) (w : World) (h : (pN a D.length c D).holds w) (hb : Rd w (some ⟨bx, 0, none⟩) x.cells) (hd : ∀ k, rdFoot (some ⟨bx, 0, none⟩) x.cells k → ¬ (pN a D.length c D).foot k) (hm : D.length ≤ 140737488355328) :
    CallsTo Try.prog 63 [.slice a D.length c, .func (.func 64) #[] #[.pointer (some ⟨bx, 0, none⟩)]] w fun v w' => v = .slice a (noP D x.ring).length c ∧ Step (pN a D.length c D) (pN a (noP D x.ring).length c (noP D x.ring)) w w' := by
  have hown : w.ownsRow 0 44 4 (.slice a D.length c) D.length (pcs D) := h
  have hcap := ownsRow_cap hown
  have hS0 : St w (pN a D.length c D).foot [rdA (some ⟨bx, 0, none⟩) x.cells, pN a D.length c D] w := (St.one h (fun k hk => (World.ownsRow.lt h k hk).2) (osl.dep _ _ _ _ _)).addRd hb hd
  generalize hF : (pN a D.length c D).foot = F at *
  refine go_in (n := 42) hS0 Try.func63 rfl rfl ?_
  obtain ⟨i0, hi0, hno, hend⟩ := first_of D x.ring
  have h88 : ∀ w1, St w F [rdA (some ⟨bx, 0, none⟩) x.cells, pN a D.length c D] w1 → CallsTo Try.prog 88 [.slice a D.length c, .func (.func 64) #[] #[.pointer (some ⟨bx, 0, none⟩)]] w1 fun v w' => v = .int .i64 (if i0 < D.length then (i0 : Int) else -1) ∧ St w F [rdA (some ⟨bx, 0, none⟩) x.cells, pN a D.length c D] w' := fun w1 h1 =>
    CallsTo.q (m88 a c D x bx w1 (h1.rd_of_own memZ) (h1.rd_of memZ) hm i0 hi0 (fun k hk => hno k hk _ (List.getElem?_eq_getElem (by omega))) (fun hh => hend _ (List.getElem?_eq_getElem hh))) h1
  by_cases hlt : i0 < D.length
  rotate_left
  · rw [if_neg hlt] at h88
    have hnn : noP D x.ring = D := by
      unfold noP
      rw [List.filter_eq_self]
      intro y hy
      obtain ⟨k, hk, rfl⟩ := List.getElem_of_mem hy
      have := hno k (by omega) _ (List.getElem?_eq_getElem hk)
      simpa using this
    rw [hnn]
    repeat'(first|refine kv' ?_|apply jJ|refine jE' ?_|refine jp' ?_|(apply jc;kernel_rfl)|refine kg' ?_|refine kG' ?_|refine kB' fun _=>?_|refine kA' fun _=>?_|refine kK' fun _=>?_|refine kU' ?_|(apply kq; (· exact rfl); (· intro w1 h1; exact h88 w1 h1))|((first|refine kR' ?_ ?_|refine kQ' ?_ ?_);all_goals(intro hc;try simp only[hcs]at hc;try(exfalso;first|contradiction|omega))))
    (apply ret1; (· exact rfl); intro w' hS)
    subst hF
    exact ⟨rfl, (hS.sub (L' := [pN a D.length c D]) subZ).step rfl⟩
  rw [if_pos hlt] at h88
  obtain ⟨ba, oa, rfl⟩ := (ownsRow_rd hown).form (fun e => by have h1 := congrArg List.length e; rw [pcs_length, List.length_nil] at h1; omega)
  have hI0 : DelI D x.ring (i0 + 1) i0 D := by
    refine ⟨by omega, by omega, rfl, ?_, fun k hk => rfl⟩
    unfold noP
    rw [filter_take D _ hlt, if_neg (by have := hend _ (List.getElem?_eq_getElem hlt); simp [this]), List.append_nil, eq_comm, List.filter_eq_self]
    intro y hy
    obtain ⟨k, hk, rfl⟩ := List.getElem_of_mem hy
    rw [List.length_take] at hk
    rw [List.getElem_take]
    have := hno k (by omega) _ (List.getElem?_eq_getElem (by omega))
    simpa using this
  repeat'(first|refine kv' ?_|apply jJ|refine jE' ?_|refine jp' ?_|(apply jc;kernel_rfl)|refine kg' ?_|refine kG' ?_|refine kB' fun _=>?_|refine kA' fun _=>?_|refine kK' fun _=>?_|refine kU' ?_|(apply addX;(iterate 2 exact rfl);(iterate 2(first|omega|(dsimp only;omega)));exact rfl)|(apply kq; (· exact rfl); (· intro w1 h1; exact h88 w1 h1))|((first|refine kR' ?_ ?_|refine kQ' ?_ ?_);all_goals(intro hc;try simp only[hcs]at hc;try(exfalso;first|contradiction|omega))))
  apply CW.loop [5, 6, 7, 16, 17, 18, 19, 20, 21, 22, 23, 24, 25, 26, 27, 28, 29, 30, 31, 32, 33, 34, 35] (fun s : Nat × Nat × List Plc => DelI D x.ring s.1 s.2.1 s.2.2) (fun s => [(5, .int .i64 (s.2.1 : Int)), (6, .int .i64 (s.1 : Int))])
    (fun s => St w F [rdA (some ⟨bx, 0, none⟩) x.cells, pN (some ⟨ba, oa, none⟩) D.length c s.2.2]) (fun s => D.length - s.1)
  · exact fun w' hw' => ⟨(i0 + 1, i0, D), hI0, ⟨rfl, rfl, trivial⟩, hw'⟩
  rintro ⟨j, i, D'⟩ g hI
  simp only at hI ⊢
  have hij := hI.ij
  have hjl := hI.jl
  have hDl := hI.len
  by_cases hlt2 : j < D.length
  · obtain ⟨y, hy⟩ : ∃ y, D[j] = y := ⟨_, rfl⟩
    have hly : D'[j]? = some y := by rw [hI.suf j (Nat.le_refl _), List.getElem?_eq_getElem hlt2, hy]
    have hskip := hI.skip hlt2
    have hkeep := hI.keep hlt2
    rw [hy] at hskip hkeep
    by_cases hx : y.ring = x.ring
    · have hskip := hskip hx
      repeat'(first|(apply LR.ev; (· apply Ev.load_agg_at (cs := [Value.int .i64 y.ring, .int .i64 y.seq, .int .i64 y.rep, .int .i64 y.members]); (· exact rfl); (· exact rfl); (· intro w' hw'; refine pcs_cell (x := y) (hw'.rd_of_own memZ) hly ?_; (· simp; done))); (· exact rfl))|refine kv' ?_|apply jJ|refine jE' ?_|refine jp' ?_|(apply jc;kernel_rfl)|refine kg' ?_|refine kG' ?_|refine kB' fun _=>?_|refine kA' fun _=>?_|refine kK' fun _=>?_|refine kU' ?_|(apply idxX;(iterate 2 exact rfl);(iterate 2(first|omega|(dsimp only;omega)));exact rfl)|(apply addX;(iterate 2 exact rfl);(iterate 2(first|omega|(dsimp only;omega)));exact rfl)|(apply LR.qcall_val (g := 64) (cap := [.pointer (some ⟨bx, 0, none⟩)]) (v := .bool true); (· exact rfl); (· exact rfl); (· intro w1 h1; have hq := CallsTo.q (m64 y x bx w1 (h1.rd_of memZ)) h1; rw [decide_eq_true hx] at hq; exact hq))|((first|refine kR' ?_ ?_|refine kQ' ?_ ?_);all_goals(intro hc;try simp only[hcs]at hc;try(exfalso;first|contradiction|omega))))
      refine At.again (j + 1, i, D') hskip ?_ ⟨rfl, rfl, trivial⟩ (fun w' hw' => hw'.sub subZ) (by show D.length - (j + 1) < D.length - j; omega)
      (repeat (first | exact Out.refl _ _ | exact Out.mix | (apply Out.upd; (· exact rfl)) | (apply Out.updL; (· exact rfl)) | (apply Out.mixs; (· exact rfl))))
    · have hkeep := hkeep hx
      repeat'(first|(apply LR.ev; (· apply Ev.load_agg_at (cs := [Value.int .i64 y.ring, .int .i64 y.seq, .int .i64 y.rep, .int .i64 y.members]); (· exact rfl); (· exact rfl); (· intro w' hw'; refine pcs_cell (x := y) (hw'.rd_of_own memZ) hly ?_; (· simp; done))); (· exact rfl))|refine kv' ?_|apply jJ|refine jE' ?_|refine jp' ?_|(apply jc;kernel_rfl)|refine kg' ?_|refine kG' ?_|refine kB' fun _=>?_|refine kA' fun _=>?_|refine kK' fun _=>?_|refine kU' ?_|(apply idxX;(iterate 2 exact rfl);(iterate 2(first|omega|(dsimp only;omega)));exact rfl)|(apply addX;(iterate 2 exact rfl);(iterate 2(first|omega|(dsimp only;omega)));exact rfl)|(apply LR.qcall_val (g := 64) (cap := [.pointer (some ⟨bx, 0, none⟩)]) (v := .bool false); (· exact rfl); (· exact rfl); (· intro w1 h1; have hq := CallsTo.q (m64 y x bx w1 (h1.rd_of memZ)) h1; rw [decide_eq_false hx] at hq; exact hq))|((first|refine kR' ?_ ?_|refine kQ' ?_ ?_);all_goals(intro hc;try simp only[hcs]at hc;try(exfalso;first|contradiction|omega))))
      refine LR.store_obj (v := y.val) rfl rfl (Sel.tail _ (Sel.tail _ (Sel.head _ _ _))) rfl (put_plc (l := D') y (k := i) (by omega) (by omega)) (osl.dep _ _ _ _ _) ?_
      repeat'(first|refine kv' ?_|apply jJ|refine jE' ?_|refine jp' ?_|(apply jc;kernel_rfl)|refine kg' ?_|refine kG' ?_|refine kB' fun _=>?_|refine kA' fun _=>?_|refine kK' fun _=>?_|refine kU' ?_|(apply addX;(iterate 2 exact rfl);(iterate 2(first|omega|(dsimp only;omega)));exact rfl)|((first|refine kR' ?_ ?_|refine kQ' ?_ ?_);all_goals(intro hc;try simp only[hcs]at hc;try(exfalso;first|contradiction|omega))))
      refine At.again (j + 1, i + 1, D'.set i y) hkeep ?_ ⟨?_, rfl, trivial⟩ (fun w' hw' => hw'.sub subZ) (by show D.length - (j + 1) < D.length - j; omega)
      · (repeat (first | exact Out.refl _ _ | exact Out.mix | (apply Out.upd; (· exact rfl)) | (apply Out.updL; (· exact rfl)) | (apply Out.mixs; (· exact rfl))))
      · exact congrArg (Value.int .i64) (show (i : Int) + 1 = ((i + 1 : Nat) : Int) by omega)
  have hje : j = D.length := by omega
  subst hje
  have hpre := hI.pre
  rw [List.take_length] at hpre
  have hil : i = (noP D x.ring).length := by
    have := congrArg List.length hpre
    rw [List.length_take] at this
    omega
  have hsl : Value.slice (subA (some ⟨ba, oa, none⟩) c i 4) (D.length - i) (c - i) = Value.slice (subA (some ⟨ba, oa, none⟩) c i 4) (D.length - i) (c - i) := rfl
  repeat'(first|refine kv' ?_|apply jJ|refine jE' ?_|refine jp' ?_|(apply jc;kernel_rfl)|refine kg' ?_|refine kG' ?_|refine kB' fun _=>?_|refine kA' fun _=>?_|refine kK' fun _=>?_|refine kU' ?_|(apply LR.ev; (· apply Ev.slice_lo; (· exact rfl); (· exact rfl); (· omega); (· omega)); (· exact rfl))|((first|refine kR' ?_ ?_|refine kQ' ?_ ?_);all_goals(intro hc;try simp only[hcs]at hc;try(exfalso;first|contradiction|omega))))
  refine LR.clearN (E := 44) (sz := 4) (zs := [.int .i64 0, .int .i64 0, .int .i64 0, .int .i64 0]) (n := D.length) (c := c) (j := i) (a := some ⟨ba, oa, none⟩) (xs := pcs D') rfl rfl rfl (Sel.tail _ (Sel.head _ _ _)) (by omega) ?_
  repeat'(first|refine kv' ?_|apply jJ|refine jE' ?_|refine jp' ?_|(apply jc;kernel_rfl)|refine kg' ?_|refine kG' ?_|refine kB' fun _=>?_|refine kA' fun _=>?_|refine kK' fun _=>?_|refine kU' ?_|(apply LR.ev; (· apply Ev.slice_hi; (· exact rfl); (· exact rfl); (· omega); (· omega)); (· exact rfl))|((first|refine kR' ?_ ?_|refine kQ' ?_ ?_);all_goals(intro hc;try simp only[hcs]at hc;try(exfalso;first|contradiction|omega))))
  (apply ret1; (· exact rfl); intro w' hS)
  have h2 := St.osl_cut (k := i) hS (Sel.tail _ (Sel.head _ _ _)) (by omega)
  have h3 : ((pcs D').take (i * 4) ++ (List.replicate (D.length - i) [Value.int .i64 0, .int .i64 0, .int .i64 0, .int .i64 0]).flatten).take (i * 4) = pcs (noP D x.ring) := by
    rw [pcs_take D' i (by omega), hpre, List.take_append_of_le_length (by rw [pcs_length]; omega), List.take_of_length_le (by rw [pcs_length]; omega)]
  rw [h3] at h2
  subst hF
  rw [← hil]
  refine ⟨?_, (h2.sub (L' := [pN (some ⟨ba, oa, none⟩) i c (noP D x.ring)]) subZ).step rfl⟩
  show Value.slice (subA (some ⟨ba, oa, none⟩) c 0 4) (i : Int).toNat c = _
  rw [subA0]
  rfl
end Go.Proofs.Ytgblmkpfkcibiaa

namespace Go.Proofs.Ytgblmkpfkcibiaa
open Go.Hb
attribute [local irreducible] LR CW At Ev thn blk finK noG again CallsTo DW QL dnext TW DP gpost
set_option maxRecDepth 100000

theorem lrn_yes {K : List Plc} {x : Plc} (h : takesP K x = true) : lrnL K x = noP K x.ring ++ [x] := by
  unfold lrnL noP
  rw [h]
  congr 1
theorem lrn_no {K : List Plc} {x : Plc} (h : takesP K x = false) : lrnL K x = K := by
  unfold lrnL
  rw [h, if_neg (by simp), List.append_nil, List.filter_eq_self]
  intro y _
  rfl
theorem lrnL_len (K : List Plc) (x : Plc) : (lrnL K x).length ≤ K.length + 1 := by
  cases h : takesP K x with
  | true => rw [lrn_yes h, List.length_append]; have := noP_len K x.ring; simp; omega
  | false => rw [lrn_no h]; omega
set_option maxHeartbeats 2000000 in
theorem m27 {N : Nat} (hN : SortTo N) (K : List Plc) (a : Option Addr) (c : Nat) (x : Plc) (w : World) (hk : Rd w a (pcs K)) (hz : a = none → c = 0) (hm : (K.length + 1) * 32 ≤ 140737488355328) (hKN : K.length + 1 ≤ N) (hxm : i64P x.members) :
    CallsTo Try.prog 27 [.slice a K.length c, x.val] w fun v w' => plR w w' v (lrnP K x) := by
  refine go_in (n := 66) (St.rd1 hk) Try.func27 rfl rfl ?_
  rw [plc_val]
  repeat'(first|(refine kB' fun bx => ?_)|refine kv' ?_|apply jJ|refine jE' ?_|refine jp' ?_|(apply jc;kernel_rfl)|refine kg' ?_|refine kG' ?_|refine kB' fun _=>?_|refine kA' fun _=>?_|refine kK' fun _=>?_|refine kU' ?_|(apply kq; (· exact rfl); (· intro w1 h1; first | exact CallsTo.q (show CallsTo Try.prog 60 [.agg [.int .i64 x.seq, .int .i64 x.rep].toArray] w1 _ from c81 x.seq x.rep w1) h1 | exact CallsTo.q (m61 x.members w1 hxm) h1))|((first|refine kR' ?_ ?_|refine kQ' ?_ ?_);all_goals(intro hc;try simp only[hcs]at hc;try(exfalso;first|contradiction|omega))))
  all_goals (
    apply CW.loop [5, 7, 36, 37, 38, 39, 40, 41, 42, 43, 44, 45, 46, 47, 48, 49, 50, 51, 52, 53] (fun i : Nat => i ≤ K.length) (fun i => [(5, .bool (mayP x && !anyR (K.take i) x)), (36, .int .i64 (i : Int))])
      (fun _ => St w NoF [.own bx (.cells [Value.int .i64 x.ring, .int .i64 x.seq, .int .i64 x.rep, .int .i64 x.members].toArray 44 (0, 0)), rdA a (pcs K)]) (fun i => K.length - i)
    · refine fun w' hw' => ⟨0, by omega, ⟨?_, rfl, trivial⟩, hw'⟩
      refine congrArg Value.bool ?_
      simp only [List.take_zero]
      rw [show anyR [] x = false from rfl]
      unfold mayP
      clear hw' hk
      first | (simp_all; done) | (simp_all; omega)
    intro i g hi
    by_cases hlt : i < K.length
    · obtain ⟨ba, oa, rfl⟩ := hk.form (fun e => by have h1 := congrArg List.length e; rw [pcs_length, List.length_nil] at h1; omega)
      obtain ⟨y, hy⟩ : ∃ y, K[i] = y := ⟨_, rfl⟩
      have hly : K[i]? = some y := by rw [List.getElem?_eq_getElem hlt, hy]
      have hat : anyR (K.take (i + 1)) x = (anyR (K.take i) x || (decide (y.ring = x.ring) && decide (0 ≤ ringsM y.seq y.rep x.seq x.rep))) := by
        unfold anyR
        rw [any_take K _ hlt, hy]
      generalize anyR (K.take i) x = tk at hat ⊢
      repeat'(first|(apply LR.ev; (· apply Ev.load_agg_at (cs := [Value.int .i64 y.ring, .int .i64 y.seq, .int .i64 y.rep, .int .i64 y.members]); (· exact rfl); (· exact rfl); (· intro w' hw'; refine pcs_cell (x := y) (hw'.rd_of memZ) hly ?_; (· simp; done))); (· exact rfl))|refine kv' ?_|apply jJ|refine jE' ?_|refine jp' ?_|(apply jc;kernel_rfl)|refine kg' ?_|refine kG' ?_|refine kB' fun _=>?_|refine kA' fun _=>?_|refine kK' fun _=>?_|refine kU' ?_|(apply idxX;(iterate 2 exact rfl);(iterate 2(first|omega|(dsimp only;omega)));exact rfl)|(apply kq; (· exact rfl); (· intro w1 h1; exact CallsTo.q (m32 y.seq y.rep x.seq x.rep w1) h1))|(apply addX;(iterate 2 exact rfl);(iterate 2(first|omega|(dsimp only;omega)));exact rfl)|((first|refine kR' ?_ ?_|refine kQ' ?_ ?_);all_goals(intro hc;try simp only[hcs]at hc;try(exfalso;first|contradiction|omega))))
      all_goals (
        refine At.again (i + 1) (by omega) ?_ ⟨?_, rfl, trivial⟩ (fun w' hw' => hw'.sub subZ) (by omega)
        · (repeat (first | exact Out.refl _ _ | exact Out.mix | (apply Out.upd; (· exact rfl)) | (apply Out.updL; (· exact rfl)) | (apply Out.mixs; (· exact rfl))))
        · rw [hat]
          first
            | (have h1 : 0 ≤ ringsM y.seq y.rep x.seq x.rep := by assumption
               rw [decide_eq_true h1, decide_eq_true (show y.ring = x.ring by assumption), Bool.and_self, Bool.or_true, Bool.not_true, Bool.and_false]
               rfl)
            | (rw [decide_eq_false (show ¬ y.ring = x.ring by assumption), Bool.false_and, Bool.or_false]; rfl)
            | (rw [decide_eq_false (show ¬ 0 ≤ ringsM y.seq y.rep x.seq x.rep by omega), Bool.and_false, Bool.or_false]; rfl))
    have hie : i = K.length := by omega
    subst hie
    rw [List.take_length]
    show CW _ _ _ _ (updL (mix _ _ _) [(5, Value.bool (takesP K x)), (36, _)]) _
    have hll := lrnL_len K x
    repeat'(first|refine kv' ?_|apply jJ|refine jE' ?_|refine jp' ?_|(apply jc;kernel_rfl)|refine kg' ?_|refine kG' ?_|refine kB' fun _=>?_|refine kA' fun _=>?_|refine kK' fun _=>?_|refine kU' ?_|((first|refine kR' ?_ ?_|refine kQ' ?_ ?_);all_goals(intro hc;try simp only[hcs]at hc;try(exfalso;first|contradiction|omega))))
    apply LR.call
    · exact rfl
    intro w1 h1
    refine (m62 K a c w1 (h1.rd_of memZ) hz (by omega)).mono ?_
    rintro v w2 ⟨a2, c2, rfl, hn⟩
    refine LR.back (h1.newSl hn) ?_
    clear hn h1
    cases htk : takesP K x with
    | false =>
      have hle := lrn_no htk
      unfold lrnP
      rw [hle]
      repeat'(first|refine kv' ?_|apply jJ|refine jE' ?_|refine jp' ?_|(apply jc;kernel_rfl)|refine kg' ?_|refine kG' ?_|refine kB' fun _=>?_|refine kA' fun _=>?_|refine kK' fun _=>?_|refine kU' ?_|((first|refine kR' ?_ ?_|refine kQ' ?_ ?_);all_goals(intro hc;try simp only[hcs]at hc;try(exfalso;first|contradiction|omega))))
      apply LR.call
      · exact rfl
      intro w1 h1
      refine CallsTo.mono (show CallsTo Try.prog 56 [.slice a2 K.length c2] w1 _ from hN a2 c2 K w1 (h1.holds (pN a2 K.length c2 K) memZ) (by omega)) ?_
      rintro v w2 ⟨rfl, st⟩
      refine LR.back (h1.did selZ rfl st (osl.dep _ _ _ _ _)) ?_
      clear st h1
      repeat'(first|refine kv' ?_|apply jJ|refine jE' ?_|refine jp' ?_|(apply jc;kernel_rfl)|refine kg' ?_|refine kG' ?_|refine kB' fun _=>?_|refine kA' fun _=>?_|refine kK' fun _=>?_|refine kU' ?_|((first|refine kR' ?_ ?_|refine kQ' ?_ ?_);all_goals(intro hc;try simp only[hcs]at hc;try(exfalso;first|contradiction|omega))))
      (apply ret1; (· exact rfl); intro w' hS)
      have h9 : pN a2 K.length c2 (isP K) = osl (.slice a2 (isP K).length c2) 44 4 (isP K).length (pcs (isP K)) := by rw [isP_len]
      rw [h9] at hS
      refine ⟨a2, c2, ?_, hS.toNew memZ⟩
      rw [isP_len]
      rfl
    | true =>
      have hle := lrn_yes htk
      unfold lrnP
      rw [hle] at hll ⊢
      rw [List.length_append] at hll
      have hnl := noP_len K x.ring
      repeat'(first|(apply LR.ev (v := Value.func (.func 64) #[] #[.pointer (some ⟨bx, 0, none⟩)]); (· exact Ev.makeFunc (xs := []) (ys := [.tmp 3])); (· exact rfl))|refine kv' ?_|apply jJ|refine jE' ?_|refine jp' ?_|(apply jc;kernel_rfl)|refine kg' ?_|refine kG' ?_|refine kB' fun _=>?_|refine kA' fun _=>?_|refine kK' fun _=>?_|refine kU' ?_|((first|refine kR' ?_ ?_|refine kQ' ?_ ?_);all_goals(intro hc;try simp only[hcs]at hc;try(exfalso;first|contradiction|omega))))
      apply LR.call
      · exact rfl
      intro w1 h1
      have hap := fun z => St.apart (x := pN a2 K.length c2 K) (y := .own bx (.cells [Value.int .i64 x.ring, .int .i64 x.seq, .int .i64 x.rep, .int .i64 x.members].toArray 44 (0, 0))) (h1.sub (L' := [pN a2 K.length c2 K, .own bx (.cells [Value.int .i64 x.ring, .int .i64 x.seq, .int .i64 x.rep, .int .i64 x.members].toArray 44 (0, 0))]) subZ) memZ rfl z
      refine CallsTo.mono (show CallsTo Try.prog 63 [.slice a2 K.length c2, .func (.func 64) #[] #[.pointer (some ⟨bx, 0, none⟩)]] w1 _ from m63 a2 c2 K x bx w1 (h1.holds (pN a2 K.length c2 K) memZ) (h1.rd_of_blk memZ) (fun z hz hf => by
        obtain ⟨_, ad, e, hz'⟩ := hz
        cases e
        exact hap z hf hz') (by omega)) ?_
      rintro v w2 ⟨rfl, st⟩
      refine LR.back (h1.did selZ rfl st (osl.dep _ _ _ _ _)) ?_
      clear st h1 hap
      generalize noP K x.ring = O at hll hnl ⊢
      repeat'(first|(apply Go.Hb.kK;(iterate 4 exact rfl);intro bs)|refine kv' ?_|apply jJ|refine jE' ?_|refine jp' ?_|(apply jc;kernel_rfl)|refine kg' ?_|refine kG' ?_|refine kB' fun _=>?_|refine kA' fun _=>?_|refine kK' fun _=>?_|refine kU' ?_|(apply LR.append (xs := pcs O) (news := x.cells) (m := 1); (· exact rfl); (· exact rfl); (· intro a' c'; (repeat (first | exact sH _ _ _ | apply sT))); (· exact fun w' hw' => hw'.rd_of_blk (mH _ _)); (· exact fun hx => by cases hx); (· exact rfl); (· exact rfl); (· omega); (· unfold maxLen; omega); (· exact rfl); (intro a3 c3))|((first|refine kR' ?_ ?_|refine kQ' ?_ ?_);all_goals(intro hc;try simp only[hcs]at hc;try(exfalso;first|contradiction|omega))))
      apply LR.call
      · exact rfl
      intro w1 h1
      have hsn : osl (.slice a3 (O.length + 1) c3) 44 4 (O.length + 1) (pcs O ++ x.cells) = pN a3 (O ++ [x]).length c3 (O ++ [x]) := pN_snoc.symm
      rw [hsn] at h1
      have hxl : (O ++ [x]).length = O.length + 1 := by simp
      rw [← hxl]
      refine CallsTo.mono (show CallsTo Try.prog 56 [.slice a3 (O ++ [x]).length c3] w1 _ from hN a3 c3 (O ++ [x]) w1 (h1.holds (pN a3 (O ++ [x]).length c3 (O ++ [x])) memZ) (by omega)) ?_
      rintro v w2 ⟨rfl, st⟩
      refine LR.back (h1.did selZ rfl st (osl.dep _ _ _ _ _)) ?_
      clear st h1
      repeat'(first|refine kv' ?_|apply jJ|refine jE' ?_|refine jp' ?_|(apply jc;kernel_rfl)|refine kg' ?_|refine kG' ?_|refine kB' fun _=>?_|refine kA' fun _=>?_|refine kK' fun _=>?_|refine kU' ?_|((first|refine kR' ?_ ?_|refine kQ' ?_ ?_);all_goals(intro hc;try simp only[hcs]at hc;try(exfalso;first|contradiction|omega))))
      (apply ret1; (· exact rfl); intro w' hS)
      have h9 : pN a3 (O ++ [x]).length c3 (isP (O ++ [x])) = osl (.slice a3 (isP (O ++ [x])).length c3) 44 4 (isP (O ++ [x])).length (pcs (isP (O ++ [x]))) := by rw [isP_len]
      rw [h9] at hS
      refine ⟨a3, c3, ?_, hS.toNew memZ⟩
      rw [isP_len]
      rfl)
end Go.Proofs.Ytgblmkpfkcibiaa

namespace Go.Proofs.Ytgblmkpfkcibiaa
open Go.Hb
attribute [local irreducible] LR CW At Ev thn blk finK noG again CallsTo DW QL dnext TW DP gpost
set_option maxRecDepth 100000

instance : DecidableEq Plc := fun a b =>
  if h : a.ring = b.ring ∧ a.seq = b.seq ∧ a.rep = b.rep ∧ a.members = b.members then isTrue (by cases a; cases b; simp_all)
  else isFalse (fun e => h (by subst e; exact ⟨rfl, rfl, rfl, rfl⟩))
theorem plc_eq (a b : Plc) : decide ([a.ring, a.seq, a.rep, a.members] = [b.ring, b.seq, b.rep, b.members]) = decide (a = b) := by
  rw [decide_eq_decide]
  cases a; cases b; simp
set_option maxHeartbeats 1000000 in
theorem m25 (a b : Option Addr) (ca cb : Nat) (la lb : List Plc) (w : World) (ha : Rd w a (pcs la)) (hb : Rd w b (pcs lb)) (hm : la.length ≤ 17592186043904) :
    CallsTo Try.prog 25 [.slice a la.length ca, .slice b lb.length cb] w fun v w' => v = .bool (decide (la = lb)) ∧ Grew w w' := by
  refine go_in (n := 26) (St.rd2 ha hb) Try.func25 rfl rfl ?_
  by_cases hl : la.length = lb.length
  rotate_left
  · repeat'(first|refine kv' ?_|apply jJ|refine jE' ?_|refine jp' ?_|(apply jc;kernel_rfl)|refine kg' ?_|refine kG' ?_|refine kB' fun _=>?_|refine kA' fun _=>?_|refine kK' fun _=>?_|refine kU' ?_|((first|refine kR' ?_ ?_|refine kQ' ?_ ?_);all_goals(intro hc;try simp only[hcs]at hc;try(exfalso;first|contradiction|omega))))
    (apply ret1; (· exact rfl); intro w' hS)
    refine ⟨congrArg Value.bool ?_, hS.toKeep⟩
    have : la ≠ lb := fun e => hl (by rw [e])
    simp [this]
  repeat'(first|refine kv' ?_|apply jJ|refine jE' ?_|refine jp' ?_|(apply jc;kernel_rfl)|refine kg' ?_|refine kG' ?_|refine kB' fun _=>?_|refine kA' fun _=>?_|refine kK' fun _=>?_|refine kU' ?_|((first|refine kR' ?_ ?_|refine kQ' ?_ ?_);all_goals(intro hc;try simp only[hcs]at hc;try(exfalso;first|contradiction|omega))))
  apply CW.loop [4, 5, 11, 12, 13, 14, 15, 16, 17, 18, 19, 20, 21, 22, 23, 24, 25] (fun i : Nat => i ≤ la.length ∧ la.take i = lb.take i) (fun i : Nat => [(5, Value.int .i64 i)]) (fun i => St w NoF [rdA a (pcs la), rdA b (pcs lb)]) (fun i => la.length - i)
  · exact fun w' hw' => ⟨0, ⟨by omega, by simp⟩, ⟨rfl, trivial⟩, hw'⟩
  intro i g ⟨hi, heq⟩
  by_cases hlt : i < la.length
  · obtain ⟨ba, oa, rfl⟩ := ha.form (fun e => by have h1 := congrArg List.length e; rw [pcs_length, List.length_nil] at h1; omega)
    obtain ⟨bb, ob, rfl⟩ := hb.form (fun e => by have h1 := congrArg List.length e; rw [pcs_length, List.length_nil] at h1; omega)
    have hlb : i < lb.length := by omega
    obtain ⟨x, hx⟩ : ∃ x, la[i] = x := ⟨_, rfl⟩
    obtain ⟨y, hy⟩ : ∃ y, lb[i] = y := ⟨_, rfl⟩
    have hlx : la[i]? = some x := by rw [List.getElem?_eq_getElem hlt, hx]
    have hly : lb[i]? = some y := by rw [List.getElem?_eq_getElem hlb, hy]
    have hpe := plc_eq x y
    repeat'(first|(apply LR.ev; (· apply Ev.load_agg_at (cs := [Value.int .i64 x.ring, .int .i64 x.seq, .int .i64 x.rep, .int .i64 x.members]); (· exact rfl); (· exact rfl); (· intro w' hw'; refine pcs_cell (x := x) (hw'.rd_of (mH _ _)) hlx ?_; (· simp; done))); (· exact rfl))|(apply LR.ev; (· apply Ev.load_agg_at (cs := [Value.int .i64 y.ring, .int .i64 y.seq, .int .i64 y.rep, .int .i64 y.members]); (· exact rfl); (· exact rfl); (· intro w' hw'; refine pcs_cell (x := y) (hw'.rd_of (mT _ (mH _ _))) hly ?_; (· simp; done))); (· exact rfl))|refine kv' ?_|apply jJ|refine jE' ?_|refine jp' ?_|(apply jc;kernel_rfl)|refine kg' ?_|refine kG' ?_|refine kB' fun _=>?_|refine kA' fun _=>?_|refine kK' fun _=>?_|refine kU' ?_|(apply idxX;(iterate 2 exact rfl);(iterate 2(first|omega|(dsimp only;omega)));exact rfl)|(apply addX;(iterate 2 exact rfl);(iterate 2(first|omega|(dsimp only;omega)));exact rfl)|((first|refine kR' ?_ ?_|refine kQ' ?_ ?_);all_goals(intro hc;try simp only[hcs]at hc;try(exfalso;first|contradiction|omega))))
    · (apply ret1; (· exact rfl); intro w' hS)
      refine ⟨congrArg Value.bool ?_, hS.toKeep⟩
      have : la ≠ lb := fun e => by
        subst e
        rw [hlx] at hly
        cases hly
        simp_all
      simp [this]
    · refine At.again (i + 1) ⟨by omega, ?_⟩ ?_ ⟨rfl, trivial⟩ (fun w' hw' => hw') (by omega)
      · have hxy : x = y := by cases x; cases y; simp_all
        rw [List.take_add_one, List.take_add_one, hlx, hly, heq, hxy]
      · (repeat (first | exact Out.refl _ _ | exact Out.mix | (apply Out.upd; (· exact rfl)) | (apply Out.updL; (· exact rfl)) | (apply Out.mixs; (· exact rfl))))
  · have hie : i = la.length := by omega
    subst hie
    repeat'(first|refine kv' ?_|apply jJ|refine jE' ?_|refine jp' ?_|(apply jc;kernel_rfl)|refine kg' ?_|refine kG' ?_|refine kB' fun _=>?_|refine kA' fun _=>?_|refine kK' fun _=>?_|refine kU' ?_|((first|refine kR' ?_ ?_|refine kQ' ?_ ?_);all_goals(intro hc;try simp only[hcs]at hc;try(exfalso;first|contradiction|omega))))
    (apply ret1; (· exact rfl); intro w' hS)
    refine ⟨congrArg Value.bool ?_, hS.toKeep⟩
    rw [List.take_length, hl, List.take_length] at heq
    simp [heq]
def threeP : Pln := ⟨[14, 56, 96], [⟨3, 0, 1⟩, ⟨5, 1, 2⟩]⟩
def threeA (b1 b2 : Nat) : PlA := ⟨some ⟨b1, 0, none⟩, 3, some ⟨b2, 0, none⟩, 2⟩
abbrev thr1 (b1 : Nat) : Asrt := .own b1 (.cells (iv [14, 56, 96]).toArray 3 (0, 0))
abbrev thr2 (b2 : Nat) : Asrt := .own b2 (.cells (gv [⟨3, 0, 1⟩, ⟨5, 1, 2⟩]).toArray 34 (0, 0))
theorem m33 (w : World) : CallsTo Try.prog 33 [] w fun v w' => ∃ b1 b2, v = threeP.val (threeA b1 b2) ∧ New1 (both (thr1 b1) (thr2 b2)) w w' := by
  refine go_in (n := 6) (St.refl _ NoF) Try.func33 rfl rfl ?_
  repeat'(first|(refine kK' (T := 22) fun b1 => ?_)|(refine kK' (T := 23) fun b2 => ?_)|refine kv' ?_|apply jJ|refine jE' ?_|refine jp' ?_|(apply jc;kernel_rfl)|refine kg' ?_|refine kG' ?_|refine kB' fun _=>?_|refine kA' fun _=>?_|refine kK' fun _=>?_|refine kU' ?_|((first|refine kR' ?_ ?_|refine kQ' ?_ ?_);all_goals(intro hc;try simp only[hcs]at hc;try(exfalso;first|contradiction|omega))))
  (apply ret1c; (· exact rfl); (· exact inferInstance); (· exact rfl); (· (repeat (first | exact List.Mem.head _ | apply List.Mem.tail))); (· exact rfl); intro w' hS)
  refine ⟨b1, b2, rfl, ?_⟩
  have h1 : St w NoF [thr1 b1, thr2 b2] w' := (hS.sub (L' := [thr2 b2, thr1 b1]) subZ).swap
  exact (h1.join rfl rfl).new1 rfl
def plcA (ring members : Int) : Plc := ⟨ring, 1 + ring, 1, members⟩
theorem m34 (ring members : Int) (w : World) (h : -1000 ≤ ring ∧ ring ≤ 1000) : CallsTo Try.prog 34 [.int .i64 ring, .int .i64 members] w fun v w' => v = (plcA ring members).val ∧ Grew w w' := by
  refine go_in (n := 11) (St.refl _ NoF) Try.func34 rfl rfl ?_
  repeat'(first|refine kv' ?_|apply jJ|refine jE' ?_|refine jp' ?_|(apply jc;kernel_rfl)|refine kg' ?_|refine kG' ?_|refine kB' fun _=>?_|refine kA' fun _=>?_|refine kK' fun _=>?_|refine kU' ?_|(apply addX;(iterate 2 exact rfl);(iterate 2(first|omega|(dsimp only;omega)));exact rfl)|((first|refine kR' ?_ ?_|refine kQ' ?_ ?_);all_goals(intro hc;try simp only[hcs]at hc;try(exfalso;first|contradiction|omega))))
  (apply ret1c; (· exact rfl); (· exact inferInstance); (· exact rfl); (· (repeat (first | exact List.Mem.head _ | apply List.Mem.tail))); (· exact rfl); intro w' hS)
  exact ⟨rfl, hS.toKeep⟩
theorem own_rdM {b : Nat} {cs : List Value} {E : Nat} {w : World} (h : (Asrt.own b (.cells cs.toArray E (0, 0))).holds w) : Rd w (some ⟨b, 0, none⟩) cs := fun j v hj => ⟨_, rfl, by rw [addr_add, cell_own h]; simpa using hj⟩
theorem threeI : PlI threeP := ⟨by decide, by decide, by decide⟩
theorem thR {w : World} {b1 b2 : Nat} (h : (both (thr1 b1) (thr2 b2)).holds w) : PlR w threeP (threeA b1 b2) := ⟨own_rdM h.1, own_rdM h.2.1⟩
theorem th_dep {b1 b2 : Nat} : (both (thr1 b1) (thr2 b2)).dep := both_dep (Asrt.dep_own _ _) (Asrt.dep_own _ _)
section
variable {P : Program} {C : World → Prop} {f : Frm} {T T' E : TypeId} {x y : Operand} {sz by_ b o k c : Nat} {q : IntKind} {j : Int}
theorem Ev_hi [h : SliceOf P T E sz by_] (hx : f.ev x = .slice (some ⟨b, o, none⟩) k c) (hy : f.ev y = .int q j) (h0 : 0 ≤ j) (h1 : j ≤ c) : Ev P C f (.slice T x none (some y) none) T' (.slice (some ⟨b, o, none⟩) j.toNat c) := by
  have := Ev.slice_hi (C := C) (T := T) (T' := T') (h := h) hx hy h0 h1
  rwa [subA0] at this
theorem Ev_lo [h : SliceOf P T E sz by_] (hx : f.ev x = .slice (some ⟨b, o, none⟩) k c) (hy : f.ev y = .int q j) (h0 : 0 ≤ j) (h1 : j ≤ k) (h2 : ¬ c = j.toNat) : Ev P C f (.slice T x (some y) none none) T' (.slice (some ⟨b, o + j.toNat * sz, none⟩) (k - j.toNat) (c - j.toNat)) := by
  have := Ev.slice_lo (C := C) (T := T) (T' := T') (h := h) hx hy h0 h1
  unfold subA at this
  rw [if_neg h2] at this
  simpa [addr_add] using this
end
def knownW : List Plc := [plcA 0 14, plcA 1 24, plcA 2 96]
theorem w_chk : chkP threeP.R threeP.G = true := by decide +kernel
theorem w_far : farT threeP.R threeP.G 3 0 = some 1 := by decide +kernel
theorem w_sides : sidesT threeP.R threeP.G 3 = [0, 1] := by decide +kernel
theorem w_gws : gwsT threeP.R threeP.G 1 = [3, 5] := by decide +kernel
theorem w_view0 : viewP (threeP.R, threeP.G) 0 knownW = [plcA 0 14, plcA 1 24] := by decide +kernel
theorem w_view2 : viewP (threeP.R, threeP.G) 2 knownW = [plcA 2 96] := by decide +kernel
theorem w_lrn : lrnP [] (plcA 1 24) = [plcA 1 24] := by decide +kernel
theorem rd_from8 {w : World} {b : Nat} (h : Rd w (some ⟨b, 0, none⟩) (pcs knownW)) : Rd w (some ⟨b, 8, none⟩) (pcs [plcA 2 96]) := by
  intro j v hj
  have h2 := h.cell (j := 8 + j) (v := v) (by rw [show pcs knownW = pcs [plcA 0 14, plcA 1 24] ++ pcs [plcA 2 96] from rfl, List.getElem?_append_right (by show 8 ≤ 8 + j; omega), show 8 + j - (pcs [plcA 0 14, plcA 1 24]).length = j by show 8 + j - 8 = j; omega]; exact hj)
  exact ⟨_, rfl, by rw [addr_add]; rwa [Nat.zero_add] at h2⟩
set_option maxHeartbeats 4000000 in
theorem m22 (w : World) : CallsTo Try.prog 22 [] w fun v w' => v = .bool true ∧ Grew w w' := by
  refine go_in (n := 57) (St.refl _ NoF) Try.func22 rfl rfl ?_
  repeat'(first|(apply CW.reg_heldC)|(refine kK' (T := 37) fun bk => ?_)|refine kv' ?_|apply jJ|refine jE' ?_|refine jp' ?_|(apply jc;kernel_rfl)|refine kg' ?_|refine kG' ?_|refine kB' fun _=>?_|refine kA' fun _=>?_|refine kK' fun _=>?_|refine kU' ?_|(apply kq; (· exact rfl); (· intro w1 h1; first | (have hq := CallsTo.q (m13 threeP (threeA b1 b2) w1 (thR (h1.holds (both (thr1 b1) (thr2 b2)) memZ)) threeI) h1; rw [w_chk] at hq; exact hq) | (have hq := CallsTo.q (m15 threeP (threeA b1 b2) 3 0 w1 (thR (h1.holds (both (thr1 b1) (thr2 b2)) memZ)) threeI) h1; rw [w_far] at hq; exact hq) | exact CallsTo.q (m34 0 14 w1 (by decide)) h1 | exact CallsTo.q (m34 1 24 w1 (by decide)) h1 | exact CallsTo.q (m34 2 96 w1 (by decide)) h1 | exact CallsTo.q (show CallsTo Try.prog 17 [.slice a7 2 c7, .slice _ 2 2] w1 _ from t19 a7 _ c7 2 [0, 1] [0, 1] w1 (h1.rd_of_own memZ) (h1.rd_of_blk memZ) (by decide)) h1 | exact CallsTo.q (show CallsTo Try.prog 17 [.slice a8 2 c8, .slice _ 2 2] w1 _ from t19 a8 _ c8 2 [3, 5] [3, 5] w1 (h1.rd_of_own memZ) (h1.rd_of_blk memZ) (by decide)) h1 | exact CallsTo.q (show CallsTo Try.prog 25 [.slice a9 2 c9, .slice (some ⟨bk, 0, none⟩) 2 3] w1 _ from m25 a9 (some ⟨bk, 0, none⟩) c9 3 [plcA 0 14, plcA 1 24] [plcA 0 14, plcA 1 24] w1 (h1.rd_of_own memZ) (Rd.take 8 (h1.rd_of_blk (b := bk) (cs := pcs knownW) memZ)) (by decide)) h1 | exact CallsTo.q (show CallsTo Try.prog 25 [.slice a9 1 c9, .slice (some ⟨bk, 8, none⟩) 1 1] w1 _ from m25 a9 (some ⟨bk, 8, none⟩) c9 1 [plcA 2 96] [plcA 2 96] w1 (h1.rd_of_own memZ) (rd_from8 (h1.rd_of_blk (b := bk) (cs := pcs knownW) memZ)) (by decide)) h1))|(apply LR.call; (· exact rfl); (intro w1 h1; first | (refine CallsTo.mono (show CallsTo Try.prog 33 [] w1 _ from m33 w1) ?_; rintro v w2 ⟨b1, b2, rfl, hn⟩; refine LR.back (h1.got hn th_dep) ?_; clear hn h1) | (refine CallsTo.mono (show CallsTo Try.prog 18 [threeP.val (threeA b1 b2), .int .i64 3] w1 _ from m18 threeP (threeA b1 b2) 3 w1 (thR (h1.holds (both (thr1 b1) (thr2 b2)) memZ)) threeI) ?_; rintro v w2 ⟨a7, c7, rfl, hn⟩; rw [w_sides] at hn ⊢; refine LR.back (h1.newSl hn) ?_; clear hn h1) | (refine CallsTo.mono (show CallsTo Try.prog 20 [threeP.val (threeA b1 b2), .int .i64 1] w1 _ from m20 threeP (threeA b1 b2) 1 w1 (thR (h1.holds (both (thr1 b1) (thr2 b2)) memZ)) threeI) ?_; rintro v w2 ⟨a8, c8, rfl, hn⟩; rw [w_gws] at hn ⊢; refine LR.back (h1.newSl hn) ?_; clear hn h1) | (refine CallsTo.mono (show CallsTo Try.prog 24 [threeP.val (threeA b1 b2), .int .i64 0, .slice (some ⟨bk, 0, none⟩) 3 3] w1 _ from m24 threeP (threeA b1 b2) threeI 0 knownW (some ⟨bk, 0, none⟩) 3 w1 (thR (h1.holds (both (thr1 b1) (thr2 b2)) memZ)) (h1.rd_of_blk memZ) (by decide)) ?_; rintro v w2 ⟨a9, c9, rfl, hn⟩; rw [w_view0] at hn ⊢; refine LR.back (h1.newSl hn) ?_; clear hn h1) | (refine CallsTo.mono (show CallsTo Try.prog 24 [threeP.val (threeA b1 b2), .int .i64 2, .slice (some ⟨bk, 0, none⟩) 3 3] w1 _ from m24 threeP (threeA b1 b2) threeI 2 knownW (some ⟨bk, 0, none⟩) 3 w1 (thR (h1.holds (both (thr1 b1) (thr2 b2)) memZ)) (h1.rd_of_blk memZ) (by decide)) ?_; rintro v w2 ⟨a9, c9, rfl, hn⟩; rw [w_view2] at hn ⊢; refine LR.back (h1.newSl hn) ?_; clear hn h1) | (refine CallsTo.mono (show CallsTo Try.prog 27 [.slice none 0 0, (plcA 1 24).val] w1 _ from m27 sort_few [] none 0 (plcA 1 24) w1 (Rd.nil _ _) (fun _ => rfl) (by decide) (by decide) (by decide)) ?_; rintro v w2 ⟨a10, c10, rfl, hn⟩; rw [w_lrn] at hn ⊢; refine LR.back (h1.newSl hn) ?_; clear hn h1)))|((first|refine kR' ?_ ?_|refine kQ' ?_ ?_);all_goals(intro hc;try simp only[hcs]at hc;try(exfalso;first|contradiction|omega))))
  all_goals (
    apply DW.loud 0
    · exact rfl
    · decide +kernel
    repeat'(first|refine kg' ?_|refine kG' ?_|apply kM|refine kv' ?_|refine kK' fun _=>?_|refine kU' ?_|refine kB' fun _=>?_|refine kA' fun _=>?_|(apply kq; (· exact rfl); (· intro w1 h1; first | (have hq := CallsTo.q (m13 threeP (threeA b1 b2) w1 (thR (h1.holds (both (thr1 b1) (thr2 b2)) memZ)) threeI) h1; rw [w_chk] at hq; exact hq) | (have hq := CallsTo.q (m15 threeP (threeA b1 b2) 3 0 w1 (thR (h1.holds (both (thr1 b1) (thr2 b2)) memZ)) threeI) h1; rw [w_far] at hq; exact hq) | exact CallsTo.q (m34 0 14 w1 (by decide)) h1 | exact CallsTo.q (m34 1 24 w1 (by decide)) h1 | exact CallsTo.q (m34 2 96 w1 (by decide)) h1 | exact CallsTo.q (show CallsTo Try.prog 17 [.slice a7 2 c7, .slice _ 2 2] w1 _ from t19 a7 _ c7 2 [0, 1] [0, 1] w1 (h1.rd_of_own memZ) (h1.rd_of_blk memZ) (by decide)) h1 | exact CallsTo.q (show CallsTo Try.prog 17 [.slice a8 2 c8, .slice _ 2 2] w1 _ from t19 a8 _ c8 2 [3, 5] [3, 5] w1 (h1.rd_of_own memZ) (h1.rd_of_blk memZ) (by decide)) h1 | exact CallsTo.q (show CallsTo Try.prog 25 [.slice a9 2 c9, .slice (some ⟨bk, 0, none⟩) 2 3] w1 _ from m25 a9 (some ⟨bk, 0, none⟩) c9 3 [plcA 0 14, plcA 1 24] [plcA 0 14, plcA 1 24] w1 (h1.rd_of_own memZ) (Rd.take 8 (h1.rd_of_blk (b := bk) (cs := pcs knownW) memZ)) (by decide)) h1 | exact CallsTo.q (show CallsTo Try.prog 25 [.slice a9 1 c9, .slice (some ⟨bk, 8, none⟩) 1 1] w1 _ from m25 a9 (some ⟨bk, 8, none⟩) c9 1 [plcA 2 96] [plcA 2 96] w1 (h1.rd_of_own memZ) (rd_from8 (h1.rd_of_blk (b := bk) (cs := pcs knownW) memZ)) (by decide)) h1))|(apply LR.call; (· exact rfl); (intro w1 h1; first | (refine CallsTo.mono (show CallsTo Try.prog 33 [] w1 _ from m33 w1) ?_; rintro v w2 ⟨b1, b2, rfl, hn⟩; refine LR.back (h1.got hn th_dep) ?_; clear hn h1) | (refine CallsTo.mono (show CallsTo Try.prog 18 [threeP.val (threeA b1 b2), .int .i64 3] w1 _ from m18 threeP (threeA b1 b2) 3 w1 (thR (h1.holds (both (thr1 b1) (thr2 b2)) memZ)) threeI) ?_; rintro v w2 ⟨a7, c7, rfl, hn⟩; rw [w_sides] at hn ⊢; refine LR.back (h1.newSl hn) ?_; clear hn h1) | (refine CallsTo.mono (show CallsTo Try.prog 20 [threeP.val (threeA b1 b2), .int .i64 1] w1 _ from m20 threeP (threeA b1 b2) 1 w1 (thR (h1.holds (both (thr1 b1) (thr2 b2)) memZ)) threeI) ?_; rintro v w2 ⟨a8, c8, rfl, hn⟩; rw [w_gws] at hn ⊢; refine LR.back (h1.newSl hn) ?_; clear hn h1) | (refine CallsTo.mono (show CallsTo Try.prog 24 [threeP.val (threeA b1 b2), .int .i64 0, .slice (some ⟨bk, 0, none⟩) 3 3] w1 _ from m24 threeP (threeA b1 b2) threeI 0 knownW (some ⟨bk, 0, none⟩) 3 w1 (thR (h1.holds (both (thr1 b1) (thr2 b2)) memZ)) (h1.rd_of_blk memZ) (by decide)) ?_; rintro v w2 ⟨a9, c9, rfl, hn⟩; rw [w_view0] at hn ⊢; refine LR.back (h1.newSl hn) ?_; clear hn h1) | (refine CallsTo.mono (show CallsTo Try.prog 24 [threeP.val (threeA b1 b2), .int .i64 2, .slice (some ⟨bk, 0, none⟩) 3 3] w1 _ from m24 threeP (threeA b1 b2) threeI 2 knownW (some ⟨bk, 0, none⟩) 3 w1 (thR (h1.holds (both (thr1 b1) (thr2 b2)) memZ)) (h1.rd_of_blk memZ) (by decide)) ?_; rintro v w2 ⟨a9, c9, rfl, hn⟩; rw [w_view2] at hn ⊢; refine LR.back (h1.newSl hn) ?_; clear hn h1) | (refine CallsTo.mono (show CallsTo Try.prog 27 [.slice none 0 0, (plcA 1 24).val] w1 _ from m27 sort_few [] none 0 (plcA 1 24) w1 (Rd.nil _ _) (fun _ => rfl) (by decide) (by decide) (by decide)) ?_; rintro v w2 ⟨a10, c10, rfl, hn⟩; rw [w_lrn] at hn ⊢; refine LR.back (h1.newSl hn) ?_; clear hn h1))))
    all_goals (refine At.stage_same (fun _ h => St.sub h subZ) ?_))
  all_goals (
    apply DW.loud 1
    · exact rfl
    · decide +kernel
    repeat'(first|refine kg' ?_|refine kG' ?_|apply kM|refine kv' ?_|refine kK' fun _=>?_|refine kU' ?_|refine kB' fun _=>?_|refine kA' fun _=>?_|(apply kq; (· exact rfl); (· intro w1 h1; first | (have hq := CallsTo.q (m13 threeP (threeA b1 b2) w1 (thR (h1.holds (both (thr1 b1) (thr2 b2)) memZ)) threeI) h1; rw [w_chk] at hq; exact hq) | (have hq := CallsTo.q (m15 threeP (threeA b1 b2) 3 0 w1 (thR (h1.holds (both (thr1 b1) (thr2 b2)) memZ)) threeI) h1; rw [w_far] at hq; exact hq) | exact CallsTo.q (m34 0 14 w1 (by decide)) h1 | exact CallsTo.q (m34 1 24 w1 (by decide)) h1 | exact CallsTo.q (m34 2 96 w1 (by decide)) h1 | exact CallsTo.q (show CallsTo Try.prog 17 [.slice a7 2 c7, .slice _ 2 2] w1 _ from t19 a7 _ c7 2 [0, 1] [0, 1] w1 (h1.rd_of_own memZ) (h1.rd_of_blk memZ) (by decide)) h1 | exact CallsTo.q (show CallsTo Try.prog 17 [.slice a8 2 c8, .slice _ 2 2] w1 _ from t19 a8 _ c8 2 [3, 5] [3, 5] w1 (h1.rd_of_own memZ) (h1.rd_of_blk memZ) (by decide)) h1 | exact CallsTo.q (show CallsTo Try.prog 25 [.slice a9 2 c9, .slice (some ⟨bk, 0, none⟩) 2 3] w1 _ from m25 a9 (some ⟨bk, 0, none⟩) c9 3 [plcA 0 14, plcA 1 24] [plcA 0 14, plcA 1 24] w1 (h1.rd_of_own memZ) (Rd.take 8 (h1.rd_of_blk (b := bk) (cs := pcs knownW) memZ)) (by decide)) h1 | exact CallsTo.q (show CallsTo Try.prog 25 [.slice a9 1 c9, .slice (some ⟨bk, 8, none⟩) 1 1] w1 _ from m25 a9 (some ⟨bk, 8, none⟩) c9 1 [plcA 2 96] [plcA 2 96] w1 (h1.rd_of_own memZ) (rd_from8 (h1.rd_of_blk (b := bk) (cs := pcs knownW) memZ)) (by decide)) h1))|(apply LR.call; (· exact rfl); (intro w1 h1; first | (refine CallsTo.mono (show CallsTo Try.prog 33 [] w1 _ from m33 w1) ?_; rintro v w2 ⟨b1, b2, rfl, hn⟩; refine LR.back (h1.got hn th_dep) ?_; clear hn h1) | (refine CallsTo.mono (show CallsTo Try.prog 18 [threeP.val (threeA b1 b2), .int .i64 3] w1 _ from m18 threeP (threeA b1 b2) 3 w1 (thR (h1.holds (both (thr1 b1) (thr2 b2)) memZ)) threeI) ?_; rintro v w2 ⟨a7, c7, rfl, hn⟩; rw [w_sides] at hn ⊢; refine LR.back (h1.newSl hn) ?_; clear hn h1) | (refine CallsTo.mono (show CallsTo Try.prog 20 [threeP.val (threeA b1 b2), .int .i64 1] w1 _ from m20 threeP (threeA b1 b2) 1 w1 (thR (h1.holds (both (thr1 b1) (thr2 b2)) memZ)) threeI) ?_; rintro v w2 ⟨a8, c8, rfl, hn⟩; rw [w_gws] at hn ⊢; refine LR.back (h1.newSl hn) ?_; clear hn h1) | (refine CallsTo.mono (show CallsTo Try.prog 24 [threeP.val (threeA b1 b2), .int .i64 0, .slice (some ⟨bk, 0, none⟩) 3 3] w1 _ from m24 threeP (threeA b1 b2) threeI 0 knownW (some ⟨bk, 0, none⟩) 3 w1 (thR (h1.holds (both (thr1 b1) (thr2 b2)) memZ)) (h1.rd_of_blk memZ) (by decide)) ?_; rintro v w2 ⟨a9, c9, rfl, hn⟩; rw [w_view0] at hn ⊢; refine LR.back (h1.newSl hn) ?_; clear hn h1) | (refine CallsTo.mono (show CallsTo Try.prog 24 [threeP.val (threeA b1 b2), .int .i64 2, .slice (some ⟨bk, 0, none⟩) 3 3] w1 _ from m24 threeP (threeA b1 b2) threeI 2 knownW (some ⟨bk, 0, none⟩) 3 w1 (thR (h1.holds (both (thr1 b1) (thr2 b2)) memZ)) (h1.rd_of_blk memZ) (by decide)) ?_; rintro v w2 ⟨a9, c9, rfl, hn⟩; rw [w_view2] at hn ⊢; refine LR.back (h1.newSl hn) ?_; clear hn h1) | (refine CallsTo.mono (show CallsTo Try.prog 27 [.slice none 0 0, (plcA 1 24).val] w1 _ from m27 sort_few [] none 0 (plcA 1 24) w1 (Rd.nil _ _) (fun _ => rfl) (by decide) (by decide) (by decide)) ?_; rintro v w2 ⟨a10, c10, rfl, hn⟩; rw [w_lrn] at hn ⊢; refine LR.back (h1.newSl hn) ?_; clear hn h1))))
    all_goals (refine At.stage_same (fun _ h => St.sub h subZ) ?_))
  all_goals (
    apply DW.quiet [2, 3]
    · decide +kernel
    · first | exact fun _ h => h | exact fun _ h => St.sub h subZ
    repeat'(first|(apply QL.evg; (iterate 3 exact rfl); (· apply Ev_hi; (· exact rfl); (· exact rfl); (· decide); (· decide)); (· exact rfl))|(apply QL.evg; (iterate 3 exact rfl); (· apply Ev_lo; (· exact rfl); (· exact rfl); (· decide); (· decide); (· decide)); (· exact rfl))|refine yv' ?_|refine uv' ?_|refine un' ?_|(refine us' ?_ ?_;all_goals(intro hc;try simp only[hcs]at hc;try(exfalso;first|contradiction|omega)))|apply QL.nil)
    all_goals (show DW _ _ _ _ _ _ _ _))
  apply DP.begin []
  refine DP.more (PI.lr 6 19 [(16, .bool true)] (fun b => .slice (some ⟨b, 0, none⟩) 2 2) (fun b => [.own b (.cells ([.int .i64 0, .int .i64 1] : List Value).toArray 3 (0, 0))]) rfl (fun b x hx => by simp only [List.mem_singleton] at hx; subst hx; rfl) ?_) ?_
  · intro h w2
    apply kg
    · exact rfl
    · exact rfl
    apply kK
    · exact rfl
    · exact rfl
    · exact rfl
    · exact rfl
    intro b
    apply kM
    exact At.made rfl
  refine DP.go 4 [6] [19] [[16]] rfl rfl rfl rfl (by decide +kernel) ⟨⟨rfl, trivial⟩, fun _ _ _ => trivial, trivial⟩ (fun A w' hA => St.sub hA (by simp only [List.cons_append, List.nil_append]; repeat (first | exact List.nil_sublist _ | exact List.Sublist.refl _ | apply List.Sublist.cons_cons | apply List.Sublist.cons))) ?_
  intro gg A LA hLA
  simp only [List.cons_append, List.nil_append] at hLA
  subst hLA
  repeat'(first|refine kg' ?_|refine kG' ?_|apply kM|refine kv' ?_|refine kK' fun _=>?_|refine kU' ?_|refine kB' fun _=>?_|refine kA' fun _=>?_|(apply kq; (· exact rfl); (· intro w1 h1; first | (have hq := CallsTo.q (m13 threeP (threeA b1 b2) w1 (thR (h1.holds (both (thr1 b1) (thr2 b2)) memZ)) threeI) h1; rw [w_chk] at hq; exact hq) | (have hq := CallsTo.q (m15 threeP (threeA b1 b2) 3 0 w1 (thR (h1.holds (both (thr1 b1) (thr2 b2)) memZ)) threeI) h1; rw [w_far] at hq; exact hq) | exact CallsTo.q (m34 0 14 w1 (by decide)) h1 | exact CallsTo.q (m34 1 24 w1 (by decide)) h1 | exact CallsTo.q (m34 2 96 w1 (by decide)) h1 | exact CallsTo.q (show CallsTo Try.prog 17 [.slice a7 2 c7, .slice _ 2 2] w1 _ from t19 a7 _ c7 2 [0, 1] [0, 1] w1 (h1.rd_of_own memZ) (h1.rd_of_blk memZ) (by decide)) h1 | exact CallsTo.q (show CallsTo Try.prog 17 [.slice a8 2 c8, .slice _ 2 2] w1 _ from t19 a8 _ c8 2 [3, 5] [3, 5] w1 (h1.rd_of_own memZ) (h1.rd_of_blk memZ) (by decide)) h1 | exact CallsTo.q (show CallsTo Try.prog 25 [.slice a9 2 c9, .slice (some ⟨bk, 0, none⟩) 2 3] w1 _ from m25 a9 (some ⟨bk, 0, none⟩) c9 3 [plcA 0 14, plcA 1 24] [plcA 0 14, plcA 1 24] w1 (h1.rd_of_own memZ) (Rd.take 8 (h1.rd_of_blk (b := bk) (cs := pcs knownW) memZ)) (by decide)) h1 | exact CallsTo.q (show CallsTo Try.prog 25 [.slice a9 1 c9, .slice (some ⟨bk, 8, none⟩) 1 1] w1 _ from m25 a9 (some ⟨bk, 8, none⟩) c9 1 [plcA 2 96] [plcA 2 96] w1 (h1.rd_of_own memZ) (rd_from8 (h1.rd_of_blk (b := bk) (cs := pcs knownW) memZ)) (by decide)) h1))|(apply LR.call; (· exact rfl); (intro w1 h1; first | (refine CallsTo.mono (show CallsTo Try.prog 33 [] w1 _ from m33 w1) ?_; rintro v w2 ⟨b1, b2, rfl, hn⟩; refine LR.back (h1.got hn th_dep) ?_; clear hn h1) | (refine CallsTo.mono (show CallsTo Try.prog 18 [threeP.val (threeA b1 b2), .int .i64 3] w1 _ from m18 threeP (threeA b1 b2) 3 w1 (thR (h1.holds (both (thr1 b1) (thr2 b2)) memZ)) threeI) ?_; rintro v w2 ⟨a7, c7, rfl, hn⟩; rw [w_sides] at hn ⊢; refine LR.back (h1.newSl hn) ?_; clear hn h1) | (refine CallsTo.mono (show CallsTo Try.prog 20 [threeP.val (threeA b1 b2), .int .i64 1] w1 _ from m20 threeP (threeA b1 b2) 1 w1 (thR (h1.holds (both (thr1 b1) (thr2 b2)) memZ)) threeI) ?_; rintro v w2 ⟨a8, c8, rfl, hn⟩; rw [w_gws] at hn ⊢; refine LR.back (h1.newSl hn) ?_; clear hn h1) | (refine CallsTo.mono (show CallsTo Try.prog 24 [threeP.val (threeA b1 b2), .int .i64 0, .slice (some ⟨bk, 0, none⟩) 3 3] w1 _ from m24 threeP (threeA b1 b2) threeI 0 knownW (some ⟨bk, 0, none⟩) 3 w1 (thR (h1.holds (both (thr1 b1) (thr2 b2)) memZ)) (h1.rd_of_blk memZ) (by decide)) ?_; rintro v w2 ⟨a9, c9, rfl, hn⟩; rw [w_view0] at hn ⊢; refine LR.back (h1.newSl hn) ?_; clear hn h1) | (refine CallsTo.mono (show CallsTo Try.prog 24 [threeP.val (threeA b1 b2), .int .i64 2, .slice (some ⟨bk, 0, none⟩) 3 3] w1 _ from m24 threeP (threeA b1 b2) threeI 2 knownW (some ⟨bk, 0, none⟩) 3 w1 (thR (h1.holds (both (thr1 b1) (thr2 b2)) memZ)) (h1.rd_of_blk memZ) (by decide)) ?_; rintro v w2 ⟨a9, c9, rfl, hn⟩; rw [w_view2] at hn ⊢; refine LR.back (h1.newSl hn) ?_; clear hn h1) | (refine CallsTo.mono (show CallsTo Try.prog 27 [.slice none 0 0, (plcA 1 24).val] w1 _ from m27 sort_few [] none 0 (plcA 1 24) w1 (Rd.nil _ _) (fun _ => rfl) (by decide) (by decide) (by decide)) ?_; rintro v w2 ⟨a10, c10, rfl, hn⟩; rw [w_lrn] at hn ⊢; refine LR.back (h1.newSl hn) ?_; clear hn h1))))
  apply At.pdone (ds := [19]) rfl
  · repeat (first | exact MixR.base _ | (apply MixR.upd; case hd => exact rfl))
  · repeat (first | exact Tl.nil | apply Tl.cons)
  · exact (fun A w' hA => St.sub hA (by simp only [List.cons_append, List.nil_append]; repeat (first | exact List.nil_sublist _ | exact List.Sublist.refl _ | apply List.Sublist.cons_cons | apply List.Sublist.cons)))
  refine DP.go 5 [6] [19] [[16]] rfl rfl rfl rfl (by decide +kernel) ⟨⟨rfl, trivial⟩, fun _ _ _ => trivial, trivial⟩ (fun A w' hA => St.sub hA (by simp only [List.cons_append, List.nil_append]; repeat (first | exact List.nil_sublist _ | exact List.Sublist.refl _ | apply List.Sublist.cons_cons | apply List.Sublist.cons))) ?_
  intro gg A LA hLA
  simp only [List.cons_append, List.nil_append] at hLA
  subst hLA
  repeat'(first|refine kg' ?_|refine kG' ?_|apply kM|refine kv' ?_|refine kK' fun _=>?_|refine kU' ?_|refine kB' fun _=>?_|refine kA' fun _=>?_|(apply kq; (· exact rfl); (· intro w1 h1; first | (have hq := CallsTo.q (m13 threeP (threeA b1 b2) w1 (thR (h1.holds (both (thr1 b1) (thr2 b2)) memZ)) threeI) h1; rw [w_chk] at hq; exact hq) | (have hq := CallsTo.q (m15 threeP (threeA b1 b2) 3 0 w1 (thR (h1.holds (both (thr1 b1) (thr2 b2)) memZ)) threeI) h1; rw [w_far] at hq; exact hq) | exact CallsTo.q (m34 0 14 w1 (by decide)) h1 | exact CallsTo.q (m34 1 24 w1 (by decide)) h1 | exact CallsTo.q (m34 2 96 w1 (by decide)) h1 | exact CallsTo.q (show CallsTo Try.prog 17 [.slice a7 2 c7, .slice _ 2 2] w1 _ from t19 a7 _ c7 2 [0, 1] [0, 1] w1 (h1.rd_of_own memZ) (h1.rd_of_blk memZ) (by decide)) h1 | exact CallsTo.q (show CallsTo Try.prog 17 [.slice a8 2 c8, .slice _ 2 2] w1 _ from t19 a8 _ c8 2 [3, 5] [3, 5] w1 (h1.rd_of_own memZ) (h1.rd_of_blk memZ) (by decide)) h1 | exact CallsTo.q (show CallsTo Try.prog 25 [.slice a9 2 c9, .slice (some ⟨bk, 0, none⟩) 2 3] w1 _ from m25 a9 (some ⟨bk, 0, none⟩) c9 3 [plcA 0 14, plcA 1 24] [plcA 0 14, plcA 1 24] w1 (h1.rd_of_own memZ) (Rd.take 8 (h1.rd_of_blk (b := bk) (cs := pcs knownW) memZ)) (by decide)) h1 | exact CallsTo.q (show CallsTo Try.prog 25 [.slice a9 1 c9, .slice (some ⟨bk, 8, none⟩) 1 1] w1 _ from m25 a9 (some ⟨bk, 8, none⟩) c9 1 [plcA 2 96] [plcA 2 96] w1 (h1.rd_of_own memZ) (rd_from8 (h1.rd_of_blk (b := bk) (cs := pcs knownW) memZ)) (by decide)) h1))|(apply LR.call; (· exact rfl); (intro w1 h1; first | (refine CallsTo.mono (show CallsTo Try.prog 33 [] w1 _ from m33 w1) ?_; rintro v w2 ⟨b1, b2, rfl, hn⟩; refine LR.back (h1.got hn th_dep) ?_; clear hn h1) | (refine CallsTo.mono (show CallsTo Try.prog 18 [threeP.val (threeA b1 b2), .int .i64 3] w1 _ from m18 threeP (threeA b1 b2) 3 w1 (thR (h1.holds (both (thr1 b1) (thr2 b2)) memZ)) threeI) ?_; rintro v w2 ⟨a7, c7, rfl, hn⟩; rw [w_sides] at hn ⊢; refine LR.back (h1.newSl hn) ?_; clear hn h1) | (refine CallsTo.mono (show CallsTo Try.prog 20 [threeP.val (threeA b1 b2), .int .i64 1] w1 _ from m20 threeP (threeA b1 b2) 1 w1 (thR (h1.holds (both (thr1 b1) (thr2 b2)) memZ)) threeI) ?_; rintro v w2 ⟨a8, c8, rfl, hn⟩; rw [w_gws] at hn ⊢; refine LR.back (h1.newSl hn) ?_; clear hn h1) | (refine CallsTo.mono (show CallsTo Try.prog 24 [threeP.val (threeA b1 b2), .int .i64 0, .slice (some ⟨bk, 0, none⟩) 3 3] w1 _ from m24 threeP (threeA b1 b2) threeI 0 knownW (some ⟨bk, 0, none⟩) 3 w1 (thR (h1.holds (both (thr1 b1) (thr2 b2)) memZ)) (h1.rd_of_blk memZ) (by decide)) ?_; rintro v w2 ⟨a9, c9, rfl, hn⟩; rw [w_view0] at hn ⊢; refine LR.back (h1.newSl hn) ?_; clear hn h1) | (refine CallsTo.mono (show CallsTo Try.prog 24 [threeP.val (threeA b1 b2), .int .i64 2, .slice (some ⟨bk, 0, none⟩) 3 3] w1 _ from m24 threeP (threeA b1 b2) threeI 2 knownW (some ⟨bk, 0, none⟩) 3 w1 (thR (h1.holds (both (thr1 b1) (thr2 b2)) memZ)) (h1.rd_of_blk memZ) (by decide)) ?_; rintro v w2 ⟨a9, c9, rfl, hn⟩; rw [w_view2] at hn ⊢; refine LR.back (h1.newSl hn) ?_; clear hn h1) | (refine CallsTo.mono (show CallsTo Try.prog 27 [.slice none 0 0, (plcA 1 24).val] w1 _ from m27 sort_few [] none 0 (plcA 1 24) w1 (Rd.nil _ _) (fun _ => rfl) (by decide) (by decide) (by decide)) ?_; rintro v w2 ⟨a10, c10, rfl, hn⟩; rw [w_lrn] at hn ⊢; refine LR.back (h1.newSl hn) ?_; clear hn h1))))
  apply At.pdone (ds := [19]) rfl
  · repeat (first | exact MixR.base _ | (apply MixR.upd; case hd => exact rfl))
  · repeat (first | exact Tl.nil | apply Tl.cons)
  · exact (fun A w' hA => St.sub hA (by simp only [List.cons_append, List.nil_append]; repeat (first | exact List.nil_sublist _ | exact List.Sublist.refl _ | apply List.Sublist.cons_cons | apply List.Sublist.cons)))
  refine DP.take 6 19 (fun b => .slice (some ⟨b, 0, none⟩) 2 2) (fun b => [.own b (.cells ([.int .i64 0, .int .i64 1] : List Value).toArray 3 (0, 0))]) [] [19] [[16]] rfl rfl rfl rfl rfl rfl rfl (by decide +kernel) ⟨⟨rfl, trivial⟩, fun _ _ _ => trivial, trivial⟩ (fun A w' hA => St.sub hA (by simp only [List.cons_append, List.nil_append]; repeat (first | exact List.nil_sublist _ | exact List.Sublist.refl _ | apply List.Sublist.cons_cons | apply List.Sublist.cons))) (fun bp19 => ?_)
  refine DP.nil ?_
  refine DW.castL (by simp only [List.cons_append, List.nil_append]; exact rfl) ?_
  all_goals (
    apply DW.loud 7
    · exact rfl
    · decide +kernel
    repeat'(first|refine kg' ?_|refine kG' ?_|apply kM|refine kv' ?_|refine kK' fun _=>?_|refine kU' ?_|refine kB' fun _=>?_|refine kA' fun _=>?_|(apply kq; (· exact rfl); (· intro w1 h1; first | (have hq := CallsTo.q (m13 threeP (threeA b1 b2) w1 (thR (h1.holds (both (thr1 b1) (thr2 b2)) memZ)) threeI) h1; rw [w_chk] at hq; exact hq) | (have hq := CallsTo.q (m15 threeP (threeA b1 b2) 3 0 w1 (thR (h1.holds (both (thr1 b1) (thr2 b2)) memZ)) threeI) h1; rw [w_far] at hq; exact hq) | exact CallsTo.q (m34 0 14 w1 (by decide)) h1 | exact CallsTo.q (m34 1 24 w1 (by decide)) h1 | exact CallsTo.q (m34 2 96 w1 (by decide)) h1 | exact CallsTo.q (show CallsTo Try.prog 17 [.slice a7 2 c7, .slice _ 2 2] w1 _ from t19 a7 _ c7 2 [0, 1] [0, 1] w1 (h1.rd_of_own memZ) (h1.rd_of_blk memZ) (by decide)) h1 | exact CallsTo.q (show CallsTo Try.prog 17 [.slice a8 2 c8, .slice _ 2 2] w1 _ from t19 a8 _ c8 2 [3, 5] [3, 5] w1 (h1.rd_of_own memZ) (h1.rd_of_blk memZ) (by decide)) h1 | exact CallsTo.q (show CallsTo Try.prog 25 [.slice a9 2 c9, .slice (some ⟨bk, 0, none⟩) 2 3] w1 _ from m25 a9 (some ⟨bk, 0, none⟩) c9 3 [plcA 0 14, plcA 1 24] [plcA 0 14, plcA 1 24] w1 (h1.rd_of_own memZ) (Rd.take 8 (h1.rd_of_blk (b := bk) (cs := pcs knownW) memZ)) (by decide)) h1 | exact CallsTo.q (show CallsTo Try.prog 25 [.slice a9 1 c9, .slice (some ⟨bk, 8, none⟩) 1 1] w1 _ from m25 a9 (some ⟨bk, 8, none⟩) c9 1 [plcA 2 96] [plcA 2 96] w1 (h1.rd_of_own memZ) (rd_from8 (h1.rd_of_blk (b := bk) (cs := pcs knownW) memZ)) (by decide)) h1))|(apply LR.call; (· exact rfl); (intro w1 h1; first | (refine CallsTo.mono (show CallsTo Try.prog 33 [] w1 _ from m33 w1) ?_; rintro v w2 ⟨b1, b2, rfl, hn⟩; refine LR.back (h1.got hn th_dep) ?_; clear hn h1) | (refine CallsTo.mono (show CallsTo Try.prog 18 [threeP.val (threeA b1 b2), .int .i64 3] w1 _ from m18 threeP (threeA b1 b2) 3 w1 (thR (h1.holds (both (thr1 b1) (thr2 b2)) memZ)) threeI) ?_; rintro v w2 ⟨a7, c7, rfl, hn⟩; rw [w_sides] at hn ⊢; refine LR.back (h1.newSl hn) ?_; clear hn h1) | (refine CallsTo.mono (show CallsTo Try.prog 20 [threeP.val (threeA b1 b2), .int .i64 1] w1 _ from m20 threeP (threeA b1 b2) 1 w1 (thR (h1.holds (both (thr1 b1) (thr2 b2)) memZ)) threeI) ?_; rintro v w2 ⟨a8, c8, rfl, hn⟩; rw [w_gws] at hn ⊢; refine LR.back (h1.newSl hn) ?_; clear hn h1) | (refine CallsTo.mono (show CallsTo Try.prog 24 [threeP.val (threeA b1 b2), .int .i64 0, .slice (some ⟨bk, 0, none⟩) 3 3] w1 _ from m24 threeP (threeA b1 b2) threeI 0 knownW (some ⟨bk, 0, none⟩) 3 w1 (thR (h1.holds (both (thr1 b1) (thr2 b2)) memZ)) (h1.rd_of_blk memZ) (by decide)) ?_; rintro v w2 ⟨a9, c9, rfl, hn⟩; rw [w_view0] at hn ⊢; refine LR.back (h1.newSl hn) ?_; clear hn h1) | (refine CallsTo.mono (show CallsTo Try.prog 24 [threeP.val (threeA b1 b2), .int .i64 2, .slice (some ⟨bk, 0, none⟩) 3 3] w1 _ from m24 threeP (threeA b1 b2) threeI 2 knownW (some ⟨bk, 0, none⟩) 3 w1 (thR (h1.holds (both (thr1 b1) (thr2 b2)) memZ)) (h1.rd_of_blk memZ) (by decide)) ?_; rintro v w2 ⟨a9, c9, rfl, hn⟩; rw [w_view2] at hn ⊢; refine LR.back (h1.newSl hn) ?_; clear hn h1) | (refine CallsTo.mono (show CallsTo Try.prog 27 [.slice none 0 0, (plcA 1 24).val] w1 _ from m27 sort_few [] none 0 (plcA 1 24) w1 (Rd.nil _ _) (fun _ => rfl) (by decide) (by decide) (by decide)) ?_; rintro v w2 ⟨a10, c10, rfl, hn⟩; rw [w_lrn] at hn ⊢; refine LR.back (h1.newSl hn) ?_; clear hn h1))))
    all_goals (refine At.stage_same (fun _ h => St.sub h subZ) ?_))
  all_goals (
    apply DW.quiet [8, 9]
    · decide +kernel
    · first | exact fun _ h => h | exact fun _ h => St.sub h subZ
    repeat'(first|(apply QL.evg; (iterate 3 exact rfl); (· apply Ev_hi; (· exact rfl); (· exact rfl); (· decide); (· decide)); (· exact rfl))|(apply QL.evg; (iterate 3 exact rfl); (· apply Ev_lo; (· exact rfl); (· exact rfl); (· decide); (· decide); (· decide)); (· exact rfl))|refine yv' ?_|refine uv' ?_|refine un' ?_|(refine us' ?_ ?_;all_goals(intro hc;try simp only[hcs]at hc;try(exfalso;first|contradiction|omega)))|apply QL.nil)
    all_goals (show DW _ _ _ _ _ _ _ _))
  apply DP.begin []
  refine DP.more (PI.lr 12 25 [(22, .bool true)] (fun b => .slice (some ⟨b, 0, none⟩) 2 2) (fun b => [.own b (.cells ([.int .i64 3, .int .i64 5] : List Value).toArray 3 (0, 0))]) rfl (fun b x hx => by simp only [List.mem_singleton] at hx; subst hx; rfl) ?_) ?_
  · intro h w2
    apply kg
    · exact rfl
    · exact rfl
    apply kK
    · exact rfl
    · exact rfl
    · exact rfl
    · exact rfl
    intro b
    apply kM
    exact At.made rfl
  refine DP.go 10 [12] [25] [[22]] rfl rfl rfl rfl (by decide +kernel) ⟨⟨rfl, trivial⟩, fun _ _ _ => trivial, trivial⟩ (fun A w' hA => St.sub hA (by simp only [List.cons_append, List.nil_append]; repeat (first | exact List.nil_sublist _ | exact List.Sublist.refl _ | apply List.Sublist.cons_cons | apply List.Sublist.cons))) ?_
  intro gg A LA hLA
  simp only [List.cons_append, List.nil_append] at hLA
  subst hLA
  repeat'(first|refine kg' ?_|refine kG' ?_|apply kM|refine kv' ?_|refine kK' fun _=>?_|refine kU' ?_|refine kB' fun _=>?_|refine kA' fun _=>?_|(apply kq; (· exact rfl); (· intro w1 h1; first | (have hq := CallsTo.q (m13 threeP (threeA b1 b2) w1 (thR (h1.holds (both (thr1 b1) (thr2 b2)) memZ)) threeI) h1; rw [w_chk] at hq; exact hq) | (have hq := CallsTo.q (m15 threeP (threeA b1 b2) 3 0 w1 (thR (h1.holds (both (thr1 b1) (thr2 b2)) memZ)) threeI) h1; rw [w_far] at hq; exact hq) | exact CallsTo.q (m34 0 14 w1 (by decide)) h1 | exact CallsTo.q (m34 1 24 w1 (by decide)) h1 | exact CallsTo.q (m34 2 96 w1 (by decide)) h1 | exact CallsTo.q (show CallsTo Try.prog 17 [.slice a7 2 c7, .slice _ 2 2] w1 _ from t19 a7 _ c7 2 [0, 1] [0, 1] w1 (h1.rd_of_own memZ) (h1.rd_of_blk memZ) (by decide)) h1 | exact CallsTo.q (show CallsTo Try.prog 17 [.slice a8 2 c8, .slice _ 2 2] w1 _ from t19 a8 _ c8 2 [3, 5] [3, 5] w1 (h1.rd_of_own memZ) (h1.rd_of_blk memZ) (by decide)) h1 | exact CallsTo.q (show CallsTo Try.prog 25 [.slice a9 2 c9, .slice (some ⟨bk, 0, none⟩) 2 3] w1 _ from m25 a9 (some ⟨bk, 0, none⟩) c9 3 [plcA 0 14, plcA 1 24] [plcA 0 14, plcA 1 24] w1 (h1.rd_of_own memZ) (Rd.take 8 (h1.rd_of_blk (b := bk) (cs := pcs knownW) memZ)) (by decide)) h1 | exact CallsTo.q (show CallsTo Try.prog 25 [.slice a9 1 c9, .slice (some ⟨bk, 8, none⟩) 1 1] w1 _ from m25 a9 (some ⟨bk, 8, none⟩) c9 1 [plcA 2 96] [plcA 2 96] w1 (h1.rd_of_own memZ) (rd_from8 (h1.rd_of_blk (b := bk) (cs := pcs knownW) memZ)) (by decide)) h1))|(apply LR.call; (· exact rfl); (intro w1 h1; first | (refine CallsTo.mono (show CallsTo Try.prog 33 [] w1 _ from m33 w1) ?_; rintro v w2 ⟨b1, b2, rfl, hn⟩; refine LR.back (h1.got hn th_dep) ?_; clear hn h1) | (refine CallsTo.mono (show CallsTo Try.prog 18 [threeP.val (threeA b1 b2), .int .i64 3] w1 _ from m18 threeP (threeA b1 b2) 3 w1 (thR (h1.holds (both (thr1 b1) (thr2 b2)) memZ)) threeI) ?_; rintro v w2 ⟨a7, c7, rfl, hn⟩; rw [w_sides] at hn ⊢; refine LR.back (h1.newSl hn) ?_; clear hn h1) | (refine CallsTo.mono (show CallsTo Try.prog 20 [threeP.val (threeA b1 b2), .int .i64 1] w1 _ from m20 threeP (threeA b1 b2) 1 w1 (thR (h1.holds (both (thr1 b1) (thr2 b2)) memZ)) threeI) ?_; rintro v w2 ⟨a8, c8, rfl, hn⟩; rw [w_gws] at hn ⊢; refine LR.back (h1.newSl hn) ?_; clear hn h1) | (refine CallsTo.mono (show CallsTo Try.prog 24 [threeP.val (threeA b1 b2), .int .i64 0, .slice (some ⟨bk, 0, none⟩) 3 3] w1 _ from m24 threeP (threeA b1 b2) threeI 0 knownW (some ⟨bk, 0, none⟩) 3 w1 (thR (h1.holds (both (thr1 b1) (thr2 b2)) memZ)) (h1.rd_of_blk memZ) (by decide)) ?_; rintro v w2 ⟨a9, c9, rfl, hn⟩; rw [w_view0] at hn ⊢; refine LR.back (h1.newSl hn) ?_; clear hn h1) | (refine CallsTo.mono (show CallsTo Try.prog 24 [threeP.val (threeA b1 b2), .int .i64 2, .slice (some ⟨bk, 0, none⟩) 3 3] w1 _ from m24 threeP (threeA b1 b2) threeI 2 knownW (some ⟨bk, 0, none⟩) 3 w1 (thR (h1.holds (both (thr1 b1) (thr2 b2)) memZ)) (h1.rd_of_blk memZ) (by decide)) ?_; rintro v w2 ⟨a9, c9, rfl, hn⟩; rw [w_view2] at hn ⊢; refine LR.back (h1.newSl hn) ?_; clear hn h1) | (refine CallsTo.mono (show CallsTo Try.prog 27 [.slice none 0 0, (plcA 1 24).val] w1 _ from m27 sort_few [] none 0 (plcA 1 24) w1 (Rd.nil _ _) (fun _ => rfl) (by decide) (by decide) (by decide)) ?_; rintro v w2 ⟨a10, c10, rfl, hn⟩; rw [w_lrn] at hn ⊢; refine LR.back (h1.newSl hn) ?_; clear hn h1))))
  apply At.pdone (ds := [25]) rfl
  · repeat (first | exact MixR.base _ | (apply MixR.upd; case hd => exact rfl))
  · repeat (first | exact Tl.nil | apply Tl.cons)
  · exact (fun A w' hA => St.sub hA (by simp only [List.cons_append, List.nil_append]; repeat (first | exact List.nil_sublist _ | exact List.Sublist.refl _ | apply List.Sublist.cons_cons | apply List.Sublist.cons)))
  refine DP.go 11 [12] [25] [[22]] rfl rfl rfl rfl (by decide +kernel) ⟨⟨rfl, trivial⟩, fun _ _ _ => trivial, trivial⟩ (fun A w' hA => St.sub hA (by simp only [List.cons_append, List.nil_append]; repeat (first | exact List.nil_sublist _ | exact List.Sublist.refl _ | apply List.Sublist.cons_cons | apply List.Sublist.cons))) ?_
  intro gg A LA hLA
  simp only [List.cons_append, List.nil_append] at hLA
  subst hLA
  repeat'(first|refine kg' ?_|refine kG' ?_|apply kM|refine kv' ?_|refine kK' fun _=>?_|refine kU' ?_|refine kB' fun _=>?_|refine kA' fun _=>?_|(apply kq; (· exact rfl); (· intro w1 h1; first | (have hq := CallsTo.q (m13 threeP (threeA b1 b2) w1 (thR (h1.holds (both (thr1 b1) (thr2 b2)) memZ)) threeI) h1; rw [w_chk] at hq; exact hq) | (have hq := CallsTo.q (m15 threeP (threeA b1 b2) 3 0 w1 (thR (h1.holds (both (thr1 b1) (thr2 b2)) memZ)) threeI) h1; rw [w_far] at hq; exact hq) | exact CallsTo.q (m34 0 14 w1 (by decide)) h1 | exact CallsTo.q (m34 1 24 w1 (by decide)) h1 | exact CallsTo.q (m34 2 96 w1 (by decide)) h1 | exact CallsTo.q (show CallsTo Try.prog 17 [.slice a7 2 c7, .slice _ 2 2] w1 _ from t19 a7 _ c7 2 [0, 1] [0, 1] w1 (h1.rd_of_own memZ) (h1.rd_of_blk memZ) (by decide)) h1 | exact CallsTo.q (show CallsTo Try.prog 17 [.slice a8 2 c8, .slice _ 2 2] w1 _ from t19 a8 _ c8 2 [3, 5] [3, 5] w1 (h1.rd_of_own memZ) (h1.rd_of_blk memZ) (by decide)) h1 | exact CallsTo.q (show CallsTo Try.prog 25 [.slice a9 2 c9, .slice (some ⟨bk, 0, none⟩) 2 3] w1 _ from m25 a9 (some ⟨bk, 0, none⟩) c9 3 [plcA 0 14, plcA 1 24] [plcA 0 14, plcA 1 24] w1 (h1.rd_of_own memZ) (Rd.take 8 (h1.rd_of_blk (b := bk) (cs := pcs knownW) memZ)) (by decide)) h1 | exact CallsTo.q (show CallsTo Try.prog 25 [.slice a9 1 c9, .slice (some ⟨bk, 8, none⟩) 1 1] w1 _ from m25 a9 (some ⟨bk, 8, none⟩) c9 1 [plcA 2 96] [plcA 2 96] w1 (h1.rd_of_own memZ) (rd_from8 (h1.rd_of_blk (b := bk) (cs := pcs knownW) memZ)) (by decide)) h1))|(apply LR.call; (· exact rfl); (intro w1 h1; first | (refine CallsTo.mono (show CallsTo Try.prog 33 [] w1 _ from m33 w1) ?_; rintro v w2 ⟨b1, b2, rfl, hn⟩; refine LR.back (h1.got hn th_dep) ?_; clear hn h1) | (refine CallsTo.mono (show CallsTo Try.prog 18 [threeP.val (threeA b1 b2), .int .i64 3] w1 _ from m18 threeP (threeA b1 b2) 3 w1 (thR (h1.holds (both (thr1 b1) (thr2 b2)) memZ)) threeI) ?_; rintro v w2 ⟨a7, c7, rfl, hn⟩; rw [w_sides] at hn ⊢; refine LR.back (h1.newSl hn) ?_; clear hn h1) | (refine CallsTo.mono (show CallsTo Try.prog 20 [threeP.val (threeA b1 b2), .int .i64 1] w1 _ from m20 threeP (threeA b1 b2) 1 w1 (thR (h1.holds (both (thr1 b1) (thr2 b2)) memZ)) threeI) ?_; rintro v w2 ⟨a8, c8, rfl, hn⟩; rw [w_gws] at hn ⊢; refine LR.back (h1.newSl hn) ?_; clear hn h1) | (refine CallsTo.mono (show CallsTo Try.prog 24 [threeP.val (threeA b1 b2), .int .i64 0, .slice (some ⟨bk, 0, none⟩) 3 3] w1 _ from m24 threeP (threeA b1 b2) threeI 0 knownW (some ⟨bk, 0, none⟩) 3 w1 (thR (h1.holds (both (thr1 b1) (thr2 b2)) memZ)) (h1.rd_of_blk memZ) (by decide)) ?_; rintro v w2 ⟨a9, c9, rfl, hn⟩; rw [w_view0] at hn ⊢; refine LR.back (h1.newSl hn) ?_; clear hn h1) | (refine CallsTo.mono (show CallsTo Try.prog 24 [threeP.val (threeA b1 b2), .int .i64 2, .slice (some ⟨bk, 0, none⟩) 3 3] w1 _ from m24 threeP (threeA b1 b2) threeI 2 knownW (some ⟨bk, 0, none⟩) 3 w1 (thR (h1.holds (both (thr1 b1) (thr2 b2)) memZ)) (h1.rd_of_blk memZ) (by decide)) ?_; rintro v w2 ⟨a9, c9, rfl, hn⟩; rw [w_view2] at hn ⊢; refine LR.back (h1.newSl hn) ?_; clear hn h1) | (refine CallsTo.mono (show CallsTo Try.prog 27 [.slice none 0 0, (plcA 1 24).val] w1 _ from m27 sort_few [] none 0 (plcA 1 24) w1 (Rd.nil _ _) (fun _ => rfl) (by decide) (by decide) (by decide)) ?_; rintro v w2 ⟨a10, c10, rfl, hn⟩; rw [w_lrn] at hn ⊢; refine LR.back (h1.newSl hn) ?_; clear hn h1))))
  apply At.pdone (ds := [25]) rfl
  · repeat (first | exact MixR.base _ | (apply MixR.upd; case hd => exact rfl))
  · repeat (first | exact Tl.nil | apply Tl.cons)
  · exact (fun A w' hA => St.sub hA (by simp only [List.cons_append, List.nil_append]; repeat (first | exact List.nil_sublist _ | exact List.Sublist.refl _ | apply List.Sublist.cons_cons | apply List.Sublist.cons)))
  refine DP.take 12 25 (fun b => .slice (some ⟨b, 0, none⟩) 2 2) (fun b => [.own b (.cells ([.int .i64 3, .int .i64 5] : List Value).toArray 3 (0, 0))]) [] [25] [[22]] rfl rfl rfl rfl rfl rfl rfl (by decide +kernel) ⟨⟨rfl, trivial⟩, fun _ _ _ => trivial, trivial⟩ (fun A w' hA => St.sub hA (by simp only [List.cons_append, List.nil_append]; repeat (first | exact List.nil_sublist _ | exact List.Sublist.refl _ | apply List.Sublist.cons_cons | apply List.Sublist.cons))) (fun bp25 => ?_)
  refine DP.nil ?_
  refine DW.castL (by simp only [List.cons_append, List.nil_append]; exact rfl) ?_
  all_goals (
    apply DW.loud 13
    · exact rfl
    · decide +kernel
    repeat'(first|refine kg' ?_|refine kG' ?_|apply kM|refine kv' ?_|refine kK' fun _=>?_|refine kU' ?_|refine kB' fun _=>?_|refine kA' fun _=>?_|(apply kq; (· exact rfl); (· intro w1 h1; first | (have hq := CallsTo.q (m13 threeP (threeA b1 b2) w1 (thR (h1.holds (both (thr1 b1) (thr2 b2)) memZ)) threeI) h1; rw [w_chk] at hq; exact hq) | (have hq := CallsTo.q (m15 threeP (threeA b1 b2) 3 0 w1 (thR (h1.holds (both (thr1 b1) (thr2 b2)) memZ)) threeI) h1; rw [w_far] at hq; exact hq) | exact CallsTo.q (m34 0 14 w1 (by decide)) h1 | exact CallsTo.q (m34 1 24 w1 (by decide)) h1 | exact CallsTo.q (m34 2 96 w1 (by decide)) h1 | exact CallsTo.q (show CallsTo Try.prog 17 [.slice a7 2 c7, .slice _ 2 2] w1 _ from t19 a7 _ c7 2 [0, 1] [0, 1] w1 (h1.rd_of_own memZ) (h1.rd_of_blk memZ) (by decide)) h1 | exact CallsTo.q (show CallsTo Try.prog 17 [.slice a8 2 c8, .slice _ 2 2] w1 _ from t19 a8 _ c8 2 [3, 5] [3, 5] w1 (h1.rd_of_own memZ) (h1.rd_of_blk memZ) (by decide)) h1 | exact CallsTo.q (show CallsTo Try.prog 25 [.slice a9 2 c9, .slice (some ⟨bk, 0, none⟩) 2 3] w1 _ from m25 a9 (some ⟨bk, 0, none⟩) c9 3 [plcA 0 14, plcA 1 24] [plcA 0 14, plcA 1 24] w1 (h1.rd_of_own memZ) (Rd.take 8 (h1.rd_of_blk (b := bk) (cs := pcs knownW) memZ)) (by decide)) h1 | exact CallsTo.q (show CallsTo Try.prog 25 [.slice a9 1 c9, .slice (some ⟨bk, 8, none⟩) 1 1] w1 _ from m25 a9 (some ⟨bk, 8, none⟩) c9 1 [plcA 2 96] [plcA 2 96] w1 (h1.rd_of_own memZ) (rd_from8 (h1.rd_of_blk (b := bk) (cs := pcs knownW) memZ)) (by decide)) h1))|(apply LR.call; (· exact rfl); (intro w1 h1; first | (refine CallsTo.mono (show CallsTo Try.prog 33 [] w1 _ from m33 w1) ?_; rintro v w2 ⟨b1, b2, rfl, hn⟩; refine LR.back (h1.got hn th_dep) ?_; clear hn h1) | (refine CallsTo.mono (show CallsTo Try.prog 18 [threeP.val (threeA b1 b2), .int .i64 3] w1 _ from m18 threeP (threeA b1 b2) 3 w1 (thR (h1.holds (both (thr1 b1) (thr2 b2)) memZ)) threeI) ?_; rintro v w2 ⟨a7, c7, rfl, hn⟩; rw [w_sides] at hn ⊢; refine LR.back (h1.newSl hn) ?_; clear hn h1) | (refine CallsTo.mono (show CallsTo Try.prog 20 [threeP.val (threeA b1 b2), .int .i64 1] w1 _ from m20 threeP (threeA b1 b2) 1 w1 (thR (h1.holds (both (thr1 b1) (thr2 b2)) memZ)) threeI) ?_; rintro v w2 ⟨a8, c8, rfl, hn⟩; rw [w_gws] at hn ⊢; refine LR.back (h1.newSl hn) ?_; clear hn h1) | (refine CallsTo.mono (show CallsTo Try.prog 24 [threeP.val (threeA b1 b2), .int .i64 0, .slice (some ⟨bk, 0, none⟩) 3 3] w1 _ from m24 threeP (threeA b1 b2) threeI 0 knownW (some ⟨bk, 0, none⟩) 3 w1 (thR (h1.holds (both (thr1 b1) (thr2 b2)) memZ)) (h1.rd_of_blk memZ) (by decide)) ?_; rintro v w2 ⟨a9, c9, rfl, hn⟩; rw [w_view0] at hn ⊢; refine LR.back (h1.newSl hn) ?_; clear hn h1) | (refine CallsTo.mono (show CallsTo Try.prog 24 [threeP.val (threeA b1 b2), .int .i64 2, .slice (some ⟨bk, 0, none⟩) 3 3] w1 _ from m24 threeP (threeA b1 b2) threeI 2 knownW (some ⟨bk, 0, none⟩) 3 w1 (thR (h1.holds (both (thr1 b1) (thr2 b2)) memZ)) (h1.rd_of_blk memZ) (by decide)) ?_; rintro v w2 ⟨a9, c9, rfl, hn⟩; rw [w_view2] at hn ⊢; refine LR.back (h1.newSl hn) ?_; clear hn h1) | (refine CallsTo.mono (show CallsTo Try.prog 27 [.slice none 0 0, (plcA 1 24).val] w1 _ from m27 sort_few [] none 0 (plcA 1 24) w1 (Rd.nil _ _) (fun _ => rfl) (by decide) (by decide) (by decide)) ?_; rintro v w2 ⟨a10, c10, rfl, hn⟩; rw [w_lrn] at hn ⊢; refine LR.back (h1.newSl hn) ?_; clear hn h1))))
    all_goals (refine At.stage_same (fun _ h => St.sub h subZ) ?_))
  all_goals (
    apply DW.quiet [14, 15, 16, 17, 18, 19, 20, 21, 22, 24, 26, 27]
    · decide +kernel
    · first | exact fun _ h => h | exact fun _ h => St.sub h subZ
    repeat'(first|(apply QL.evg; (iterate 3 exact rfl); (· apply Ev_hi; (· exact rfl); (· exact rfl); (· decide); (· decide)); (· exact rfl))|(apply QL.evg; (iterate 3 exact rfl); (· apply Ev_lo; (· exact rfl); (· exact rfl); (· decide); (· decide); (· decide)); (· exact rfl))|refine yv' ?_|refine uv' ?_|refine un' ?_|(refine us' ?_ ?_;all_goals(intro hc;try simp only[hcs]at hc;try(exfalso;first|contradiction|omega)))|apply QL.nil)
    all_goals (show DW _ _ _ _ _ _ _ _))
  all_goals (
    apply DW.loud 23
    · exact rfl
    · decide +kernel
    repeat'(first|refine kg' ?_|refine kG' ?_|apply kM|refine kv' ?_|refine kK' fun _=>?_|refine kU' ?_|refine kB' fun _=>?_|refine kA' fun _=>?_|(apply kq; (· exact rfl); (· intro w1 h1; first | (have hq := CallsTo.q (m13 threeP (threeA b1 b2) w1 (thR (h1.holds (both (thr1 b1) (thr2 b2)) memZ)) threeI) h1; rw [w_chk] at hq; exact hq) | (have hq := CallsTo.q (m15 threeP (threeA b1 b2) 3 0 w1 (thR (h1.holds (both (thr1 b1) (thr2 b2)) memZ)) threeI) h1; rw [w_far] at hq; exact hq) | exact CallsTo.q (m34 0 14 w1 (by decide)) h1 | exact CallsTo.q (m34 1 24 w1 (by decide)) h1 | exact CallsTo.q (m34 2 96 w1 (by decide)) h1 | exact CallsTo.q (show CallsTo Try.prog 17 [.slice a7 2 c7, .slice _ 2 2] w1 _ from t19 a7 _ c7 2 [0, 1] [0, 1] w1 (h1.rd_of_own memZ) (h1.rd_of_blk memZ) (by decide)) h1 | exact CallsTo.q (show CallsTo Try.prog 17 [.slice a8 2 c8, .slice _ 2 2] w1 _ from t19 a8 _ c8 2 [3, 5] [3, 5] w1 (h1.rd_of_own memZ) (h1.rd_of_blk memZ) (by decide)) h1 | exact CallsTo.q (show CallsTo Try.prog 25 [.slice a9 2 c9, .slice (some ⟨bk, 0, none⟩) 2 3] w1 _ from m25 a9 (some ⟨bk, 0, none⟩) c9 3 [plcA 0 14, plcA 1 24] [plcA 0 14, plcA 1 24] w1 (h1.rd_of_own memZ) (Rd.take 8 (h1.rd_of_blk (b := bk) (cs := pcs knownW) memZ)) (by decide)) h1 | exact CallsTo.q (show CallsTo Try.prog 25 [.slice a9 1 c9, .slice (some ⟨bk, 8, none⟩) 1 1] w1 _ from m25 a9 (some ⟨bk, 8, none⟩) c9 1 [plcA 2 96] [plcA 2 96] w1 (h1.rd_of_own memZ) (rd_from8 (h1.rd_of_blk (b := bk) (cs := pcs knownW) memZ)) (by decide)) h1))|(apply LR.call; (· exact rfl); (intro w1 h1; first | (refine CallsTo.mono (show CallsTo Try.prog 33 [] w1 _ from m33 w1) ?_; rintro v w2 ⟨b1, b2, rfl, hn⟩; refine LR.back (h1.got hn th_dep) ?_; clear hn h1) | (refine CallsTo.mono (show CallsTo Try.prog 18 [threeP.val (threeA b1 b2), .int .i64 3] w1 _ from m18 threeP (threeA b1 b2) 3 w1 (thR (h1.holds (both (thr1 b1) (thr2 b2)) memZ)) threeI) ?_; rintro v w2 ⟨a7, c7, rfl, hn⟩; rw [w_sides] at hn ⊢; refine LR.back (h1.newSl hn) ?_; clear hn h1) | (refine CallsTo.mono (show CallsTo Try.prog 20 [threeP.val (threeA b1 b2), .int .i64 1] w1 _ from m20 threeP (threeA b1 b2) 1 w1 (thR (h1.holds (both (thr1 b1) (thr2 b2)) memZ)) threeI) ?_; rintro v w2 ⟨a8, c8, rfl, hn⟩; rw [w_gws] at hn ⊢; refine LR.back (h1.newSl hn) ?_; clear hn h1) | (refine CallsTo.mono (show CallsTo Try.prog 24 [threeP.val (threeA b1 b2), .int .i64 0, .slice (some ⟨bk, 0, none⟩) 3 3] w1 _ from m24 threeP (threeA b1 b2) threeI 0 knownW (some ⟨bk, 0, none⟩) 3 w1 (thR (h1.holds (both (thr1 b1) (thr2 b2)) memZ)) (h1.rd_of_blk memZ) (by decide)) ?_; rintro v w2 ⟨a9, c9, rfl, hn⟩; rw [w_view0] at hn ⊢; refine LR.back (h1.newSl hn) ?_; clear hn h1) | (refine CallsTo.mono (show CallsTo Try.prog 24 [threeP.val (threeA b1 b2), .int .i64 2, .slice (some ⟨bk, 0, none⟩) 3 3] w1 _ from m24 threeP (threeA b1 b2) threeI 2 knownW (some ⟨bk, 0, none⟩) 3 w1 (thR (h1.holds (both (thr1 b1) (thr2 b2)) memZ)) (h1.rd_of_blk memZ) (by decide)) ?_; rintro v w2 ⟨a9, c9, rfl, hn⟩; rw [w_view2] at hn ⊢; refine LR.back (h1.newSl hn) ?_; clear hn h1) | (refine CallsTo.mono (show CallsTo Try.prog 27 [.slice none 0 0, (plcA 1 24).val] w1 _ from m27 sort_few [] none 0 (plcA 1 24) w1 (Rd.nil _ _) (fun _ => rfl) (by decide) (by decide) (by decide)) ?_; rintro v w2 ⟨a10, c10, rfl, hn⟩; rw [w_lrn] at hn ⊢; refine LR.back (h1.newSl hn) ?_; clear hn h1))))
    all_goals (refine At.stage_same (fun _ h => St.sub h subZ) ?_))
  all_goals (
    apply DW.loud 25
    · exact rfl
    · decide +kernel
    repeat'(first|refine kg' ?_|refine kG' ?_|apply kM|refine kv' ?_|refine kK' fun _=>?_|refine kU' ?_|refine kB' fun _=>?_|refine kA' fun _=>?_|(apply kq; (· exact rfl); (· intro w1 h1; first | (have hq := CallsTo.q (m13 threeP (threeA b1 b2) w1 (thR (h1.holds (both (thr1 b1) (thr2 b2)) memZ)) threeI) h1; rw [w_chk] at hq; exact hq) | (have hq := CallsTo.q (m15 threeP (threeA b1 b2) 3 0 w1 (thR (h1.holds (both (thr1 b1) (thr2 b2)) memZ)) threeI) h1; rw [w_far] at hq; exact hq) | exact CallsTo.q (m34 0 14 w1 (by decide)) h1 | exact CallsTo.q (m34 1 24 w1 (by decide)) h1 | exact CallsTo.q (m34 2 96 w1 (by decide)) h1 | exact CallsTo.q (show CallsTo Try.prog 17 [.slice a7 2 c7, .slice _ 2 2] w1 _ from t19 a7 _ c7 2 [0, 1] [0, 1] w1 (h1.rd_of_own memZ) (h1.rd_of_blk memZ) (by decide)) h1 | exact CallsTo.q (show CallsTo Try.prog 17 [.slice a8 2 c8, .slice _ 2 2] w1 _ from t19 a8 _ c8 2 [3, 5] [3, 5] w1 (h1.rd_of_own memZ) (h1.rd_of_blk memZ) (by decide)) h1 | exact CallsTo.q (show CallsTo Try.prog 25 [.slice a9 2 c9, .slice (some ⟨bk, 0, none⟩) 2 3] w1 _ from m25 a9 (some ⟨bk, 0, none⟩) c9 3 [plcA 0 14, plcA 1 24] [plcA 0 14, plcA 1 24] w1 (h1.rd_of_own memZ) (Rd.take 8 (h1.rd_of_blk (b := bk) (cs := pcs knownW) memZ)) (by decide)) h1 | exact CallsTo.q (show CallsTo Try.prog 25 [.slice a9 1 c9, .slice (some ⟨bk, 8, none⟩) 1 1] w1 _ from m25 a9 (some ⟨bk, 8, none⟩) c9 1 [plcA 2 96] [plcA 2 96] w1 (h1.rd_of_own memZ) (rd_from8 (h1.rd_of_blk (b := bk) (cs := pcs knownW) memZ)) (by decide)) h1))|(apply LR.call; (· exact rfl); (intro w1 h1; first | (refine CallsTo.mono (show CallsTo Try.prog 33 [] w1 _ from m33 w1) ?_; rintro v w2 ⟨b1, b2, rfl, hn⟩; refine LR.back (h1.got hn th_dep) ?_; clear hn h1) | (refine CallsTo.mono (show CallsTo Try.prog 18 [threeP.val (threeA b1 b2), .int .i64 3] w1 _ from m18 threeP (threeA b1 b2) 3 w1 (thR (h1.holds (both (thr1 b1) (thr2 b2)) memZ)) threeI) ?_; rintro v w2 ⟨a7, c7, rfl, hn⟩; rw [w_sides] at hn ⊢; refine LR.back (h1.newSl hn) ?_; clear hn h1) | (refine CallsTo.mono (show CallsTo Try.prog 20 [threeP.val (threeA b1 b2), .int .i64 1] w1 _ from m20 threeP (threeA b1 b2) 1 w1 (thR (h1.holds (both (thr1 b1) (thr2 b2)) memZ)) threeI) ?_; rintro v w2 ⟨a8, c8, rfl, hn⟩; rw [w_gws] at hn ⊢; refine LR.back (h1.newSl hn) ?_; clear hn h1) | (refine CallsTo.mono (show CallsTo Try.prog 24 [threeP.val (threeA b1 b2), .int .i64 0, .slice (some ⟨bk, 0, none⟩) 3 3] w1 _ from m24 threeP (threeA b1 b2) threeI 0 knownW (some ⟨bk, 0, none⟩) 3 w1 (thR (h1.holds (both (thr1 b1) (thr2 b2)) memZ)) (h1.rd_of_blk memZ) (by decide)) ?_; rintro v w2 ⟨a9, c9, rfl, hn⟩; rw [w_view0] at hn ⊢; refine LR.back (h1.newSl hn) ?_; clear hn h1) | (refine CallsTo.mono (show CallsTo Try.prog 24 [threeP.val (threeA b1 b2), .int .i64 2, .slice (some ⟨bk, 0, none⟩) 3 3] w1 _ from m24 threeP (threeA b1 b2) threeI 2 knownW (some ⟨bk, 0, none⟩) 3 w1 (thR (h1.holds (both (thr1 b1) (thr2 b2)) memZ)) (h1.rd_of_blk memZ) (by decide)) ?_; rintro v w2 ⟨a9, c9, rfl, hn⟩; rw [w_view2] at hn ⊢; refine LR.back (h1.newSl hn) ?_; clear hn h1) | (refine CallsTo.mono (show CallsTo Try.prog 27 [.slice none 0 0, (plcA 1 24).val] w1 _ from m27 sort_few [] none 0 (plcA 1 24) w1 (Rd.nil _ _) (fun _ => rfl) (by decide) (by decide) (by decide)) ?_; rintro v w2 ⟨a10, c10, rfl, hn⟩; rw [w_lrn] at hn ⊢; refine LR.back (h1.newSl hn) ?_; clear hn h1))))
    all_goals (refine At.stage_same (fun _ h => St.sub h subZ) ?_))
  all_goals (
    apply DW.loud 28
    · exact rfl
    · decide +kernel
    repeat'(first|refine kg' ?_|refine kG' ?_|apply kM|refine kv' ?_|refine kK' fun _=>?_|refine kU' ?_|refine kB' fun _=>?_|refine kA' fun _=>?_|(apply kq; (· exact rfl); (· intro w1 h1; first | (have hq := CallsTo.q (m13 threeP (threeA b1 b2) w1 (thR (h1.holds (both (thr1 b1) (thr2 b2)) memZ)) threeI) h1; rw [w_chk] at hq; exact hq) | (have hq := CallsTo.q (m15 threeP (threeA b1 b2) 3 0 w1 (thR (h1.holds (both (thr1 b1) (thr2 b2)) memZ)) threeI) h1; rw [w_far] at hq; exact hq) | exact CallsTo.q (m34 0 14 w1 (by decide)) h1 | exact CallsTo.q (m34 1 24 w1 (by decide)) h1 | exact CallsTo.q (m34 2 96 w1 (by decide)) h1 | exact CallsTo.q (show CallsTo Try.prog 17 [.slice a7 2 c7, .slice _ 2 2] w1 _ from t19 a7 _ c7 2 [0, 1] [0, 1] w1 (h1.rd_of_own memZ) (h1.rd_of_blk memZ) (by decide)) h1 | exact CallsTo.q (show CallsTo Try.prog 17 [.slice a8 2 c8, .slice _ 2 2] w1 _ from t19 a8 _ c8 2 [3, 5] [3, 5] w1 (h1.rd_of_own memZ) (h1.rd_of_blk memZ) (by decide)) h1 | exact CallsTo.q (show CallsTo Try.prog 25 [.slice a9 2 c9, .slice (some ⟨bk, 0, none⟩) 2 3] w1 _ from m25 a9 (some ⟨bk, 0, none⟩) c9 3 [plcA 0 14, plcA 1 24] [plcA 0 14, plcA 1 24] w1 (h1.rd_of_own memZ) (Rd.take 8 (h1.rd_of_blk (b := bk) (cs := pcs knownW) memZ)) (by decide)) h1 | exact CallsTo.q (show CallsTo Try.prog 25 [.slice a9 1 c9, .slice (some ⟨bk, 8, none⟩) 1 1] w1 _ from m25 a9 (some ⟨bk, 8, none⟩) c9 1 [plcA 2 96] [plcA 2 96] w1 (h1.rd_of_own memZ) (rd_from8 (h1.rd_of_blk (b := bk) (cs := pcs knownW) memZ)) (by decide)) h1))|(apply LR.call; (· exact rfl); (intro w1 h1; first | (refine CallsTo.mono (show CallsTo Try.prog 33 [] w1 _ from m33 w1) ?_; rintro v w2 ⟨b1, b2, rfl, hn⟩; refine LR.back (h1.got hn th_dep) ?_; clear hn h1) | (refine CallsTo.mono (show CallsTo Try.prog 18 [threeP.val (threeA b1 b2), .int .i64 3] w1 _ from m18 threeP (threeA b1 b2) 3 w1 (thR (h1.holds (both (thr1 b1) (thr2 b2)) memZ)) threeI) ?_; rintro v w2 ⟨a7, c7, rfl, hn⟩; rw [w_sides] at hn ⊢; refine LR.back (h1.newSl hn) ?_; clear hn h1) | (refine CallsTo.mono (show CallsTo Try.prog 20 [threeP.val (threeA b1 b2), .int .i64 1] w1 _ from m20 threeP (threeA b1 b2) 1 w1 (thR (h1.holds (both (thr1 b1) (thr2 b2)) memZ)) threeI) ?_; rintro v w2 ⟨a8, c8, rfl, hn⟩; rw [w_gws] at hn ⊢; refine LR.back (h1.newSl hn) ?_; clear hn h1) | (refine CallsTo.mono (show CallsTo Try.prog 24 [threeP.val (threeA b1 b2), .int .i64 0, .slice (some ⟨bk, 0, none⟩) 3 3] w1 _ from m24 threeP (threeA b1 b2) threeI 0 knownW (some ⟨bk, 0, none⟩) 3 w1 (thR (h1.holds (both (thr1 b1) (thr2 b2)) memZ)) (h1.rd_of_blk memZ) (by decide)) ?_; rintro v w2 ⟨a9, c9, rfl, hn⟩; rw [w_view0] at hn ⊢; refine LR.back (h1.newSl hn) ?_; clear hn h1) | (refine CallsTo.mono (show CallsTo Try.prog 24 [threeP.val (threeA b1 b2), .int .i64 2, .slice (some ⟨bk, 0, none⟩) 3 3] w1 _ from m24 threeP (threeA b1 b2) threeI 2 knownW (some ⟨bk, 0, none⟩) 3 w1 (thR (h1.holds (both (thr1 b1) (thr2 b2)) memZ)) (h1.rd_of_blk memZ) (by decide)) ?_; rintro v w2 ⟨a9, c9, rfl, hn⟩; rw [w_view2] at hn ⊢; refine LR.back (h1.newSl hn) ?_; clear hn h1) | (refine CallsTo.mono (show CallsTo Try.prog 27 [.slice none 0 0, (plcA 1 24).val] w1 _ from m27 sort_few [] none 0 (plcA 1 24) w1 (Rd.nil _ _) (fun _ => rfl) (by decide) (by decide) (by decide)) ?_; rintro v w2 ⟨a10, c10, rfl, hn⟩; rw [w_lrn] at hn ⊢; refine LR.back (h1.newSl hn) ?_; clear hn h1))))
    all_goals (refine At.stage_same (fun _ h => St.sub h subZ) ?_))
  all_goals (
    apply DW.quiet [29, 30, 32, 34, 35]
    · decide +kernel
    · first | exact fun _ h => h | exact fun _ h => St.sub h subZ
    repeat'(first|(apply QL.evg; (iterate 3 exact rfl); (· apply Ev_hi; (· exact rfl); (· exact rfl); (· decide); (· decide)); (· exact rfl))|(apply QL.evg; (iterate 3 exact rfl); (· apply Ev_lo; (· exact rfl); (· exact rfl); (· decide); (· decide); (· decide)); (· exact rfl))|refine yv' ?_|refine uv' ?_|refine un' ?_|(refine us' ?_ ?_;all_goals(intro hc;try simp only[hcs]at hc;try(exfalso;first|contradiction|omega)))|apply QL.nil)
    all_goals (show DW _ _ _ _ _ _ _ _))
  all_goals (
    apply DW.loud 31
    · exact rfl
    · decide +kernel
    repeat'(first|refine kg' ?_|refine kG' ?_|apply kM|refine kv' ?_|refine kK' fun _=>?_|refine kU' ?_|refine kB' fun _=>?_|refine kA' fun _=>?_|(apply kq; (· exact rfl); (· intro w1 h1; first | (have hq := CallsTo.q (m13 threeP (threeA b1 b2) w1 (thR (h1.holds (both (thr1 b1) (thr2 b2)) memZ)) threeI) h1; rw [w_chk] at hq; exact hq) | (have hq := CallsTo.q (m15 threeP (threeA b1 b2) 3 0 w1 (thR (h1.holds (both (thr1 b1) (thr2 b2)) memZ)) threeI) h1; rw [w_far] at hq; exact hq) | exact CallsTo.q (m34 0 14 w1 (by decide)) h1 | exact CallsTo.q (m34 1 24 w1 (by decide)) h1 | exact CallsTo.q (m34 2 96 w1 (by decide)) h1 | exact CallsTo.q (show CallsTo Try.prog 17 [.slice a7 2 c7, .slice _ 2 2] w1 _ from t19 a7 _ c7 2 [0, 1] [0, 1] w1 (h1.rd_of_own memZ) (h1.rd_of_blk memZ) (by decide)) h1 | exact CallsTo.q (show CallsTo Try.prog 17 [.slice a8 2 c8, .slice _ 2 2] w1 _ from t19 a8 _ c8 2 [3, 5] [3, 5] w1 (h1.rd_of_own memZ) (h1.rd_of_blk memZ) (by decide)) h1 | exact CallsTo.q (show CallsTo Try.prog 25 [.slice a9 2 c9, .slice (some ⟨bk, 0, none⟩) 2 3] w1 _ from m25 a9 (some ⟨bk, 0, none⟩) c9 3 [plcA 0 14, plcA 1 24] [plcA 0 14, plcA 1 24] w1 (h1.rd_of_own memZ) (Rd.take 8 (h1.rd_of_blk (b := bk) (cs := pcs knownW) memZ)) (by decide)) h1 | exact CallsTo.q (show CallsTo Try.prog 25 [.slice a9 1 c9, .slice (some ⟨bk, 8, none⟩) 1 1] w1 _ from m25 a9 (some ⟨bk, 8, none⟩) c9 1 [plcA 2 96] [plcA 2 96] w1 (h1.rd_of_own memZ) (rd_from8 (h1.rd_of_blk (b := bk) (cs := pcs knownW) memZ)) (by decide)) h1))|(apply LR.call; (· exact rfl); (intro w1 h1; first | (refine CallsTo.mono (show CallsTo Try.prog 33 [] w1 _ from m33 w1) ?_; rintro v w2 ⟨b1, b2, rfl, hn⟩; refine LR.back (h1.got hn th_dep) ?_; clear hn h1) | (refine CallsTo.mono (show CallsTo Try.prog 18 [threeP.val (threeA b1 b2), .int .i64 3] w1 _ from m18 threeP (threeA b1 b2) 3 w1 (thR (h1.holds (both (thr1 b1) (thr2 b2)) memZ)) threeI) ?_; rintro v w2 ⟨a7, c7, rfl, hn⟩; rw [w_sides] at hn ⊢; refine LR.back (h1.newSl hn) ?_; clear hn h1) | (refine CallsTo.mono (show CallsTo Try.prog 20 [threeP.val (threeA b1 b2), .int .i64 1] w1 _ from m20 threeP (threeA b1 b2) 1 w1 (thR (h1.holds (both (thr1 b1) (thr2 b2)) memZ)) threeI) ?_; rintro v w2 ⟨a8, c8, rfl, hn⟩; rw [w_gws] at hn ⊢; refine LR.back (h1.newSl hn) ?_; clear hn h1) | (refine CallsTo.mono (show CallsTo Try.prog 24 [threeP.val (threeA b1 b2), .int .i64 0, .slice (some ⟨bk, 0, none⟩) 3 3] w1 _ from m24 threeP (threeA b1 b2) threeI 0 knownW (some ⟨bk, 0, none⟩) 3 w1 (thR (h1.holds (both (thr1 b1) (thr2 b2)) memZ)) (h1.rd_of_blk memZ) (by decide)) ?_; rintro v w2 ⟨a9, c9, rfl, hn⟩; rw [w_view0] at hn ⊢; refine LR.back (h1.newSl hn) ?_; clear hn h1) | (refine CallsTo.mono (show CallsTo Try.prog 24 [threeP.val (threeA b1 b2), .int .i64 2, .slice (some ⟨bk, 0, none⟩) 3 3] w1 _ from m24 threeP (threeA b1 b2) threeI 2 knownW (some ⟨bk, 0, none⟩) 3 w1 (thR (h1.holds (both (thr1 b1) (thr2 b2)) memZ)) (h1.rd_of_blk memZ) (by decide)) ?_; rintro v w2 ⟨a9, c9, rfl, hn⟩; rw [w_view2] at hn ⊢; refine LR.back (h1.newSl hn) ?_; clear hn h1) | (refine CallsTo.mono (show CallsTo Try.prog 27 [.slice none 0 0, (plcA 1 24).val] w1 _ from m27 sort_few [] none 0 (plcA 1 24) w1 (Rd.nil _ _) (fun _ => rfl) (by decide) (by decide) (by decide)) ?_; rintro v w2 ⟨a10, c10, rfl, hn⟩; rw [w_lrn] at hn ⊢; refine LR.back (h1.newSl hn) ?_; clear hn h1))))
    all_goals (refine At.stage_same (fun _ h => St.sub h subZ) ?_))
  all_goals (
    apply DW.loud 33
    · exact rfl
    · decide +kernel
    repeat'(first|refine kg' ?_|refine kG' ?_|apply kM|refine kv' ?_|refine kK' fun _=>?_|refine kU' ?_|refine kB' fun _=>?_|refine kA' fun _=>?_|(apply kq; (· exact rfl); (· intro w1 h1; first | (have hq := CallsTo.q (m13 threeP (threeA b1 b2) w1 (thR (h1.holds (both (thr1 b1) (thr2 b2)) memZ)) threeI) h1; rw [w_chk] at hq; exact hq) | (have hq := CallsTo.q (m15 threeP (threeA b1 b2) 3 0 w1 (thR (h1.holds (both (thr1 b1) (thr2 b2)) memZ)) threeI) h1; rw [w_far] at hq; exact hq) | exact CallsTo.q (m34 0 14 w1 (by decide)) h1 | exact CallsTo.q (m34 1 24 w1 (by decide)) h1 | exact CallsTo.q (m34 2 96 w1 (by decide)) h1 | exact CallsTo.q (show CallsTo Try.prog 17 [.slice a7 2 c7, .slice _ 2 2] w1 _ from t19 a7 _ c7 2 [0, 1] [0, 1] w1 (h1.rd_of_own memZ) (h1.rd_of_blk memZ) (by decide)) h1 | exact CallsTo.q (show CallsTo Try.prog 17 [.slice a8 2 c8, .slice _ 2 2] w1 _ from t19 a8 _ c8 2 [3, 5] [3, 5] w1 (h1.rd_of_own memZ) (h1.rd_of_blk memZ) (by decide)) h1 | exact CallsTo.q (show CallsTo Try.prog 25 [.slice a9 2 c9, .slice (some ⟨bk, 0, none⟩) 2 3] w1 _ from m25 a9 (some ⟨bk, 0, none⟩) c9 3 [plcA 0 14, plcA 1 24] [plcA 0 14, plcA 1 24] w1 (h1.rd_of_own memZ) (Rd.take 8 (h1.rd_of_blk (b := bk) (cs := pcs knownW) memZ)) (by decide)) h1 | exact CallsTo.q (show CallsTo Try.prog 25 [.slice a9 1 c9, .slice (some ⟨bk, 8, none⟩) 1 1] w1 _ from m25 a9 (some ⟨bk, 8, none⟩) c9 1 [plcA 2 96] [plcA 2 96] w1 (h1.rd_of_own memZ) (rd_from8 (h1.rd_of_blk (b := bk) (cs := pcs knownW) memZ)) (by decide)) h1))|(apply LR.call; (· exact rfl); (intro w1 h1; first | (refine CallsTo.mono (show CallsTo Try.prog 33 [] w1 _ from m33 w1) ?_; rintro v w2 ⟨b1, b2, rfl, hn⟩; refine LR.back (h1.got hn th_dep) ?_; clear hn h1) | (refine CallsTo.mono (show CallsTo Try.prog 18 [threeP.val (threeA b1 b2), .int .i64 3] w1 _ from m18 threeP (threeA b1 b2) 3 w1 (thR (h1.holds (both (thr1 b1) (thr2 b2)) memZ)) threeI) ?_; rintro v w2 ⟨a7, c7, rfl, hn⟩; rw [w_sides] at hn ⊢; refine LR.back (h1.newSl hn) ?_; clear hn h1) | (refine CallsTo.mono (show CallsTo Try.prog 20 [threeP.val (threeA b1 b2), .int .i64 1] w1 _ from m20 threeP (threeA b1 b2) 1 w1 (thR (h1.holds (both (thr1 b1) (thr2 b2)) memZ)) threeI) ?_; rintro v w2 ⟨a8, c8, rfl, hn⟩; rw [w_gws] at hn ⊢; refine LR.back (h1.newSl hn) ?_; clear hn h1) | (refine CallsTo.mono (show CallsTo Try.prog 24 [threeP.val (threeA b1 b2), .int .i64 0, .slice (some ⟨bk, 0, none⟩) 3 3] w1 _ from m24 threeP (threeA b1 b2) threeI 0 knownW (some ⟨bk, 0, none⟩) 3 w1 (thR (h1.holds (both (thr1 b1) (thr2 b2)) memZ)) (h1.rd_of_blk memZ) (by decide)) ?_; rintro v w2 ⟨a9, c9, rfl, hn⟩; rw [w_view0] at hn ⊢; refine LR.back (h1.newSl hn) ?_; clear hn h1) | (refine CallsTo.mono (show CallsTo Try.prog 24 [threeP.val (threeA b1 b2), .int .i64 2, .slice (some ⟨bk, 0, none⟩) 3 3] w1 _ from m24 threeP (threeA b1 b2) threeI 2 knownW (some ⟨bk, 0, none⟩) 3 w1 (thR (h1.holds (both (thr1 b1) (thr2 b2)) memZ)) (h1.rd_of_blk memZ) (by decide)) ?_; rintro v w2 ⟨a9, c9, rfl, hn⟩; rw [w_view2] at hn ⊢; refine LR.back (h1.newSl hn) ?_; clear hn h1) | (refine CallsTo.mono (show CallsTo Try.prog 27 [.slice none 0 0, (plcA 1 24).val] w1 _ from m27 sort_few [] none 0 (plcA 1 24) w1 (Rd.nil _ _) (fun _ => rfl) (by decide) (by decide) (by decide)) ?_; rintro v w2 ⟨a10, c10, rfl, hn⟩; rw [w_lrn] at hn ⊢; refine LR.back (h1.newSl hn) ?_; clear hn h1))))
    all_goals (refine At.stage_same (fun _ h => St.sub h subZ) ?_))
  all_goals (
    apply DW.loud 36
    · exact rfl
    · decide +kernel
    repeat'(first|refine kg' ?_|refine kG' ?_|apply kM|refine kv' ?_|refine kK' fun _=>?_|refine kU' ?_|refine kB' fun _=>?_|refine kA' fun _=>?_|(apply kq; (· exact rfl); (· intro w1 h1; first | (have hq := CallsTo.q (m13 threeP (threeA b1 b2) w1 (thR (h1.holds (both (thr1 b1) (thr2 b2)) memZ)) threeI) h1; rw [w_chk] at hq; exact hq) | (have hq := CallsTo.q (m15 threeP (threeA b1 b2) 3 0 w1 (thR (h1.holds (both (thr1 b1) (thr2 b2)) memZ)) threeI) h1; rw [w_far] at hq; exact hq) | exact CallsTo.q (m34 0 14 w1 (by decide)) h1 | exact CallsTo.q (m34 1 24 w1 (by decide)) h1 | exact CallsTo.q (m34 2 96 w1 (by decide)) h1 | exact CallsTo.q (show CallsTo Try.prog 17 [.slice a7 2 c7, .slice _ 2 2] w1 _ from t19 a7 _ c7 2 [0, 1] [0, 1] w1 (h1.rd_of_own memZ) (h1.rd_of_blk memZ) (by decide)) h1 | exact CallsTo.q (show CallsTo Try.prog 17 [.slice a8 2 c8, .slice _ 2 2] w1 _ from t19 a8 _ c8 2 [3, 5] [3, 5] w1 (h1.rd_of_own memZ) (h1.rd_of_blk memZ) (by decide)) h1 | exact CallsTo.q (show CallsTo Try.prog 25 [.slice a9 2 c9, .slice (some ⟨bk, 0, none⟩) 2 3] w1 _ from m25 a9 (some ⟨bk, 0, none⟩) c9 3 [plcA 0 14, plcA 1 24] [plcA 0 14, plcA 1 24] w1 (h1.rd_of_own memZ) (Rd.take 8 (h1.rd_of_blk (b := bk) (cs := pcs knownW) memZ)) (by decide)) h1 | exact CallsTo.q (show CallsTo Try.prog 25 [.slice a9 1 c9, .slice (some ⟨bk, 8, none⟩) 1 1] w1 _ from m25 a9 (some ⟨bk, 8, none⟩) c9 1 [plcA 2 96] [plcA 2 96] w1 (h1.rd_of_own memZ) (rd_from8 (h1.rd_of_blk (b := bk) (cs := pcs knownW) memZ)) (by decide)) h1))|(apply LR.call; (· exact rfl); (intro w1 h1; first | (refine CallsTo.mono (show CallsTo Try.prog 33 [] w1 _ from m33 w1) ?_; rintro v w2 ⟨b1, b2, rfl, hn⟩; refine LR.back (h1.got hn th_dep) ?_; clear hn h1) | (refine CallsTo.mono (show CallsTo Try.prog 18 [threeP.val (threeA b1 b2), .int .i64 3] w1 _ from m18 threeP (threeA b1 b2) 3 w1 (thR (h1.holds (both (thr1 b1) (thr2 b2)) memZ)) threeI) ?_; rintro v w2 ⟨a7, c7, rfl, hn⟩; rw [w_sides] at hn ⊢; refine LR.back (h1.newSl hn) ?_; clear hn h1) | (refine CallsTo.mono (show CallsTo Try.prog 20 [threeP.val (threeA b1 b2), .int .i64 1] w1 _ from m20 threeP (threeA b1 b2) 1 w1 (thR (h1.holds (both (thr1 b1) (thr2 b2)) memZ)) threeI) ?_; rintro v w2 ⟨a8, c8, rfl, hn⟩; rw [w_gws] at hn ⊢; refine LR.back (h1.newSl hn) ?_; clear hn h1) | (refine CallsTo.mono (show CallsTo Try.prog 24 [threeP.val (threeA b1 b2), .int .i64 0, .slice (some ⟨bk, 0, none⟩) 3 3] w1 _ from m24 threeP (threeA b1 b2) threeI 0 knownW (some ⟨bk, 0, none⟩) 3 w1 (thR (h1.holds (both (thr1 b1) (thr2 b2)) memZ)) (h1.rd_of_blk memZ) (by decide)) ?_; rintro v w2 ⟨a9, c9, rfl, hn⟩; rw [w_view0] at hn ⊢; refine LR.back (h1.newSl hn) ?_; clear hn h1) | (refine CallsTo.mono (show CallsTo Try.prog 24 [threeP.val (threeA b1 b2), .int .i64 2, .slice (some ⟨bk, 0, none⟩) 3 3] w1 _ from m24 threeP (threeA b1 b2) threeI 2 knownW (some ⟨bk, 0, none⟩) 3 w1 (thR (h1.holds (both (thr1 b1) (thr2 b2)) memZ)) (h1.rd_of_blk memZ) (by decide)) ?_; rintro v w2 ⟨a9, c9, rfl, hn⟩; rw [w_view2] at hn ⊢; refine LR.back (h1.newSl hn) ?_; clear hn h1) | (refine CallsTo.mono (show CallsTo Try.prog 27 [.slice none 0 0, (plcA 1 24).val] w1 _ from m27 sort_few [] none 0 (plcA 1 24) w1 (Rd.nil _ _) (fun _ => rfl) (by decide) (by decide) (by decide)) ?_; rintro v w2 ⟨a10, c10, rfl, hn⟩; rw [w_lrn] at hn ⊢; refine LR.back (h1.newSl hn) ?_; clear hn h1))))
    all_goals (refine At.stage_same (fun _ h => St.sub h subZ) ?_))
  all_goals (
    apply DW.quiet [37, 38]
    · decide +kernel
    · first | exact fun _ h => h | exact fun _ h => St.sub h subZ
    repeat'(first|(apply QL.evg; (iterate 3 exact rfl); (· apply Ev_hi; (· exact rfl); (· exact rfl); (· decide); (· decide)); (· exact rfl))|(apply QL.evg; (iterate 3 exact rfl); (· apply Ev_lo; (· exact rfl); (· exact rfl); (· decide); (· decide); (· decide)); (· exact rfl))|refine yv' ?_|refine uv' ?_|refine un' ?_|(refine us' ?_ ?_;all_goals(intro hc;try simp only[hcs]at hc;try(exfalso;first|contradiction|omega)))|apply QL.nil)
    all_goals (show DW _ _ _ _ _ _ _ _))
  all_goals (
    apply DW.loud 39
    · exact rfl
    · decide +kernel
    repeat'(first|refine kg' ?_|refine kG' ?_|apply kM|refine kv' ?_|refine kK' fun _=>?_|refine kU' ?_|refine kB' fun _=>?_|refine kA' fun _=>?_|(apply kq; (· exact rfl); (· intro w1 h1; first | (have hq := CallsTo.q (m13 threeP (threeA b1 b2) w1 (thR (h1.holds (both (thr1 b1) (thr2 b2)) memZ)) threeI) h1; rw [w_chk] at hq; exact hq) | (have hq := CallsTo.q (m15 threeP (threeA b1 b2) 3 0 w1 (thR (h1.holds (both (thr1 b1) (thr2 b2)) memZ)) threeI) h1; rw [w_far] at hq; exact hq) | exact CallsTo.q (m34 0 14 w1 (by decide)) h1 | exact CallsTo.q (m34 1 24 w1 (by decide)) h1 | exact CallsTo.q (m34 2 96 w1 (by decide)) h1 | exact CallsTo.q (show CallsTo Try.prog 17 [.slice a7 2 c7, .slice _ 2 2] w1 _ from t19 a7 _ c7 2 [0, 1] [0, 1] w1 (h1.rd_of_own memZ) (h1.rd_of_blk memZ) (by decide)) h1 | exact CallsTo.q (show CallsTo Try.prog 17 [.slice a8 2 c8, .slice _ 2 2] w1 _ from t19 a8 _ c8 2 [3, 5] [3, 5] w1 (h1.rd_of_own memZ) (h1.rd_of_blk memZ) (by decide)) h1 | exact CallsTo.q (show CallsTo Try.prog 25 [.slice a9 2 c9, .slice (some ⟨bk, 0, none⟩) 2 3] w1 _ from m25 a9 (some ⟨bk, 0, none⟩) c9 3 [plcA 0 14, plcA 1 24] [plcA 0 14, plcA 1 24] w1 (h1.rd_of_own memZ) (Rd.take 8 (h1.rd_of_blk (b := bk) (cs := pcs knownW) memZ)) (by decide)) h1 | exact CallsTo.q (show CallsTo Try.prog 25 [.slice a9 1 c9, .slice (some ⟨bk, 8, none⟩) 1 1] w1 _ from m25 a9 (some ⟨bk, 8, none⟩) c9 1 [plcA 2 96] [plcA 2 96] w1 (h1.rd_of_own memZ) (rd_from8 (h1.rd_of_blk (b := bk) (cs := pcs knownW) memZ)) (by decide)) h1))|(apply LR.call; (· exact rfl); (intro w1 h1; first | (refine CallsTo.mono (show CallsTo Try.prog 33 [] w1 _ from m33 w1) ?_; rintro v w2 ⟨b1, b2, rfl, hn⟩; refine LR.back (h1.got hn th_dep) ?_; clear hn h1) | (refine CallsTo.mono (show CallsTo Try.prog 18 [threeP.val (threeA b1 b2), .int .i64 3] w1 _ from m18 threeP (threeA b1 b2) 3 w1 (thR (h1.holds (both (thr1 b1) (thr2 b2)) memZ)) threeI) ?_; rintro v w2 ⟨a7, c7, rfl, hn⟩; rw [w_sides] at hn ⊢; refine LR.back (h1.newSl hn) ?_; clear hn h1) | (refine CallsTo.mono (show CallsTo Try.prog 20 [threeP.val (threeA b1 b2), .int .i64 1] w1 _ from m20 threeP (threeA b1 b2) 1 w1 (thR (h1.holds (both (thr1 b1) (thr2 b2)) memZ)) threeI) ?_; rintro v w2 ⟨a8, c8, rfl, hn⟩; rw [w_gws] at hn ⊢; refine LR.back (h1.newSl hn) ?_; clear hn h1) | (refine CallsTo.mono (show CallsTo Try.prog 24 [threeP.val (threeA b1 b2), .int .i64 0, .slice (some ⟨bk, 0, none⟩) 3 3] w1 _ from m24 threeP (threeA b1 b2) threeI 0 knownW (some ⟨bk, 0, none⟩) 3 w1 (thR (h1.holds (both (thr1 b1) (thr2 b2)) memZ)) (h1.rd_of_blk memZ) (by decide)) ?_; rintro v w2 ⟨a9, c9, rfl, hn⟩; rw [w_view0] at hn ⊢; refine LR.back (h1.newSl hn) ?_; clear hn h1) | (refine CallsTo.mono (show CallsTo Try.prog 24 [threeP.val (threeA b1 b2), .int .i64 2, .slice (some ⟨bk, 0, none⟩) 3 3] w1 _ from m24 threeP (threeA b1 b2) threeI 2 knownW (some ⟨bk, 0, none⟩) 3 w1 (thR (h1.holds (both (thr1 b1) (thr2 b2)) memZ)) (h1.rd_of_blk memZ) (by decide)) ?_; rintro v w2 ⟨a9, c9, rfl, hn⟩; rw [w_view2] at hn ⊢; refine LR.back (h1.newSl hn) ?_; clear hn h1) | (refine CallsTo.mono (show CallsTo Try.prog 27 [.slice none 0 0, (plcA 1 24).val] w1 _ from m27 sort_few [] none 0 (plcA 1 24) w1 (Rd.nil _ _) (fun _ => rfl) (by decide) (by decide) (by decide)) ?_; rintro v w2 ⟨a10, c10, rfl, hn⟩; rw [w_lrn] at hn ⊢; refine LR.back (h1.newSl hn) ?_; clear hn h1))))
    all_goals (refine At.stage_same (fun _ h => St.sub h subZ) ?_))
  all_goals (
    apply DW.loud 40
    · exact rfl
    · decide +kernel
    repeat'(first|refine kg' ?_|refine kG' ?_|apply kM|refine kv' ?_|refine kK' fun _=>?_|refine kU' ?_|refine kB' fun _=>?_|refine kA' fun _=>?_|(apply kq; (· exact rfl); (· intro w1 h1; first | (have hq := CallsTo.q (m13 threeP (threeA b1 b2) w1 (thR (h1.holds (both (thr1 b1) (thr2 b2)) memZ)) threeI) h1; rw [w_chk] at hq; exact hq) | (have hq := CallsTo.q (m15 threeP (threeA b1 b2) 3 0 w1 (thR (h1.holds (both (thr1 b1) (thr2 b2)) memZ)) threeI) h1; rw [w_far] at hq; exact hq) | exact CallsTo.q (m34 0 14 w1 (by decide)) h1 | exact CallsTo.q (m34 1 24 w1 (by decide)) h1 | exact CallsTo.q (m34 2 96 w1 (by decide)) h1 | exact CallsTo.q (show CallsTo Try.prog 17 [.slice a7 2 c7, .slice _ 2 2] w1 _ from t19 a7 _ c7 2 [0, 1] [0, 1] w1 (h1.rd_of_own memZ) (h1.rd_of_blk memZ) (by decide)) h1 | exact CallsTo.q (show CallsTo Try.prog 17 [.slice a8 2 c8, .slice _ 2 2] w1 _ from t19 a8 _ c8 2 [3, 5] [3, 5] w1 (h1.rd_of_own memZ) (h1.rd_of_blk memZ) (by decide)) h1 | exact CallsTo.q (show CallsTo Try.prog 25 [.slice a9 2 c9, .slice (some ⟨bk, 0, none⟩) 2 3] w1 _ from m25 a9 (some ⟨bk, 0, none⟩) c9 3 [plcA 0 14, plcA 1 24] [plcA 0 14, plcA 1 24] w1 (h1.rd_of_own memZ) (Rd.take 8 (h1.rd_of_blk (b := bk) (cs := pcs knownW) memZ)) (by decide)) h1 | exact CallsTo.q (show CallsTo Try.prog 25 [.slice a9 1 c9, .slice (some ⟨bk, 8, none⟩) 1 1] w1 _ from m25 a9 (some ⟨bk, 8, none⟩) c9 1 [plcA 2 96] [plcA 2 96] w1 (h1.rd_of_own memZ) (rd_from8 (h1.rd_of_blk (b := bk) (cs := pcs knownW) memZ)) (by decide)) h1))|(apply LR.call; (· exact rfl); (intro w1 h1; first | (refine CallsTo.mono (show CallsTo Try.prog 33 [] w1 _ from m33 w1) ?_; rintro v w2 ⟨b1, b2, rfl, hn⟩; refine LR.back (h1.got hn th_dep) ?_; clear hn h1) | (refine CallsTo.mono (show CallsTo Try.prog 18 [threeP.val (threeA b1 b2), .int .i64 3] w1 _ from m18 threeP (threeA b1 b2) 3 w1 (thR (h1.holds (both (thr1 b1) (thr2 b2)) memZ)) threeI) ?_; rintro v w2 ⟨a7, c7, rfl, hn⟩; rw [w_sides] at hn ⊢; refine LR.back (h1.newSl hn) ?_; clear hn h1) | (refine CallsTo.mono (show CallsTo Try.prog 20 [threeP.val (threeA b1 b2), .int .i64 1] w1 _ from m20 threeP (threeA b1 b2) 1 w1 (thR (h1.holds (both (thr1 b1) (thr2 b2)) memZ)) threeI) ?_; rintro v w2 ⟨a8, c8, rfl, hn⟩; rw [w_gws] at hn ⊢; refine LR.back (h1.newSl hn) ?_; clear hn h1) | (refine CallsTo.mono (show CallsTo Try.prog 24 [threeP.val (threeA b1 b2), .int .i64 0, .slice (some ⟨bk, 0, none⟩) 3 3] w1 _ from m24 threeP (threeA b1 b2) threeI 0 knownW (some ⟨bk, 0, none⟩) 3 w1 (thR (h1.holds (both (thr1 b1) (thr2 b2)) memZ)) (h1.rd_of_blk memZ) (by decide)) ?_; rintro v w2 ⟨a9, c9, rfl, hn⟩; rw [w_view0] at hn ⊢; refine LR.back (h1.newSl hn) ?_; clear hn h1) | (refine CallsTo.mono (show CallsTo Try.prog 24 [threeP.val (threeA b1 b2), .int .i64 2, .slice (some ⟨bk, 0, none⟩) 3 3] w1 _ from m24 threeP (threeA b1 b2) threeI 2 knownW (some ⟨bk, 0, none⟩) 3 w1 (thR (h1.holds (both (thr1 b1) (thr2 b2)) memZ)) (h1.rd_of_blk memZ) (by decide)) ?_; rintro v w2 ⟨a9, c9, rfl, hn⟩; rw [w_view2] at hn ⊢; refine LR.back (h1.newSl hn) ?_; clear hn h1) | (refine CallsTo.mono (show CallsTo Try.prog 27 [.slice none 0 0, (plcA 1 24).val] w1 _ from m27 sort_few [] none 0 (plcA 1 24) w1 (Rd.nil _ _) (fun _ => rfl) (by decide) (by decide) (by decide)) ?_; rintro v w2 ⟨a10, c10, rfl, hn⟩; rw [w_lrn] at hn ⊢; refine LR.back (h1.newSl hn) ?_; clear hn h1))))
    all_goals (refine At.stage_same (fun _ h => St.sub h subZ) ?_))
  all_goals (
    apply DW.quiet [41, 42, 43, 44]
    · decide +kernel
    · first | exact fun _ h => h | exact fun _ h => St.sub h subZ
    repeat'(first|(apply QL.evg; (iterate 3 exact rfl); (· apply Ev_hi; (· exact rfl); (· exact rfl); (· decide); (· decide)); (· exact rfl))|(apply QL.evg; (iterate 3 exact rfl); (· apply Ev_lo; (· exact rfl); (· exact rfl); (· decide); (· decide); (· decide)); (· exact rfl))|refine yv' ?_|refine uv' ?_|refine un' ?_|(refine us' ?_ ?_;all_goals(intro hc;try simp only[hcs]at hc;try(exfalso;first|contradiction|omega)))|apply QL.nil)
    all_goals (show DW _ _ _ _ _ _ _ _))
  all_goals (first | (apply DW.done_thn; (· decide +kernel)) | (apply DW.done; (· decide +kernel)))
  repeat'(first|refine kv' ?_|apply jJ|refine jE' ?_|refine jp' ?_|(apply jc;kernel_rfl)|refine kg' ?_|refine kG' ?_|refine kB' fun _=>?_|refine kA' fun _=>?_|refine kK' fun _=>?_|refine kU' ?_|((first|refine kR' ?_ ?_|refine kQ' ?_ ?_);all_goals(intro hc;try simp only[hcs]at hc;try(exfalso;first|contradiction|omega))))
  (apply ret1; (· exact rfl); intro w' hS)
  exact ⟨rfl, hS.toKeep⟩
end Go.Proofs.Ytgblmkpfkcibiaa

namespace Go.Proofs.Ytgblmkpfkcibiaa
open Go.Hb
attribute [local irreducible] LR CW At Ev thn blk finK noG again CallsTo DW QL dnext
set_option maxRecDepth 100000

end Go.Proofs.Ytgblmkpfkcibiaa

namespace Go.Proofs.Ytgblmkpfkcibiaa
open Go.Hb Go.ChangeShapes Go.WideShapes
attribute [local irreducible] LR CW At Ev thn blk finK noG again CallsTo DW QL dnext
set_option maxRecDepth 100000

theorem own_knob : ownKnob Try.prog.godebug = none := by kernel_rfl
theorem kids : Kids Try.prog (· < Try.prog.types.size) := kids_rows (by kernel_rfl) (by kernel_rfl)
theorem full_slices : ∀ t e, t < Try.prog.types.size → Try.prog.underlying t = some (.slice e) → 0 < Try.prog.cellsOf e := slices_full_of _ (by kernel_rfl)

def i64G : World → List Value → Prop := fun _ cs => ∃ n, cs = [.int .i64 n] ∧ i64 n
theorem opn_i64 : Opn Try.prog 3 i64G := (opn_int Try.underlying3).mono fun w cs ⟨n, h1, h2⟩ => ⟨n, h1, bounds_i64 h2⟩
end Go.Proofs.Ytgblmkpfkcibiaa

namespace Go.Proofs.Ytgblmkpfkcibiaa
open Go.Hb
attribute [local irreducible] LR CW At Ev thn blk finK noG again CallsTo DW QL dnext
set_option maxRecDepth 100000

end Go.Proofs.Ytgblmkpfkcibiaa

namespace Go.Proofs.Ytgblmkpfkcibiaa
open Go.Hb
attribute [local irreducible] LR CW At Ev thn blk finK noG again CallsTo DW QL dnext
set_option maxRecDepth 100000

end Go.Proofs.Ytgblmkpfkcibiaa

namespace Go.Proofs.Ytgblmkpfkcibiaa
open Go.Hb Go.ChangeShapes Go.WideShapes
attribute [local irreducible] LR CW At Ev thn blk finK noG again CallsTo DW QL dnext
set_option maxRecDepth 100000

end Go.Proofs.Ytgblmkpfkcibiaa

namespace Go.Proofs.Ytgblmkpfkcibiaa
open Go.Hb
set_option maxRecDepth 100000

theorem ints_of : ∀ (css : List (List Value)), (∀ c ∈ css, ∃ n : Int, c = [.int .i64 n] ∧ i64 n) → ∃ l : List Int, css.flatten = iv l ∧ l.length = css.length ∧ ∀ x ∈ l, i64 x
  | [], _ => ⟨[], rfl, rfl, fun p hp => by simp at hp⟩
  | c :: r, h => by
    obtain ⟨n, rfl, hp⟩ := h c List.mem_cons_self
    obtain ⟨l, h1, h2, h3⟩ := ints_of r fun c hc => h c (List.mem_cons_of_mem _ hc)
    refine ⟨n :: l, by rw [List.flatten_cons, h1]; rfl, by simp [h2], fun q hq => ?_⟩
    rcases List.mem_cons.1 hq with rfl | hq
    · exact hp
    · exact h3 q hq
theorem opn_ints : Opn Try.prog 22 (fun w cs => ∃ (a : Option Addr) (c : Nat) (l : List Int), cs = [.slice a l.length c] ∧ Rd w a (iv l) ∧ (∀ x ∈ l, i64 x) ∧ (a = none → c = 0) ∧ l.length ≤ c ∧ l.length ≤ 17592186043904) := by
  refine (opn_slice Try.underlying22 (sz := 1) (by_ := 8) (by kernel_rfl) (by omega) (by kernel_rfl) opn_i64).mono ?_
  rintro w cs ⟨a, len, cap, css, rfl, rfl, hg, hr, hz, hc, hm⟩
  obtain ⟨l, h1, h2, h3⟩ := ints_of css fun c hc => (hg c hc).1
  rw [h1] at hr
  have hm : css.length * 8 ≤ 140737488351232 := hm
  exact ⟨a, cap, l, by rw [h2], hr, h3, hz, by omega, by omega⟩
structure Vst where
  node : Int
  aru : Int
  gaps : List Int
def Vst.cells (v : Vst) (a : Option Addr) (c : Nat) : List Value := [.int .i64 v.node, .int .i64 v.aru, .slice a v.gaps.length c]
def Vst.val (v : Vst) (a : Option Addr) (c : Nat) : Value := .agg (v.cells a c).toArray
end Go.Proofs.Ytgblmkpfkcibiaa
