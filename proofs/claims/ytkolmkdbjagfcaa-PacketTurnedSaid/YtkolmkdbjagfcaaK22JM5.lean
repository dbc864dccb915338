/-
  One packet, one form.
-/
import Derived.Test.YtkolmkdbjagfcaaK22JM4
import Derived.Lib.SliceRun

set_option linter.unusedSimpArgs false
set_option linter.unusedVariables false
namespace Go.Proofs.Ytkolmkdbjagfcaa
open Go.Hb
attribute [local irreducible] LR CW At Ev thn blk finK noG again CallsTo DW QL dnext TW DP
set_option linter.unusedSimpArgs false
set_option linter.unusedVariables false
set_option maxRecDepth 100000

def rdL {α : Type} (f : RS → α × RS) : Nat → RS → List α × RS
  | 0, s => ([], s)
  | k + 1, s => ((rdL f k s).1 ++ [(f (rdL f k s).2).1], (f (rdL f k s).2).2)
theorem rdL_len {α : Type} (f : RS → α × RS) : ∀ (k : Nat) (s : RS), (rdL f k s).1.length = k
  | 0, _ => rfl
  | k + 1, s => by unfold rdL; rw [List.length_append, rdL_len f k]; rfl
def lstR {α : Type} (f : RS → α × RS) (most : Int) (s : RS) : List α × RS :=
  if (getS s).2.2 ≠ 0 then ([], (getS s).2) else if most < (getS s).1 then ([], ((getS s).2.1, 5)) else rdL f (getS s).1.toNat (getS s).2
def getE (s : RS) : Ent × RS :=
  (⟨(getS s).1, (getS (getS s).2).1, (getS (getS (getS s).2).2).1, (getS (getS (getS (getS s).2).2).2).1, (getS (getS (getS (getS (getS s).2).2).2).2).1, (getS (getS (getS (getS (getS (getS s).2).2).2).2).2).1⟩, (getS (getS (getS (getS (getS (getS s).2).2).2).2).2).2)
theorem getS_nn (s : RS) : 0 ≤ (getS s).1 := by
  unfold getS
  split
  · exact Int.le_refl _
  · exact Int.natCast_nonneg _
theorem getE_byt {s : RS} (h : Byt s.1) : Byt (getE s).2.1 := getS_byt (getS_byt (getS_byt (getS_byt (getS_byt (getS_byt h)))))
theorem getE_le (s : RS) : (getE s).2.1.length ≤ s.1.length := by
  unfold getE
  have h1 := getS_le s
  have h2 := getS_le (getS s).2
  have h3 := getS_le (getS (getS s).2).2
  have h4 := getS_le (getS (getS (getS s).2).2).2
  have h5 := getS_le (getS (getS (getS (getS s).2).2).2).2
  have h6 := getS_le (getS (getS (getS (getS (getS s).2).2).2).2).2
  simp only
  omega
theorem rdL_byt {α : Type} {f : RS → α × RS} (hf : ∀ s, Byt s.1 → Byt (f s).2.1) : ∀ (k : Nat) (s : RS), Byt s.1 → Byt (rdL f k s).2.1
  | 0, _, h => h
  | k + 1, s, h => by unfold rdL; exact hf _ (rdL_byt hf k s h)
theorem rdL_le {α : Type} {f : RS → α × RS} (hf : ∀ s, (f s).2.1.length ≤ s.1.length) : ∀ (k : Nat) (s : RS), (rdL f k s).2.1.length ≤ s.1.length
  | 0, _ => Nat.le_refl _
  | k + 1, s => by unfold rdL; exact Nat.le_trans (hf _) (rdL_le hf k s)
theorem rd_int (A B : List Value) (s : RS) {n : Nat} (hn : n = A.length) : rdN [n] (A ++ Value.int .i64 0 :: B) s = (A ++ Value.int .i64 (getS s).1 :: B, (getS s).2) := by
  unfold rdN
  split
  · rename_i h
    rw [getS_err h]
  · subst hn
    rw [rdN]
    simp
theorem rd_ent (A B : List Value) (s : RS) {n : Nat} (hn : n = A.length) : rdN (six n) (A ++ (Value.int .i64 0 :: Value.int .i64 0 :: Value.int .i64 0 :: Value.int .i64 0 :: Value.int .i64 0 :: Value.int .i64 0 :: B)) s = (A ++ ((getE s).1.cells ++ B), (getE s).2) := by
  have e : six n = [n] ++ ([n + 1] ++ ([n + 2] ++ ([n + 3] ++ ([n + 4] ++ [n + 5])))) := rfl
  have ea : ∀ (x : Value) (C D : List Value), C ++ x :: D = (C ++ [x]) ++ D := fun x C D => by simp
  rw [e]
  repeat rw [rdN_app]
  rw [rd_int A _ s hn]
  simp only
  rw [ea _ A, rd_int _ _ _ (by rw [List.length_append, hn]; rfl)]
  simp only
  rw [ea _ (A ++ [_]), rd_int _ _ _ (by simp only [List.length_append]; rw [hn]; rfl)]
  simp only
  rw [ea _ (A ++ [_] ++ [_]), rd_int _ _ _ (by simp only [List.length_append]; rw [hn]; rfl)]
  simp only
  rw [ea _ (A ++ [_] ++ [_] ++ [_]), rd_int _ _ _ (by simp only [List.length_append]; rw [hn]; rfl)]
  simp only
  rw [ea _ (A ++ [_] ++ [_] ++ [_] ++ [_]), rd_int _ _ _ (by simp only [List.length_append]; rw [hn]; rfl)]
  simp only [List.append_assoc, List.cons_append, List.nil_append, Ent.cells, getE]
/-- What is left of a read: the reader's state, the block's cells, and one new thing. -/
def LstP (bc br : Nat) (a : Option Addr) (c : Nat) (s : RS) (b : Nat) (cs : List Value) (E : Nat) (s' : RS) (good : List Value → Asrt → Prop) (w w' : World) : Prop :=
  ∃ a' c' cs' X, Step (rX bc br a c s b cs E) (both (rX bc br a' c' s' b cs' E) X) w w' ∧ X.dep ∧ X.excl = true ∧ cs'.length = cs.length ∧ (s'.2 = 0 → good cs' X)
theorem lst_fin {w w' : World} {F : Nat → Prop} {bc br : Nat} {a a' : Option Addr} {c c' : Nat} {s s' : RS} {b : Nat} {cs cs' : List Value} {E : Nat} {X : Asrt} {R : List Asrt} (hF : (rX bc br a c s b cs E).foot = F) (hS : St w F (X :: codB bc none (some ⟨br, 0, none⟩) s'.2 :: rrA 173 [.bool true] br a' c' s'.1 :: .own b (.cells cs'.toArray E (0, 0)) :: R) w') (hx : X.excl = true) : Step (rX bc br a c s b cs E) (both (rX bc br a' c' s' b cs' E) X) w w' := by
  have h1 : St w F (codB bc none (some ⟨br, 0, none⟩) s'.2 :: rrA 173 [.bool true] br a' c' s'.1 :: X :: .own b (.cells cs'.toArray E (0, 0)) :: R) w' := front (front (front hS 1 rfl rfl) 2 rfl rfl) 1 rfl rfl
  have h2 : St w F (rC bc br a' c' s'.1 s'.2 :: X :: .own b (.cells cs'.toArray E (0, 0)) :: R) w' := St.join h1 rfl rfl
  have h3 : St w F (rC bc br a' c' s'.1 s'.2 :: .own b (.cells cs'.toArray E (0, 0)) :: X :: R) w' := front (front h2 2 rfl rfl) 1 rfl rfl
  have h4 : St w F (rX bc br a' c' s' b cs' E :: X :: R) w' := St.join h3 rfl rfl
  have h5 := St.join h4 rfl hx
  subst hF
  exact h5.step (by rfl)
theorem lst_none {w w' : World} {F : Nat → Prop} {bc br : Nat} {a a' : Option Addr} {c c' : Nat} {s s' : RS} {b : Nat} {cs cs' : List Value} {E : Nat} {good : List Value → Asrt → Prop} {R : List Asrt} (hF : (rX bc br a c s b cs E).foot = F) (hS : St w F (codB bc none (some ⟨br, 0, none⟩) s'.2 :: rrA 173 [.bool true] br a' c' s'.1 :: .own b (.cells cs'.toArray E (0, 0)) :: R) w') (hl : cs'.length = cs.length) (he : s'.2 ≠ 0) : LstP bc br a c s b cs E s' good w w' :=
  ⟨a', c', cs', _, lst_fin hF (hS.nilsl 3 1) rfl, osl.dep _ _ _ _ _, rfl, hl, fun h => absurd h he⟩
theorem own_rd {b : Nat} {cs : List Value} {E : Nat} {w : World} (h : (Asrt.own b (.cells cs.toArray E (0, 0))).holds w) : Rd w (some ⟨b, 0, none⟩) cs := fun j v hj => ⟨_, rfl, by rw [addr_add, cell_own h]; simpa using hj⟩
theorem own_cell {b o : Nat} {cs : List Value} {E : Nat} {v : Value} {w : World} (h : (Asrt.own b (.cells cs.toArray E (0, 0))).holds w) (hv : cs[o]? = some v) : w.cell? ⟨b, o, none⟩ = some v := by
  rw [cell_own h]
  simpa using hv
theorem splice_at {cs : List Value} {o : Nat} {v : Value} (h : o < cs.length) : (splice cs o [v])[o]? = some v := by
  unfold splice
  have : (cs.take o).length = o := by rw [List.length_take]; omega
  rw [List.append_assoc, List.getElem?_append_right (by omega), this, Nat.sub_self]
  rfl
theorem splice_len1 {cs : List Value} {o : Nat} {v : Value} (h : o < cs.length) : (splice cs o [v]).length = cs.length := by
  unfold splice
  simp only [List.length_append, List.length_take, List.length_drop, List.length_cons, List.length_nil]
  omega
theorem rep_succ {k i : Nat} {Z : List Value} (h : i < k) : (List.replicate (k - i) Z).flatten = Z ++ (List.replicate (k - (i + 1)) Z).flatten := by
  rw [show k - i = (k - (i + 1)) + 1 by omega, List.replicate_succ, List.flatten_cons]
theorem rep_lenN {Z : List Value} (k : Nat) : (List.replicate k Z).flatten.length = k * Z.length := by
  induction k with
  | zero => simp
  | succ k ih => rw [List.replicate_succ, List.flatten_cons, List.length_append, ih, Nat.add_mul]; omega
theorem rep_len1 {k : Nat} : (List.replicate k [Value.int .i64 0]).flatten.length = k * 1 := rep_lenN k
theorem rep_len6 {k : Nat} : (List.replicate k [Value.int .i64 0, .int .i64 0, .int .i64 0, .int .i64 0, .int .i64 0, .int .i64 0]).flatten.length = k * 6 := rep_lenN k
structure Lst where
  i : Nat
  a : Option Addr
  c : Nat
set_option maxHeartbeats 16000000 in
theorem p91r (bc br : Nat) (a : Option Addr) (c : Nat) (s : RS) (b : Nat) (cs : List Value) (E : Nat) (o : Nat) (most : Int) (w : World) (h : (rX bc br a c s b cs E).holds w) (ho : o < cs.length) (hz : cs[o]? = some (.slice none 0 0)) (hB : Byt s.1) (hm : s.1.length ≤ 281474976710656) (hmost : most ≤ 100) :
    CallsTo Try.prog 91 [.pointer (some ⟨bc, 0, none⟩), .pointer (some ⟨b, o, none⟩), .int .i64 most, .func (.func 92) #[] #[]] w fun v w' => v = .tuple #[] ∧ LstP bc br a c s b cs E (lstR getS most s).2
      (fun cs' X => ∃ sa sc, cs' = splice cs o [.slice sa (lstR getS most s).1.length sc] ∧ (sa = none → sc = 0) ∧ ∀ w2, X.holds w2 → Rd w2 sa ((lstR getS most s).1.flatMap ivF)) w w' := by
  have hS0 := St.one h (both_live h) (rX_dep _ _ _ _ _ _ _ _)
  generalize hF : (rX bc br a c s b cs E).foot = F at hS0
  have hS1 : St w F [codB bc none (some ⟨br, 0, none⟩) s.2, rrA 173 [.bool true] br a c s.1, .own b (.cells cs.toArray E (0, 0))] w := (hS0.part (rC_dep _ _ _ _ _ _) (Asrt.dep_own _ _)).part (Asrt.dep_own _ _) (rrA_dep _ _ _ _ _ _)
  have hrd : rdN [0] [Value.int .i64 0] s = ([Value.int .i64 (getS s).1], (getS s).2) := rd_int [] [] s rfl
  have hgb := getS_byt hB
  have hgl := getS_le s
  have hgn := getS_nn s
  obtain ⟨r0, hr0⟩ : ∃ r, lstR getS most s = r := ⟨_, rfl⟩
  have hr1 := hr0
  rw [hr0]
  unfold lstR at hr1
  obtain ⟨⟨n, l1, e1⟩, hg⟩ : ∃ r, getS s = r := ⟨_, rfl⟩
  rw [hg] at hrd hgb hgl hgn hr1
  simp only at hrd hgb hgl hgn hr1
  refine go_in (n := 60) hS1 Try.func91 rfl rfl ?_
  by_cases he : e1 = 0
  · subst he
    rw [if_neg (by simp)] at hr1
    by_cases hn : most < n
    · rw [if_pos hn] at hr1
      subst hr1
      repeat'(first|(apply kA;exact rfl;intro bn)|(apply Go.Hb.kK;(iterate 4 exact rfl);intro bs)|(apply kp;iterate 2 exact rfl)|apply jJ|(apply jE;exact rfl)|(apply jp;exact rfl)|(apply jc;kernel_rfl)|((first|apply kf|apply kn|apply ke|apply kx|apply kc|apply kb);iterate 2 exact rfl)|((first|apply kz|apply ky);(·exact rfl);(·repeat(first|exact iO|exact iR rfl|apply iT));iterate 2 exact rfl)|(apply kg;iterate 2 exact rfl)|(apply kG;iterate 3 exact rfl)|(apply kB;(iterate 2 exact rfl);intro _)|(apply kA;exact rfl;intro _)|(apply Go.Hb.kK;(iterate 4 exact rfl);intro _)|(apply kU;(iterate 2 exact rfl);(·repeat(first|exact sH _ _ _|apply sT));(first|exact nfL_eq rfl|exact rfl);exact rfl)|((first|apply kh|apply kl);(iterate 2 exact rfl);(first|decide|omega);exact rfl)|(apply LR.ev; (· apply Ev.load (v := .slice none 0 0); (· exact rfl); (· refine fun w' hw' => own_cell (hw'.holds (.own b (.cells cs.toArray E (0, 0))) ?_) hz; (repeat (first | exact mH _ _ | apply mT)); done)); (· exact rfl))|(apply LR.call; (· exact rfl); (intro w1 h1; have h3 : St w F [rX bc br a c s bn [Value.int .i64 0] 3, .own bs (.cells [Value.pointer (some ⟨bn, 0, none⟩)].toArray 152 (0, 0)), .own b (.cells cs.toArray E (0, 0))] w1 := St.join (x := rC bc br a c s.1 s.2) (front (front (St.join (x := codB bc none (some ⟨br, 0, none⟩) s.2) (front (front h1 3 rfl rfl) 3 rfl rfl) rfl rfl) 2 rfl rfl) 1 rfl rfl) rfl rfl; refine (p87r bc br a c s bn [Value.int .i64 0] 3 bs [0] w1 (h3.holds _ (mH _ _)) (h3.rd_of_blk (by (repeat (first | exact mH _ _ | apply mT)))) (St.apart2 (x := .own bs (.cells _ 152 (0, 0))) h3 (.inr (by (repeat (first | exact List.Sublist.refl _ | apply List.Sublist.cons_cons | apply List.Sublist.cons)))) rfl bs rfl) (by simp) hB hm (by simp)).mono ?_; rintro v w2 ⟨a2, c2, rfl, st⟩; rw [hrd] at st; refine LR.back (((St.did h3 (Sel.head _ _ _) rfl st (rX_dep _ _ _ _ _ _ _ _)).part (rC_dep _ _ _ _ _ _) (Asrt.dep_own _ _)).part (Asrt.dep_own _ _) (rrA_dep _ _ _ _ _ _)) ?_; clear st h3 h1))|((first|(apply kR;iterate 2 exact rfl)|(apply kQ;exact rfl));all_goals(intro hc;try simp only[hcs]at hc;try(exfalso;first|contradiction|omega))))
      apply ret0
      · exact rfl
      intro w' hS
      exact ⟨rfl, lst_none hF (s' := (l1, 5)) (a' := a2) (c' := c2) (cs' := cs) (hS.sub (by (repeat (first | exact List.Sublist.refl _ | apply List.Sublist.cons_cons | apply List.Sublist.cons)))) rfl (by simp)⟩
    · rw [if_neg hn] at hr1
      obtain ⟨k, rfl⟩ := Int.eq_ofNat_of_zero_le hgn
      rw [Int.toNat_natCast] at hr1
      have hk : k ≤ 100 := by omega
      have hst : ∀ bm : Nat, (([Value.slice (some ⟨bm, 0, none⟩) k k].all Value.oneCell' && Nat.beq 1 1 && Nat.ble (o + 1) cs.length) = true) := fun bm => by
        have h1 : Nat.ble (o + 1) cs.length = true := by simp; omega
        show ((true && true && Nat.ble (o + 1) cs.length) = true)
        rw [h1]; rfl
      repeat'(first|(apply kA;exact rfl;intro bn)|(apply Go.Hb.kK;(iterate 4 exact rfl);intro bs)|(apply kp;iterate 2 exact rfl)|apply jJ|(apply jE;exact rfl)|(apply jp;exact rfl)|(apply jc;kernel_rfl)|((first|apply kf|apply kn|apply ke|apply kx|apply kc|apply kb);iterate 2 exact rfl)|((first|apply kz|apply ky);(·exact rfl);(·repeat(first|exact iO|exact iR rfl|apply iT));iterate 2 exact rfl)|(apply kg;iterate 2 exact rfl)|(apply kG;iterate 3 exact rfl)|(apply kB;(iterate 2 exact rfl);intro _)|(apply kA;exact rfl;intro _)|(apply Go.Hb.kK;(iterate 4 exact rfl);intro _)|(apply kU;(iterate 2 exact rfl);(·repeat(first|exact sH _ _ _|apply sT));(first|exact nfL_eq rfl|exact rfl);exact rfl)|((first|apply kh|apply kl);(iterate 2 exact rfl);(first|decide|omega);exact rfl)|(apply LR.ev; (· apply Ev.load (v := .slice none 0 0); (· exact rfl); (· refine fun w' hw' => own_cell (hw'.holds (.own b (.cells cs.toArray E (0, 0))) ?_) hz; (repeat (first | exact mH _ _ | apply mT)); done)); (· exact rfl))|(apply LR.call; (· exact rfl); (intro w1 h1; have h3 : St w F [rX bc br a c s bn [Value.int .i64 0] 3, .own bs (.cells [Value.pointer (some ⟨bn, 0, none⟩)].toArray 152 (0, 0)), .own b (.cells cs.toArray E (0, 0))] w1 := St.join (x := rC bc br a c s.1 s.2) (front (front (St.join (x := codB bc none (some ⟨br, 0, none⟩) s.2) (front (front h1 3 rfl rfl) 3 rfl rfl) rfl rfl) 2 rfl rfl) 1 rfl rfl) rfl rfl; refine (p87r bc br a c s bn [Value.int .i64 0] 3 bs [0] w1 (h3.holds _ (mH _ _)) (h3.rd_of_blk (by (repeat (first | exact mH _ _ | apply mT)))) (St.apart2 (x := .own bs (.cells _ 152 (0, 0))) h3 (.inr (by (repeat (first | exact List.Sublist.refl _ | apply List.Sublist.cons_cons | apply List.Sublist.cons)))) rfl bs rfl) (by simp) hB hm (by simp)).mono ?_; rintro v w2 ⟨a2, c2, rfl, st⟩; rw [hrd] at st; refine LR.back (((St.did h3 (Sel.head _ _ _) rfl st (rX_dep _ _ _ _ _ _ _ _)).part (rC_dep _ _ _ _ _ _) (Asrt.dep_own _ _)).part (Asrt.dep_own _ _) (rrA_dep _ _ _ _ _ _)) ?_; clear st h3 h1))|(apply LR.makeSlice (m := k); (· exact rfl); (· exact rfl); (· omega); (· omega); (· exact rfl); (· exact rfl); (intro bm))|(apply kS; (· exact rfl); (· exact rfl); (· (repeat (first | exact sH _ _ _ | apply sT))); (· exact hst _))|(apply LR.ev; (· apply Ev.load (v := .slice (some ⟨bm, 0, none⟩) k k); (· exact rfl); (· refine fun w' hw' => own_cell (hw'.holds (.own b (.cells (splice cs o [.slice (some ⟨bm, 0, none⟩) k k]).toArray E (0, 0))) ?_) (splice_at ho); (repeat (first | exact mH _ _ | apply mT)); done)); (· exact rfl))|((first|(apply kR;iterate 2 exact rfl)|(apply kQ;exact rfl));all_goals(intro hc;try simp only[hcs]at hc;try(exfalso;first|contradiction|omega))))
      apply CW.loop [9, 48, 49, 50, 51, 52, 53, 54, 55, 56, 57, 58, 59] (fun t : Lst => t.i ≤ k) (fun t => [(48, Value.int .i64 (t.i : Int))])
        (fun t => St w F [.own bm (.cells ((rdL getS t.i (l1, 0)).1.flatMap ivF ++ (List.replicate (k - t.i) [Value.int .i64 0]).flatten).toArray 3 (0, 0)), codB bc none (some ⟨br, 0, none⟩) (rdL getS t.i (l1, 0)).2.2, rrA 173 [.bool true] br t.a t.c (rdL getS t.i (l1, 0)).2.1, .own b (.cells (splice cs o [.slice (some ⟨bm, 0, none⟩) k k]).toArray E (0, 0))]) (fun t => k - t.i)
      · exact fun w' hw' => ⟨⟨0, a2, c2⟩, Nat.zero_le _, ⟨rfl, trivial⟩, hw'.sub (L' := [.own bm (.cells (List.replicate k [Value.int .i64 0]).flatten.toArray 3 (0, 0)), codB bc none (some ⟨br, 0, none⟩) 0, rrA 173 [.bool true] br a2 c2 l1, .own b (.cells (splice cs o [.slice (some ⟨bm, 0, none⟩) k k]).toArray E (0, 0))]) (by (repeat (first | exact List.Sublist.refl _ | apply List.Sublist.cons_cons | apply List.Sublist.cons)))⟩
      rintro ⟨i, a1, c1⟩ g hi
      simp only at hi ⊢
      have hlen := rdL_len getS i (l1, 0)
      have hrl := Go.Hb.rows_len ivF_len (rdL getS i (l1, 0)).1
      rw [hlen] at hrl
      have hbyt := rdL_byt (fun s => getS_byt) i (l1, 0) hgb
      have hle := rdL_le getS_le i (l1, 0)
      by_cases hlt : i < k
      · have hel : rdN [0 + (i : Int).toNat * 1] ((rdL getS i (l1, 0)).1.flatMap ivF ++ (List.replicate (k - i) [Value.int .i64 0]).flatten) (rdL getS i (l1, 0)).2 = ((rdL getS (i + 1) (l1, 0)).1.flatMap ivF ++ (List.replicate (k - (i + 1)) [Value.int .i64 0]).flatten, (rdL getS (i + 1) (l1, 0)).2) := by
          rw [rep_succ hlt]
          refine (rd_int _ _ _ (by rw [hrl]; simp)).trans ?_
          rw [rdL, List.flatMap_append]
          simp [ivF]
        have hcl : ((rdL getS i (l1, 0)).1.flatMap ivF ++ (List.replicate (k - i) [Value.int .i64 0]).flatten).length = k * 1 := by
          rw [List.length_append, hrl, rep_len1]
          show i * 1 + (k - i) * 1 = k * 1
          omega
        obtain ⟨⟨X1, s1⟩, hX1⟩ : ∃ r, rdL getS i (l1, 0) = r := ⟨_, rfl⟩
        rw [hX1] at hel hcl hbyt hle
        rw [hX1]
        simp only at hel hcl hbyt hle ⊢
        repeat'(first|(apply kp;iterate 2 exact rfl)|apply jJ|(apply jE;exact rfl)|(apply jp;exact rfl)|(apply jc;kernel_rfl)|((first|apply kf|apply kn|apply ke|apply kx|apply kc|apply kb);iterate 2 exact rfl)|((first|apply kz|apply ky);(·exact rfl);(·repeat(first|exact iO|exact iR rfl|apply iT));iterate 2 exact rfl)|(apply kg;iterate 2 exact rfl)|(apply kG;iterate 3 exact rfl)|(apply kB;(iterate 2 exact rfl);intro _)|(apply kA;exact rfl;intro _)|(apply Go.Hb.kK;(iterate 4 exact rfl);intro _)|(apply kU;(iterate 2 exact rfl);(·repeat(first|exact sH _ _ _|apply sT));(first|exact nfL_eq rfl|exact rfl);exact rfl)|((first|apply kh|apply kl);(iterate 2 exact rfl);(first|decide|omega);exact rfl)|(apply idxX;(iterate 2 exact rfl);(iterate 2(first|omega|(dsimp only;omega)));exact rfl)|(apply LR.ev; (· apply Ev.load (v := .slice (some ⟨bm, 0, none⟩) k k); (· exact rfl); (· refine fun w' hw' => own_cell (hw'.holds (.own b (.cells (splice cs o [.slice (some ⟨bm, 0, none⟩) k k]).toArray E (0, 0))) ?_) (splice_at ho); (repeat (first | exact mH _ _ | apply mT)); done)); (· exact rfl))|((first|(apply kR;iterate 2 exact rfl)|(apply kQ;exact rfl));all_goals(intro hc;try simp only[hcs]at hc;try(exfalso;first|contradiction|omega))))
        apply LR.call_val (g := 92) (cap := [])
        · exact rfl
        · exact rfl
        intro w1 h1
        have h2 : St w F [rC bc br a1 c1 s1.1 s1.2, .own bm (.cells (X1.flatMap ivF ++ (List.replicate (k - i) [Value.int .i64 0]).flatten).toArray 3 (0, 0)), .own b (.cells (splice cs o [.slice (some ⟨bm, 0, none⟩) k k]).toArray E (0, 0))] w1 := St.join (x := codB bc none (some ⟨br, 0, none⟩) s1.2) (front (front (front h1 1 rfl rfl) 2 rfl rfl) 1 rfl rfl) rfl rfl
        have h3 : St w F [rX bc br a1 c1 s1 bm (X1.flatMap ivF ++ (List.replicate (k - i) [Value.int .i64 0]).flatten) 3, .own b (.cells (splice cs o [.slice (some ⟨bm, 0, none⟩) k k]).toArray E (0, 0))] w1 := St.join h2 rfl rfl
        refine CallsTo.mono (show CallsTo Try.prog 92 [.pointer (some ⟨bc, 0, none⟩), .pointer (some ⟨bm, 0 + (i : Int).toNat * 1, none⟩)] w1 _ from p92r bc br a1 c1 s1 bm _ 3 (0 + (i : Int).toNat * 1) w1 (h3.holds _ (mH _ _)) (by rw [hcl, Int.toNat_natCast]; omega) hbyt (by omega)) ?_
        rintro v w2 ⟨a3, c3, rfl, st⟩
        rw [hel] at st
        refine LR.back (front (((St.did h3 (Sel.head _ _ _) rfl st (rX_dep _ _ _ _ _ _ _ _)).part (rC_dep _ _ _ _ _ _) (Asrt.dep_own _ _)).part (Asrt.dep_own _ _) (rrA_dep _ _ _ _ _ _)) 2 rfl rfl) ?_
        clear st h3 h2 h1
        repeat'(first|(apply kp;iterate 2 exact rfl)|apply jJ|(apply jE;exact rfl)|(apply jp;exact rfl)|(apply jc;kernel_rfl)|((first|apply kf|apply kn|apply ke|apply kx|apply kc|apply kb);iterate 2 exact rfl)|((first|apply kz|apply ky);(·exact rfl);(·repeat(first|exact iO|exact iR rfl|apply iT));iterate 2 exact rfl)|(apply kg;iterate 2 exact rfl)|(apply kG;iterate 3 exact rfl)|(apply kB;(iterate 2 exact rfl);intro _)|(apply kA;exact rfl;intro _)|(apply Go.Hb.kK;(iterate 4 exact rfl);intro _)|(apply kU;(iterate 2 exact rfl);(·repeat(first|exact sH _ _ _|apply sT));(first|exact nfL_eq rfl|exact rfl);exact rfl)|((first|apply kh|apply kl);(iterate 2 exact rfl);(first|decide|omega);exact rfl)|(apply addX;(iterate 2 exact rfl);(iterate 2(first|omega|(dsimp only;omega)));exact rfl)|((first|(apply kR;iterate 2 exact rfl)|(apply kQ;exact rfl));all_goals(intro hc;try simp only[hcs]at hc;try(exfalso;first|contradiction|omega))))
        refine At.again (⟨i + 1, a3, c3⟩ : Lst) (by show i + 1 ≤ _; omega) ?_ ⟨rfl, trivial⟩ (fun w' hw' => hw') (by show k - (i + 1) < k - i; omega)
        (repeat (first | exact Out.refl _ _ | exact Out.mix | (apply Out.upd; (· exact rfl)) | (apply Out.updL; (· exact rfl)) | (apply Out.mixs; (· exact rfl))))
      · have hie : i = k := by omega
        subst hie
        repeat'(first|(apply kp;iterate 2 exact rfl)|apply jJ|(apply jE;exact rfl)|(apply jp;exact rfl)|(apply jc;kernel_rfl)|((first|apply kf|apply kn|apply ke|apply kx|apply kc|apply kb);iterate 2 exact rfl)|((first|apply kz|apply ky);(·exact rfl);(·repeat(first|exact iO|exact iR rfl|apply iT));iterate 2 exact rfl)|(apply kg;iterate 2 exact rfl)|(apply kG;iterate 3 exact rfl)|(apply kB;(iterate 2 exact rfl);intro _)|(apply kA;exact rfl;intro _)|(apply Go.Hb.kK;(iterate 4 exact rfl);intro _)|(apply kU;(iterate 2 exact rfl);(·repeat(first|exact sH _ _ _|apply sT));(first|exact nfL_eq rfl|exact rfl);exact rfl)|((first|apply kh|apply kl);(iterate 2 exact rfl);(first|decide|omega);exact rfl)|((first|(apply kR;iterate 2 exact rfl)|(apply kQ;exact rfl));all_goals(intro hc;try simp only[hcs]at hc;try(exfalso;first|contradiction|omega))))
        apply end0
        · exact rfl
        intro w' hS
        rw [hr1] at hS hlen
        rw [Nat.sub_self, List.replicate_zero, List.flatten_nil, List.append_nil] at hS
        refine ⟨rfl, a1, c1, _, _, lst_fin hF hS rfl, Asrt.dep_own _ _, rfl, splice_len1 ho, fun _ => ⟨some ⟨bm, 0, none⟩, i, by rw [hlen], by simp, fun w2 h2 => own_rd h2⟩⟩
  · rw [if_pos he] at hr1
    subst hr1
    repeat'(first|(apply kA;exact rfl;intro bn)|(apply Go.Hb.kK;(iterate 4 exact rfl);intro bs)|(apply kp;iterate 2 exact rfl)|apply jJ|(apply jE;exact rfl)|(apply jp;exact rfl)|(apply jc;kernel_rfl)|((first|apply kf|apply kn|apply ke|apply kx|apply kc|apply kb);iterate 2 exact rfl)|((first|apply kz|apply ky);(·exact rfl);(·repeat(first|exact iO|exact iR rfl|apply iT));iterate 2 exact rfl)|(apply kg;iterate 2 exact rfl)|(apply kG;iterate 3 exact rfl)|(apply kB;(iterate 2 exact rfl);intro _)|(apply kA;exact rfl;intro _)|(apply Go.Hb.kK;(iterate 4 exact rfl);intro _)|(apply kU;(iterate 2 exact rfl);(·repeat(first|exact sH _ _ _|apply sT));(first|exact nfL_eq rfl|exact rfl);exact rfl)|((first|apply kh|apply kl);(iterate 2 exact rfl);(first|decide|omega);exact rfl)|(apply LR.ev; (· apply Ev.load (v := .slice none 0 0); (· exact rfl); (· refine fun w' hw' => own_cell (hw'.holds (.own b (.cells cs.toArray E (0, 0))) ?_) hz; (repeat (first | exact mH _ _ | apply mT)); done)); (· exact rfl))|(apply LR.call; (· exact rfl); (intro w1 h1; have h3 : St w F [rX bc br a c s bn [Value.int .i64 0] 3, .own bs (.cells [Value.pointer (some ⟨bn, 0, none⟩)].toArray 152 (0, 0)), .own b (.cells cs.toArray E (0, 0))] w1 := St.join (x := rC bc br a c s.1 s.2) (front (front (St.join (x := codB bc none (some ⟨br, 0, none⟩) s.2) (front (front h1 3 rfl rfl) 3 rfl rfl) rfl rfl) 2 rfl rfl) 1 rfl rfl) rfl rfl; refine (p87r bc br a c s bn [Value.int .i64 0] 3 bs [0] w1 (h3.holds _ (mH _ _)) (h3.rd_of_blk (by (repeat (first | exact mH _ _ | apply mT)))) (St.apart2 (x := .own bs (.cells _ 152 (0, 0))) h3 (.inr (by (repeat (first | exact List.Sublist.refl _ | apply List.Sublist.cons_cons | apply List.Sublist.cons)))) rfl bs rfl) (by simp) hB hm (by simp)).mono ?_; rintro v w2 ⟨a2, c2, rfl, st⟩; rw [hrd] at st; refine LR.back (((St.did h3 (Sel.head _ _ _) rfl st (rX_dep _ _ _ _ _ _ _ _)).part (rC_dep _ _ _ _ _ _) (Asrt.dep_own _ _)).part (Asrt.dep_own _ _) (rrA_dep _ _ _ _ _ _)) ?_; clear st h3 h1))|((first|(apply kR;iterate 2 exact rfl)|(apply kQ;exact rfl));all_goals(intro hc;try simp only[hcs]at hc;try(exfalso;first|contradiction|omega))))
    apply ret0
    · exact rfl
    intro w' hS
    exact ⟨rfl, lst_none hF (s' := (l1, e1)) (a' := a2) (c' := c2) (cs' := cs) (hS.sub (by (repeat (first | exact List.Sublist.refl _ | apply List.Sublist.cons_cons | apply List.Sublist.cons)))) rfl he⟩
set_option maxHeartbeats 16000000 in
theorem p93r (bc br : Nat) (a : Option Addr) (c : Nat) (s : RS) (b : Nat) (cs : List Value) (E : Nat) (o : Nat) (most : Int) (w : World) (h : (rX bc br a c s b cs E).holds w) (ho : o < cs.length) (hz : cs[o]? = some (.slice none 0 0)) (hB : Byt s.1) (hm : s.1.length ≤ 281474976710656) (hmost : most ≤ 100) :
    CallsTo Try.prog 93 [.pointer (some ⟨bc, 0, none⟩), .pointer (some ⟨b, o, none⟩), .int .i64 most, .func (.func 94) #[] #[]] w fun v w' => v = .tuple #[] ∧ LstP bc br a c s b cs E (lstR getE most s).2
      (fun cs' X => ∃ sa sc, cs' = splice cs o [.slice sa (lstR getE most s).1.length sc] ∧ (sa = none → sc = 0) ∧ ∀ w2, X.holds w2 → Rd w2 sa ((lstR getE most s).1.flatMap Ent.cells)) w w' := by
  have hS0 := St.one h (both_live h) (rX_dep _ _ _ _ _ _ _ _)
  generalize hF : (rX bc br a c s b cs E).foot = F at hS0
  have hS1 : St w F [codB bc none (some ⟨br, 0, none⟩) s.2, rrA 173 [.bool true] br a c s.1, .own b (.cells cs.toArray E (0, 0))] w := (hS0.part (rC_dep _ _ _ _ _ _) (Asrt.dep_own _ _)).part (Asrt.dep_own _ _) (rrA_dep _ _ _ _ _ _)
  have hrd : rdN [0] [Value.int .i64 0] s = ([Value.int .i64 (getS s).1], (getS s).2) := rd_int [] [] s rfl
  have hgb := getS_byt hB
  have hgl := getS_le s
  have hgn := getS_nn s
  obtain ⟨r0, hr0⟩ : ∃ r, lstR getE most s = r := ⟨_, rfl⟩
  have hr1 := hr0
  rw [hr0]
  unfold lstR at hr1
  obtain ⟨⟨n, l1, e1⟩, hg⟩ : ∃ r, getS s = r := ⟨_, rfl⟩
  rw [hg] at hrd hgb hgl hgn hr1
  simp only at hrd hgb hgl hgn hr1
  refine go_in (n := 60) hS1 Try.func93 rfl rfl ?_
  by_cases he : e1 = 0
  · subst he
    rw [if_neg (by simp)] at hr1
    by_cases hn : most < n
    · rw [if_pos hn] at hr1
      subst hr1
      repeat'(first|(apply kA;exact rfl;intro bn)|(apply Go.Hb.kK;(iterate 4 exact rfl);intro bs)|(apply kp;iterate 2 exact rfl)|apply jJ|(apply jE;exact rfl)|(apply jp;exact rfl)|(apply jc;kernel_rfl)|((first|apply kf|apply kn|apply ke|apply kx|apply kc|apply kb);iterate 2 exact rfl)|((first|apply kz|apply ky);(·exact rfl);(·repeat(first|exact iO|exact iR rfl|apply iT));iterate 2 exact rfl)|(apply kg;iterate 2 exact rfl)|(apply kG;iterate 3 exact rfl)|(apply kB;(iterate 2 exact rfl);intro _)|(apply kA;exact rfl;intro _)|(apply Go.Hb.kK;(iterate 4 exact rfl);intro _)|(apply kU;(iterate 2 exact rfl);(·repeat(first|exact sH _ _ _|apply sT));(first|exact nfL_eq rfl|exact rfl);exact rfl)|((first|apply kh|apply kl);(iterate 2 exact rfl);(first|decide|omega);exact rfl)|(apply LR.ev; (· apply Ev.load (v := .slice none 0 0); (· exact rfl); (· refine fun w' hw' => own_cell (hw'.holds (.own b (.cells cs.toArray E (0, 0))) ?_) hz; (repeat (first | exact mH _ _ | apply mT)); done)); (· exact rfl))|(apply LR.call; (· exact rfl); (intro w1 h1; have h3 : St w F [rX bc br a c s bn [Value.int .i64 0] 3, .own bs (.cells [Value.pointer (some ⟨bn, 0, none⟩)].toArray 152 (0, 0)), .own b (.cells cs.toArray E (0, 0))] w1 := St.join (x := rC bc br a c s.1 s.2) (front (front (St.join (x := codB bc none (some ⟨br, 0, none⟩) s.2) (front (front h1 3 rfl rfl) 3 rfl rfl) rfl rfl) 2 rfl rfl) 1 rfl rfl) rfl rfl; refine (p87r bc br a c s bn [Value.int .i64 0] 3 bs [0] w1 (h3.holds _ (mH _ _)) (h3.rd_of_blk (by (repeat (first | exact mH _ _ | apply mT)))) (St.apart2 (x := .own bs (.cells _ 152 (0, 0))) h3 (.inr (by (repeat (first | exact List.Sublist.refl _ | apply List.Sublist.cons_cons | apply List.Sublist.cons)))) rfl bs rfl) (by simp) hB hm (by simp)).mono ?_; rintro v w2 ⟨a2, c2, rfl, st⟩; rw [hrd] at st; refine LR.back (((St.did h3 (Sel.head _ _ _) rfl st (rX_dep _ _ _ _ _ _ _ _)).part (rC_dep _ _ _ _ _ _) (Asrt.dep_own _ _)).part (Asrt.dep_own _ _) (rrA_dep _ _ _ _ _ _)) ?_; clear st h3 h1))|((first|(apply kR;iterate 2 exact rfl)|(apply kQ;exact rfl));all_goals(intro hc;try simp only[hcs]at hc;try(exfalso;first|contradiction|omega))))
      apply ret0
      · exact rfl
      intro w' hS
      exact ⟨rfl, lst_none hF (s' := (l1, 5)) (a' := a2) (c' := c2) (cs' := cs) (hS.sub (by (repeat (first | exact List.Sublist.refl _ | apply List.Sublist.cons_cons | apply List.Sublist.cons)))) rfl (by simp)⟩
    · rw [if_neg hn] at hr1
      obtain ⟨k, rfl⟩ := Int.eq_ofNat_of_zero_le hgn
      rw [Int.toNat_natCast] at hr1
      have hk : k ≤ 100 := by omega
      have hst : ∀ bm : Nat, (([Value.slice (some ⟨bm, 0, none⟩) k k].all Value.oneCell' && Nat.beq 1 1 && Nat.ble (o + 1) cs.length) = true) := fun bm => by
        have h1 : Nat.ble (o + 1) cs.length = true := by simp; omega
        show ((true && true && Nat.ble (o + 1) cs.length) = true)
        rw [h1]; rfl
      repeat'(first|(apply kA;exact rfl;intro bn)|(apply Go.Hb.kK;(iterate 4 exact rfl);intro bs)|(apply kp;iterate 2 exact rfl)|apply jJ|(apply jE;exact rfl)|(apply jp;exact rfl)|(apply jc;kernel_rfl)|((first|apply kf|apply kn|apply ke|apply kx|apply kc|apply kb);iterate 2 exact rfl)|((first|apply kz|apply ky);(·exact rfl);(·repeat(first|exact iO|exact iR rfl|apply iT));iterate 2 exact rfl)|(apply kg;iterate 2 exact rfl)|(apply kG;iterate 3 exact rfl)|(apply kB;(iterate 2 exact rfl);intro _)|(apply kA;exact rfl;intro _)|(apply Go.Hb.kK;(iterate 4 exact rfl);intro _)|(apply kU;(iterate 2 exact rfl);(·repeat(first|exact sH _ _ _|apply sT));(first|exact nfL_eq rfl|exact rfl);exact rfl)|((first|apply kh|apply kl);(iterate 2 exact rfl);(first|decide|omega);exact rfl)|(apply LR.ev; (· apply Ev.load (v := .slice none 0 0); (· exact rfl); (· refine fun w' hw' => own_cell (hw'.holds (.own b (.cells cs.toArray E (0, 0))) ?_) hz; (repeat (first | exact mH _ _ | apply mT)); done)); (· exact rfl))|(apply LR.call; (· exact rfl); (intro w1 h1; have h3 : St w F [rX bc br a c s bn [Value.int .i64 0] 3, .own bs (.cells [Value.pointer (some ⟨bn, 0, none⟩)].toArray 152 (0, 0)), .own b (.cells cs.toArray E (0, 0))] w1 := St.join (x := rC bc br a c s.1 s.2) (front (front (St.join (x := codB bc none (some ⟨br, 0, none⟩) s.2) (front (front h1 3 rfl rfl) 3 rfl rfl) rfl rfl) 2 rfl rfl) 1 rfl rfl) rfl rfl; refine (p87r bc br a c s bn [Value.int .i64 0] 3 bs [0] w1 (h3.holds _ (mH _ _)) (h3.rd_of_blk (by (repeat (first | exact mH _ _ | apply mT)))) (St.apart2 (x := .own bs (.cells _ 152 (0, 0))) h3 (.inr (by (repeat (first | exact List.Sublist.refl _ | apply List.Sublist.cons_cons | apply List.Sublist.cons)))) rfl bs rfl) (by simp) hB hm (by simp)).mono ?_; rintro v w2 ⟨a2, c2, rfl, st⟩; rw [hrd] at st; refine LR.back (((St.did h3 (Sel.head _ _ _) rfl st (rX_dep _ _ _ _ _ _ _ _)).part (rC_dep _ _ _ _ _ _) (Asrt.dep_own _ _)).part (Asrt.dep_own _ _) (rrA_dep _ _ _ _ _ _)) ?_; clear st h3 h1))|(apply LR.makeSlice (m := k); (· exact rfl); (· exact rfl); (· omega); (· omega); (· exact rfl); (· exact rfl); (intro bm))|(apply kS; (· exact rfl); (· exact rfl); (· (repeat (first | exact sH _ _ _ | apply sT))); (· exact hst _))|(apply LR.ev; (· apply Ev.load (v := .slice (some ⟨bm, 0, none⟩) k k); (· exact rfl); (· refine fun w' hw' => own_cell (hw'.holds (.own b (.cells (splice cs o [.slice (some ⟨bm, 0, none⟩) k k]).toArray E (0, 0))) ?_) (splice_at ho); (repeat (first | exact mH _ _ | apply mT)); done)); (· exact rfl))|((first|(apply kR;iterate 2 exact rfl)|(apply kQ;exact rfl));all_goals(intro hc;try simp only[hcs]at hc;try(exfalso;first|contradiction|omega))))
      apply CW.loop [9, 48, 49, 50, 51, 52, 53, 54, 55, 56, 57, 58, 59] (fun t : Lst => t.i ≤ k) (fun t => [(48, Value.int .i64 (t.i : Int))])
        (fun t => St w F [.own bm (.cells ((rdL getE t.i (l1, 0)).1.flatMap Ent.cells ++ (List.replicate (k - t.i) [Value.int .i64 0, .int .i64 0, .int .i64 0, .int .i64 0, .int .i64 0, .int .i64 0]).flatten).toArray 167 (0, 0)), codB bc none (some ⟨br, 0, none⟩) (rdL getE t.i (l1, 0)).2.2, rrA 173 [.bool true] br t.a t.c (rdL getE t.i (l1, 0)).2.1, .own b (.cells (splice cs o [.slice (some ⟨bm, 0, none⟩) k k]).toArray E (0, 0))]) (fun t => k - t.i)
      · exact fun w' hw' => ⟨⟨0, a2, c2⟩, Nat.zero_le _, ⟨rfl, trivial⟩, hw'.sub (L' := [.own bm (.cells (List.replicate k [Value.int .i64 0, .int .i64 0, .int .i64 0, .int .i64 0, .int .i64 0, .int .i64 0]).flatten.toArray 167 (0, 0)), codB bc none (some ⟨br, 0, none⟩) 0, rrA 173 [.bool true] br a2 c2 l1, .own b (.cells (splice cs o [.slice (some ⟨bm, 0, none⟩) k k]).toArray E (0, 0))]) (by (repeat (first | exact List.Sublist.refl _ | apply List.Sublist.cons_cons | apply List.Sublist.cons)))⟩
      rintro ⟨i, a1, c1⟩ g hi
      simp only at hi ⊢
      have hlen := rdL_len getE i (l1, 0)
      have hrl := Go.Hb.rows_len Ent.cells_len (rdL getE i (l1, 0)).1
      rw [hlen] at hrl
      have hbyt := rdL_byt (fun s => getE_byt) i (l1, 0) hgb
      have hle := rdL_le getE_le i (l1, 0)
      by_cases hlt : i < k
      · have hel : rdN (six (0 + (i : Int).toNat * 6)) ((rdL getE i (l1, 0)).1.flatMap Ent.cells ++ (List.replicate (k - i) [Value.int .i64 0, .int .i64 0, .int .i64 0, .int .i64 0, .int .i64 0, .int .i64 0]).flatten) (rdL getE i (l1, 0)).2 = ((rdL getE (i + 1) (l1, 0)).1.flatMap Ent.cells ++ (List.replicate (k - (i + 1)) [Value.int .i64 0, .int .i64 0, .int .i64 0, .int .i64 0, .int .i64 0, .int .i64 0]).flatten, (rdL getE (i + 1) (l1, 0)).2) := by
          rw [rep_succ hlt]
          refine (rd_ent _ _ _ (by rw [hrl]; simp)).trans ?_
          rw [rdL, List.flatMap_append]
          simp [Ent.cells]
        have hcl : ((rdL getE i (l1, 0)).1.flatMap Ent.cells ++ (List.replicate (k - i) [Value.int .i64 0, .int .i64 0, .int .i64 0, .int .i64 0, .int .i64 0, .int .i64 0]).flatten).length = k * 6 := by
          rw [List.length_append, hrl, rep_len6]
          show i * 6 + (k - i) * 6 = k * 6
          omega
        obtain ⟨⟨X1, s1⟩, hX1⟩ : ∃ r, rdL getE i (l1, 0) = r := ⟨_, rfl⟩
        rw [hX1] at hel hcl hbyt hle
        rw [hX1]
        simp only at hel hcl hbyt hle ⊢
        repeat'(first|(apply kp;iterate 2 exact rfl)|apply jJ|(apply jE;exact rfl)|(apply jp;exact rfl)|(apply jc;kernel_rfl)|((first|apply kf|apply kn|apply ke|apply kx|apply kc|apply kb);iterate 2 exact rfl)|((first|apply kz|apply ky);(·exact rfl);(·repeat(first|exact iO|exact iR rfl|apply iT));iterate 2 exact rfl)|(apply kg;iterate 2 exact rfl)|(apply kG;iterate 3 exact rfl)|(apply kB;(iterate 2 exact rfl);intro _)|(apply kA;exact rfl;intro _)|(apply Go.Hb.kK;(iterate 4 exact rfl);intro _)|(apply kU;(iterate 2 exact rfl);(·repeat(first|exact sH _ _ _|apply sT));(first|exact nfL_eq rfl|exact rfl);exact rfl)|((first|apply kh|apply kl);(iterate 2 exact rfl);(first|decide|omega);exact rfl)|(apply idxX;(iterate 2 exact rfl);(iterate 2(first|omega|(dsimp only;omega)));exact rfl)|(apply LR.ev; (· apply Ev.load (v := .slice (some ⟨bm, 0, none⟩) k k); (· exact rfl); (· refine fun w' hw' => own_cell (hw'.holds (.own b (.cells (splice cs o [.slice (some ⟨bm, 0, none⟩) k k]).toArray E (0, 0))) ?_) (splice_at ho); (repeat (first | exact mH _ _ | apply mT)); done)); (· exact rfl))|((first|(apply kR;iterate 2 exact rfl)|(apply kQ;exact rfl));all_goals(intro hc;try simp only[hcs]at hc;try(exfalso;first|contradiction|omega))))
        apply LR.call_val (g := 94) (cap := [])
        · exact rfl
        · exact rfl
        intro w1 h1
        have h2 : St w F [rC bc br a1 c1 s1.1 s1.2, .own bm (.cells (X1.flatMap Ent.cells ++ (List.replicate (k - i) [Value.int .i64 0, .int .i64 0, .int .i64 0, .int .i64 0, .int .i64 0, .int .i64 0]).flatten).toArray 167 (0, 0)), .own b (.cells (splice cs o [.slice (some ⟨bm, 0, none⟩) k k]).toArray E (0, 0))] w1 := St.join (x := codB bc none (some ⟨br, 0, none⟩) s1.2) (front (front (front h1 1 rfl rfl) 2 rfl rfl) 1 rfl rfl) rfl rfl
        have h3 : St w F [rX bc br a1 c1 s1 bm (X1.flatMap Ent.cells ++ (List.replicate (k - i) [Value.int .i64 0, .int .i64 0, .int .i64 0, .int .i64 0, .int .i64 0, .int .i64 0]).flatten) 167, .own b (.cells (splice cs o [.slice (some ⟨bm, 0, none⟩) k k]).toArray E (0, 0))] w1 := St.join h2 rfl rfl
        refine CallsTo.mono (show CallsTo Try.prog 94 [.pointer (some ⟨bc, 0, none⟩), .pointer (some ⟨bm, 0 + (i : Int).toNat * 6, none⟩)] w1 _ from p94r bc br a1 c1 s1 bm _ 167 (0 + (i : Int).toNat * 6) w1 (h3.holds _ (mH _ _)) (by rw [hcl, Int.toNat_natCast]; omega) hbyt (by omega)) ?_
        rintro v w2 ⟨a3, c3, rfl, st⟩
        rw [hel] at st
        refine LR.back (front (((St.did h3 (Sel.head _ _ _) rfl st (rX_dep _ _ _ _ _ _ _ _)).part (rC_dep _ _ _ _ _ _) (Asrt.dep_own _ _)).part (Asrt.dep_own _ _) (rrA_dep _ _ _ _ _ _)) 2 rfl rfl) ?_
        clear st h3 h2 h1
        repeat'(first|(apply kp;iterate 2 exact rfl)|apply jJ|(apply jE;exact rfl)|(apply jp;exact rfl)|(apply jc;kernel_rfl)|((first|apply kf|apply kn|apply ke|apply kx|apply kc|apply kb);iterate 2 exact rfl)|((first|apply kz|apply ky);(·exact rfl);(·repeat(first|exact iO|exact iR rfl|apply iT));iterate 2 exact rfl)|(apply kg;iterate 2 exact rfl)|(apply kG;iterate 3 exact rfl)|(apply kB;(iterate 2 exact rfl);intro _)|(apply kA;exact rfl;intro _)|(apply Go.Hb.kK;(iterate 4 exact rfl);intro _)|(apply kU;(iterate 2 exact rfl);(·repeat(first|exact sH _ _ _|apply sT));(first|exact nfL_eq rfl|exact rfl);exact rfl)|((first|apply kh|apply kl);(iterate 2 exact rfl);(first|decide|omega);exact rfl)|(apply addX;(iterate 2 exact rfl);(iterate 2(first|omega|(dsimp only;omega)));exact rfl)|((first|(apply kR;iterate 2 exact rfl)|(apply kQ;exact rfl));all_goals(intro hc;try simp only[hcs]at hc;try(exfalso;first|contradiction|omega))))
        refine At.again (⟨i + 1, a3, c3⟩ : Lst) (by show i + 1 ≤ _; omega) ?_ ⟨rfl, trivial⟩ (fun w' hw' => hw') (by show k - (i + 1) < k - i; omega)
        (repeat (first | exact Out.refl _ _ | exact Out.mix | (apply Out.upd; (· exact rfl)) | (apply Out.updL; (· exact rfl)) | (apply Out.mixs; (· exact rfl))))
      · have hie : i = k := by omega
        subst hie
        repeat'(first|(apply kp;iterate 2 exact rfl)|apply jJ|(apply jE;exact rfl)|(apply jp;exact rfl)|(apply jc;kernel_rfl)|((first|apply kf|apply kn|apply ke|apply kx|apply kc|apply kb);iterate 2 exact rfl)|((first|apply kz|apply ky);(·exact rfl);(·repeat(first|exact iO|exact iR rfl|apply iT));iterate 2 exact rfl)|(apply kg;iterate 2 exact rfl)|(apply kG;iterate 3 exact rfl)|(apply kB;(iterate 2 exact rfl);intro _)|(apply kA;exact rfl;intro _)|(apply Go.Hb.kK;(iterate 4 exact rfl);intro _)|(apply kU;(iterate 2 exact rfl);(·repeat(first|exact sH _ _ _|apply sT));(first|exact nfL_eq rfl|exact rfl);exact rfl)|((first|apply kh|apply kl);(iterate 2 exact rfl);(first|decide|omega);exact rfl)|((first|(apply kR;iterate 2 exact rfl)|(apply kQ;exact rfl));all_goals(intro hc;try simp only[hcs]at hc;try(exfalso;first|contradiction|omega))))
        apply end0
        · exact rfl
        intro w' hS
        rw [hr1] at hS hlen
        rw [Nat.sub_self, List.replicate_zero, List.flatten_nil, List.append_nil] at hS
        refine ⟨rfl, a1, c1, _, _, lst_fin hF hS rfl, Asrt.dep_own _ _, rfl, splice_len1 ho, fun _ => ⟨some ⟨bm, 0, none⟩, i, by rw [hlen], by simp, fun w2 h2 => own_rd h2⟩⟩
  · rw [if_pos he] at hr1
    subst hr1
    repeat'(first|(apply kA;exact rfl;intro bn)|(apply Go.Hb.kK;(iterate 4 exact rfl);intro bs)|(apply kp;iterate 2 exact rfl)|apply jJ|(apply jE;exact rfl)|(apply jp;exact rfl)|(apply jc;kernel_rfl)|((first|apply kf|apply kn|apply ke|apply kx|apply kc|apply kb);iterate 2 exact rfl)|((first|apply kz|apply ky);(·exact rfl);(·repeat(first|exact iO|exact iR rfl|apply iT));iterate 2 exact rfl)|(apply kg;iterate 2 exact rfl)|(apply kG;iterate 3 exact rfl)|(apply kB;(iterate 2 exact rfl);intro _)|(apply kA;exact rfl;intro _)|(apply Go.Hb.kK;(iterate 4 exact rfl);intro _)|(apply kU;(iterate 2 exact rfl);(·repeat(first|exact sH _ _ _|apply sT));(first|exact nfL_eq rfl|exact rfl);exact rfl)|((first|apply kh|apply kl);(iterate 2 exact rfl);(first|decide|omega);exact rfl)|(apply LR.ev; (· apply Ev.load (v := .slice none 0 0); (· exact rfl); (· refine fun w' hw' => own_cell (hw'.holds (.own b (.cells cs.toArray E (0, 0))) ?_) hz; (repeat (first | exact mH _ _ | apply mT)); done)); (· exact rfl))|(apply LR.call; (· exact rfl); (intro w1 h1; have h3 : St w F [rX bc br a c s bn [Value.int .i64 0] 3, .own bs (.cells [Value.pointer (some ⟨bn, 0, none⟩)].toArray 152 (0, 0)), .own b (.cells cs.toArray E (0, 0))] w1 := St.join (x := rC bc br a c s.1 s.2) (front (front (St.join (x := codB bc none (some ⟨br, 0, none⟩) s.2) (front (front h1 3 rfl rfl) 3 rfl rfl) rfl rfl) 2 rfl rfl) 1 rfl rfl) rfl rfl; refine (p87r bc br a c s bn [Value.int .i64 0] 3 bs [0] w1 (h3.holds _ (mH _ _)) (h3.rd_of_blk (by (repeat (first | exact mH _ _ | apply mT)))) (St.apart2 (x := .own bs (.cells _ 152 (0, 0))) h3 (.inr (by (repeat (first | exact List.Sublist.refl _ | apply List.Sublist.cons_cons | apply List.Sublist.cons)))) rfl bs rfl) (by simp) hB hm (by simp)).mono ?_; rintro v w2 ⟨a2, c2, rfl, st⟩; rw [hrd] at st; refine LR.back (((St.did h3 (Sel.head _ _ _) rfl st (rX_dep _ _ _ _ _ _ _ _)).part (rC_dep _ _ _ _ _ _) (Asrt.dep_own _ _)).part (Asrt.dep_own _ _) (rrA_dep _ _ _ _ _ _)) ?_; clear st h3 h1))|((first|(apply kR;iterate 2 exact rfl)|(apply kQ;exact rfl));all_goals(intro hc;try simp only[hcs]at hc;try(exfalso;first|contradiction|omega))))
    apply ret0
    · exact rfl
    intro w' hS
    exact ⟨rfl, lst_none hF (s' := (l1, e1)) (a' := a2) (c' := c2) (cs' := cs) (hS.sub (by (repeat (first | exact List.Sublist.refl _ | apply List.Sublist.cons_cons | apply List.Sublist.cons)))) rfl he⟩
end Go.Proofs.Ytkolmkdbjagfcaa

namespace Go.Proofs.Ytkolmkdbjagfcaa
open Go.Hb
attribute [local irreducible] LR CW At Ev thn blk finK noG again CallsTo DW QL dnext TW DP
set_option linter.unusedSimpArgs false
set_option linter.unusedVariables false
set_option maxRecDepth 100000

def msgR (s : RS) : Msg × RS :=
  if s.2 ≠ 0 then (zeroMsg, s)
  else if (octs 512 s.1).2.1 ≠ 0 then (zeroMsg, ((octs 512 s.1).2.2, (octs 512 s.1).2.1))
  else ((unpack (octs 512 s.1).1).1, ((octs 512 s.1).2.2, (unpack (octs 512 s.1).1).2))
theorem octs_rest (most : Int) (l : List Int) : (∃ n, (octs most l).2.2 = l.drop n) := by
  unfold octs
  repeat' split
  all_goals first | exact ⟨_, rfl⟩ | exact ⟨0, rfl⟩
set_option maxHeartbeats 8000000 in
theorem p90r (bc br : Nat) (a : Option Addr) (c : Nat) (s : RS) (b : Nat) (cs : List Value) (E : Nat) (o : Nat) (w : World) (h : (rX bc br a c s b cs E).holds w) (ho : o + 13 ≤ cs.length) (hB : Byt s.1) (hm : s.1.length ≤ 140737488355328) :
    CallsTo Try.prog 90 [.pointer (some ⟨bc, 0, none⟩), .pointer (some ⟨b, o, none⟩)] w fun v w' => v = .tuple #[] ∧ LstP bc br a c s b cs E (msgR s).2
      (fun cs' X => ∃ ma mc, cs' = splice cs o ((msgR s).1.cells ma mc) ∧ (ma = none → mc = 0) ∧ ∀ w2, X.holds w2 → Rd w2 ma (bv (msgR s).1.body)) w w' := by
  have hS0 := St.one h (both_live h) (rX_dep _ _ _ _ _ _ _ _)
  generalize hF : (rX bc br a c s b cs E).foot = F at hS0
  have hS1 : St w F [codB bc none (some ⟨br, 0, none⟩) s.2, rrA 173 [.bool true] br a c s.1, .own b (.cells cs.toArray E (0, 0))] w := (hS0.part (rC_dep _ _ _ _ _ _) (Asrt.dep_own _ _)).part (Asrt.dep_own _ _) (rrA_dep _ _ _ _ _ _)
  obtain ⟨r0, hr0⟩ : ∃ r, msgR s = r := ⟨_, rfl⟩
  have hr1 := hr0
  rw [hr0]
  unfold msgR at hr1
  obtain ⟨l, e⟩ := s
  simp only at hr1 hS1 hB hm
  refine go_in (n := 65) hS1 Try.func90 rfl rfl ?_
  by_cases he : e = 0
  · subst he
    rw [if_neg (by simp)] at hr1
    have hof := @octs_facts 512 l
    obtain ⟨⟨ob, oe, orr⟩, hoc⟩ : ∃ r, octs 512 l = r := ⟨_, rfl⟩
    rw [hoc] at hr1 hof
    simp only at hr1 hof
    by_cases ho1 : oe = 0
    · subst ho1
      rw [if_neg (by simp)] at hr1
      have hof := hof rfl
      have hob : Byt ob := fun x hx => hB x (hof.2 x hx)
      obtain ⟨⟨m, e2⟩, hu⟩ : ∃ r, unpack ob = r := ⟨_, rfl⟩
      rw [hu] at hr1
      simp only at hr1
      subst hr1
      have hst : ∀ (ma : Option Addr) (mc : Nat), (((m.cells ma mc).all Value.oneCell' && Nat.beq (m.cells ma mc).length 13 && Nat.ble (o + (m.cells ma mc).length) cs.length) = true) := fun ma mc => by
        have h1 : Nat.ble (o + 13) cs.length = true := by simpa using ho
        show ((true && true && Nat.ble (o + 13) cs.length) = true)
        rw [h1]; rfl
      repeat'(first|(apply kp;iterate 2 exact rfl)|apply jJ|(apply jE;exact rfl)|(apply jp;exact rfl)|(apply jc;kernel_rfl)|((first|apply kf|apply kn|apply ke|apply kx|apply kc|apply kb);iterate 2 exact rfl)|((first|apply kz|apply ky);(·exact rfl);(·repeat(first|exact iO|exact iR rfl|apply iT));iterate 2 exact rfl)|(apply kg;iterate 2 exact rfl)|(apply kG;iterate 3 exact rfl)|(apply kB;(iterate 2 exact rfl);intro _)|(apply kA;exact rfl;intro _)|(apply Go.Hb.kK;(iterate 4 exact rfl);intro _)|(apply kU;(iterate 2 exact rfl);(·repeat(first|exact sH _ _ _|apply sT));(first|exact nfL_eq rfl|exact rfl);exact rfl)|((first|apply kh|apply kl);(iterate 2 exact rfl);(first|decide|omega);exact rfl)|(apply LR.call; (· exact rfl); (intro w1 h1; refine CallsTo.mono (show CallsTo Try.prog 114 [.pointer (some ⟨br, 0, none⟩), .int .i64 512] w1 _ from c67 br a c l 512 w1 (h1.holds (rrA 173 [.bool true] br a c l) (by (repeat (first | exact mH _ _ | apply mT)))) hB hm) ?_; rw [hoc]; rintro v w2 ⟨a1, c1, a2, c2, hv, st⟩; replace hv : v = .tuple [.slice a2 ob.length c2, .int .i64 0].toArray := hv; subst hv; have h5 : St w F [rrA 173 [.bool true] br a1 c1 orr, osl (.slice a2 ob.length c2) 5 1 ob.length (bv ob), codB bc none (some ⟨br, 0, none⟩) 0, .own b (.cells cs.toArray E (0, 0))] w2 := (front (St.did h1 (by (repeat (first | exact sH _ _ _ | apply sT))) rfl (St.step (a := rrA 173 [.bool true] br a c l) (St.join st rfl rfl) rfl) (both_dep (rrA_dep _ _ _ _ _ _) (osl.dep _ _ _ _ _))) 1 rfl rfl).part (rrA_dep _ _ _ _ _ _) (osl.dep _ _ _ _ _); refine LR.back h5 ?_; clear st h1 h5))|(apply LR.call; (· exact rfl); (intro w1 h1; refine CallsTo.mono (show CallsTo Try.prog 115 [.slice a2 ob.length c2] w1 _ from d23 a2 c2 ob w1 (h1.rd_of_own (by (repeat (first | exact mH _ _ | apply mT)))) (fun e => (ownsRow_some (h1.holds (osl (.slice a2 ob.length c2) 5 1 ob.length (bv ob)) (by (repeat (first | exact mH _ _ | apply mT)))) e).2) (by omega) hob) ?_; rw [hu]; rintro v w2 ⟨a3, c3, hv, hn⟩; replace hv : v = .tuple [m.val a3 c3, .int .i64 e2].toArray := hv; subst hv; replace hn : NewSl w1 w2 (.slice a3 m.body.length c3) 5 1 m.body.length (bv m.body) := hn; refine LR.back (h1.newSl hn) ?_; clear hn h1))|(apply kS (vs := m.cells a3 c3); (· exact rfl); (· exact rfl); (· (repeat (first | exact sH _ _ _ | apply sT))); (· exact hst _ _))|((first|(apply kR;iterate 2 exact rfl)|(apply kQ;exact rfl));all_goals(intro hc;try simp only[hcs]at hc;try(exfalso;first|contradiction|omega))))
      apply end0
      · exact rfl
      intro w' hS
      have h1 : St w F [osl (.slice a3 m.body.length c3) 5 1 m.body.length (bv m.body), codB bc none (some ⟨br, 0, none⟩) e2, rrA 173 [.bool true] br a1 c1 orr, .own b (.cells (splice cs o (m.cells a3 c3)).toArray E (0, 0))] w' := (front (front (hS.sub (L' := [osl (.slice a3 m.body.length c3) 5 1 m.body.length (bv m.body), rrA 173 [.bool true] br a1 c1 orr, codB bc none (some ⟨br, 0, none⟩) e2, .own b (.cells (splice cs o (m.cells a3 c3)).toArray E (0, 0))]) (by (repeat (first | exact List.Sublist.refl _ | apply List.Sublist.cons_cons | apply List.Sublist.cons)))) 2 rfl rfl) 1 rfl rfl)
      refine ⟨rfl, a1, c1, _, _, lst_fin (s' := (orr, e2)) hF h1 rfl, osl.dep _ _ _ _ _, rfl, ?_, fun _ => ⟨a3, c3, rfl, fun e => (ownsRow_some h1.g0 e).2, fun w2 h2 => ownsRow_rd h2⟩⟩
      unfold splice
      simp only [List.length_append, List.length_take, List.length_drop]
      show min o cs.length + 13 + (cs.length - (o + 13)) = cs.length
      omega
    · rw [if_pos ho1] at hr1
      subst hr1
      repeat'(first|(apply kp;iterate 2 exact rfl)|apply jJ|(apply jE;exact rfl)|(apply jp;exact rfl)|(apply jc;kernel_rfl)|((first|apply kf|apply kn|apply ke|apply kx|apply kc|apply kb);iterate 2 exact rfl)|((first|apply kz|apply ky);(·exact rfl);(·repeat(first|exact iO|exact iR rfl|apply iT));iterate 2 exact rfl)|(apply kg;iterate 2 exact rfl)|(apply kG;iterate 3 exact rfl)|(apply kB;(iterate 2 exact rfl);intro _)|(apply kA;exact rfl;intro _)|(apply Go.Hb.kK;(iterate 4 exact rfl);intro _)|(apply kU;(iterate 2 exact rfl);(·repeat(first|exact sH _ _ _|apply sT));(first|exact nfL_eq rfl|exact rfl);exact rfl)|((first|apply kh|apply kl);(iterate 2 exact rfl);(first|decide|omega);exact rfl)|(apply LR.call; (· exact rfl); (intro w1 h1; refine CallsTo.mono (show CallsTo Try.prog 114 [.pointer (some ⟨br, 0, none⟩), .int .i64 512] w1 _ from c67 br a c l 512 w1 (h1.holds (rrA 173 [.bool true] br a c l) (by (repeat (first | exact mH _ _ | apply mT)))) hB hm) ?_; rw [hoc]; rintro v w2 ⟨a1, c1, a2, c2, hv, st⟩; replace hv : v = .tuple [.slice a2 ob.length c2, .int .i64 oe].toArray := hv; subst hv; have h5 : St w F [rrA 173 [.bool true] br a1 c1 orr, osl (.slice a2 ob.length c2) 5 1 ob.length (bv ob), codB bc none (some ⟨br, 0, none⟩) 0, .own b (.cells cs.toArray E (0, 0))] w2 := (front (St.did h1 (by (repeat (first | exact sH _ _ _ | apply sT))) rfl (St.step (a := rrA 173 [.bool true] br a c l) (St.join st rfl rfl) rfl) (both_dep (rrA_dep _ _ _ _ _ _) (osl.dep _ _ _ _ _))) 1 rfl rfl).part (rrA_dep _ _ _ _ _ _) (osl.dep _ _ _ _ _); refine LR.back h5 ?_; clear st h1 h5))|((first|(apply kR;iterate 2 exact rfl)|(apply kQ;exact rfl));all_goals(intro hc;try simp only[hcs]at hc;try(exfalso;first|contradiction|omega))))
      apply end0
      · exact rfl
      intro w' hS
      have h1 : St w F [codB bc none (some ⟨br, 0, none⟩) oe, rrA 173 [.bool true] br a1 c1 orr, .own b (.cells cs.toArray E (0, 0))] w' := front (hS.sub (L' := [rrA 173 [.bool true] br a1 c1 orr, codB bc none (some ⟨br, 0, none⟩) oe, .own b (.cells cs.toArray E (0, 0))]) (by (repeat (first | exact List.Sublist.refl _ | apply List.Sublist.cons_cons | apply List.Sublist.cons)))) 1 rfl rfl
      exact ⟨rfl, lst_none hF (s' := (orr, oe)) (a' := a1) (c' := c1) (cs' := cs) h1 rfl ho1⟩
  · rw [if_pos he] at hr1
    subst hr1
    repeat'(first|(apply kp;iterate 2 exact rfl)|apply jJ|(apply jE;exact rfl)|(apply jp;exact rfl)|(apply jc;kernel_rfl)|((first|apply kf|apply kn|apply ke|apply kx|apply kc|apply kb);iterate 2 exact rfl)|((first|apply kz|apply ky);(·exact rfl);(·repeat(first|exact iO|exact iR rfl|apply iT));iterate 2 exact rfl)|(apply kg;iterate 2 exact rfl)|(apply kG;iterate 3 exact rfl)|(apply kB;(iterate 2 exact rfl);intro _)|(apply kA;exact rfl;intro _)|(apply Go.Hb.kK;(iterate 4 exact rfl);intro _)|(apply kU;(iterate 2 exact rfl);(·repeat(first|exact sH _ _ _|apply sT));(first|exact nfL_eq rfl|exact rfl);exact rfl)|((first|apply kh|apply kl);(iterate 2 exact rfl);(first|decide|omega);exact rfl)|((first|(apply kR;iterate 2 exact rfl)|(apply kQ;exact rfl));all_goals(intro hc;try simp only[hcs]at hc;try(exfalso;first|contradiction|omega))))
    apply ret0
    · exact rfl
    intro w' hS
    exact ⟨rfl, lst_none hF (s' := (l, e)) (a' := a) (c' := c) (cs' := cs) hS rfl he⟩
end Go.Proofs.Ytkolmkdbjagfcaa

namespace Go.Proofs.Ytkolmkdbjagfcaa
open Go.Hb
attribute [local irreducible] LR CW At Ev thn blk finK noG again CallsTo DW QL dnext TW DP
set_option linter.unusedSimpArgs false
set_option linter.unusedVariables false
set_option maxRecDepth 100000

def zTkn : Tkn := ⟨0, 0, 0, 0, 0, 0, 0, 0, []⟩
def zCmt : Cmt := ⟨0, 0, 0, 0, []⟩
def zPkt : Pkt := ⟨0, 0, zeroDat, zTkn, 0, 0, 0, zCmt, 0, 0, 0⟩
def zA : PAd := ⟨none, 0, none, 0, none, 0⟩
def gV (s : RS) : Int := (getS s).1
def gT (s : RS) : RS := (getS s).2
def startS (k : Int) (s : RS) : RS := if s.2 = 0 ∧ ¬ (1 ≤ k ∧ k ≤ 5) then (s.1, 4) else s
def parseK (k tt : Int) (u : RS) : Pkt × RS :=
  if k = 1 then (({ zPkt with kind := k, to := tt, d := { zeroDat with rseq := gV u, rrep := gV (gT u), seq := gV (gT (gT u)), sender := gV (gT (gT (gT u))), stamp := gV (gT (gT (gT (gT u)))), msg := (msgR (gT (gT (gT (gT (gT u)))))).1 } } : Pkt), (msgR (gT (gT (gT (gT (gT u)))))).2)
  else if k = 2 then (({ zPkt with kind := k, to := tt, t := { zTkn with r1 := gV u, r2 := gV (gT u), hop := gV (gT (gT u)), seq := gV (gT (gT (gT u))), aru := gV (gT (gT (gT (gT u)))), low := gV (gT (gT (gT (gT (gT u))))), stamp := gV (gT (gT (gT (gT (gT (gT u)))))), idle := gV (gT (gT (gT (gT (gT (gT (gT u))))))), ask := (lstR getS 16 (gT (gT (gT (gT (gT (gT (gT (gT u))))))))).1 } } : Pkt), (lstR getS 16 (gT (gT (gT (gT (gT (gT (gT (gT u))))))))).2)
  else if k = 3 then (({ zPkt with kind := k, to := tt, j1 := gV u, j2 := gV (gT u), j3 := gV (gT (gT u)) } : Pkt), (gT (gT (gT u))))
  else if k = 4 then (({ zPkt with kind := k, to := tt, c := { zCmt with r1 := gV u, r2 := gV (gT u), mem := gV (gT (gT u)), hop := gV (gT (gT (gT u))), ents := (lstR getE 8 (gT (gT (gT (gT u))))).1 } } : Pkt), (lstR getE 8 (gT (gT (gT (gT u))))).2)
  else if k = 5 then (({ zPkt with kind := k, to := tt, b1 := gV u, b2 := gV (gT u), b3 := gV (gT (gT u)) } : Pkt), (gT (gT (gT u))))
  else (({ zPkt with kind := k, to := tt } : Pkt), u)
def parseP (s : RS) : Pkt × RS := parseK (gV s) (gV (startS (gV s) (gT s))) (gT (startS (gV s) (gT s)))
theorem rd_cons {cs : List Value} {o : Nat} {os : List Nat} {s : RS} (h : cs[o]? = some (.int .i64 0)) : rdN (o :: os) cs s = rdN os (cs.set o (.int .i64 (gV s))) (gT s) := by
  unfold gV gT
  by_cases he : s.2 = 0
  · rw [rdN, if_neg (by simp [he])]
  · rw [rdN_err _ _ _ he, getS_err he]
    simp only
    have e : cs.set o (.int .i64 0) = cs := by
      apply List.ext_getElem?
      intro i
      rw [List.getElem?_set]
      split
      · rename_i hi
        subst hi
        rw [h]
        have := (List.getElem?_eq_some_iff.1 h).1
        rw [if_pos this]
      · rfl
    rw [e, rdN_err _ _ _ he]
structure PktM (w : World) (p : Pkt) (A : PAd) : Prop where
  hd : Rd w A.da (bv p.d.msg.body)
  hdz : A.da = none → A.dc = 0
  ht : Rd w A.ta (iv p.t.ask)
  htz : A.ta = none → A.tc = 0
  hc : Rd w A.ca (p.c.ents.flatMap Ent.cells)
  hcz : A.ca = none → A.cc = 0
theorem rX_cell {bc br : Nat} {a : Option Addr} {c : Nat} {s : RS} {b : Nat} {cs : List Value} {E j : Nat} {v : Value} {w : World} (h : (rX bc br a c s b cs E).holds w) (hj : cs[j]? = some v) : w.cell? ⟨b, j, none⟩ = some v := own_cell h.2.1 hj
theorem rX_e {bc br : Nat} {a : Option Addr} {c : Nat} {s : RS} {b : Nat} {cs : List Value} {E : Nat} {w : World} (h : (rX bc br a c s b cs E).holds w) : w.cell? ⟨bc, 2, none⟩ = some (.int .i64 s.2) := cell_own h.1.1
theorem rX_r {bc br : Nat} {a : Option Addr} {c : Nat} {s : RS} {b : Nat} {cs : List Value} {E : Nat} {w : World} (h : (rX bc br a c s b cs E).holds w) : w.cell? ⟨bc, 1, none⟩ = some (.pointer (some ⟨br, 0, none⟩)) := cell_own h.1.1
theorem lst_end {w w' : World} {F : Nat → Prop} {bc br : Nat} {a a' : Option Addr} {c c' : Nat} {s s' : RS} {b : Nat} {cs cs' : List Value} {E : Nat} {good : List Value → Asrt → Prop} {R : List Asrt} (hF : (rX bc br a c s b cs E).foot = F) (hS : St w F (rX bc br a' c' s' b cs' E :: R) w') (hl : cs'.length = cs.length) (hg : s'.2 = 0 → good cs' (osl (.slice none 0 0) 3 1 0 (iv []))) : LstP bc br a c s b cs E s' good w w' := by
  subst hF
  exact ⟨a', c', cs', _, (St.join (front (hS.nilsl 3 1) 1 rfl rfl) rfl rfl).step rfl, osl.dep _ _ _ _ _, rfl, hl, hg⟩
theorem lst_end2 {w w' : World} {F : Nat → Prop} {bc br : Nat} {a a' : Option Addr} {c c' : Nat} {s s' : RS} {b : Nat} {cs cs' : List Value} {E : Nat} {good : List Value → Asrt → Prop} {X : Asrt} {R : List Asrt} (hF : (rX bc br a c s b cs E).foot = F) (hS : St w F (both (rX bc br a' c' s' b cs' E) X :: R) w') (hd : X.dep) (hx : X.excl = true) (hl : cs'.length = cs.length) (hg : s'.2 = 0 → good cs' X) : LstP bc br a c s b cs E s' good w w' := by
  subst hF
  exact ⟨a', c', cs', X, hS.step (by rfl), hd, hx, hl, hg⟩
set_option maxHeartbeats 16000000 in
theorem p55r (bc br : Nat) (a : Option Addr) (c : Nat) (s : RS) (bp : Nat) (w : World) (h : (rX bc br a c s bp (zPkt.cells zA) 81).holds w) (hB : Byt s.1) (hm : s.1.length ≤ 140737488355328) :
    CallsTo Try.prog 55 [.pointer (some ⟨bc, 0, none⟩), .pointer (some ⟨bp, 0, none⟩)] w fun v w' => v = .tuple #[] ∧ LstP bc br a c s bp (zPkt.cells zA) 81 (parseP s).2
      (fun cs' X => ∃ A, cs' = (parseP s).1.cells A ∧ ∀ w2, X.holds w2 → PktM w2 (parseP s).1 A) w w' := by
  have hS0 := St.one h (both_live h) (rX_dep _ _ _ _ _ _ _ _)
  generalize hF : (rX bc br a c s bp (zPkt.cells zA) 81).foot = F at hS0
  have hB0 : Byt s.1 ∧ s.1.length ≤ 281474976710656 := ⟨hB, by omega⟩
  have BB : ∀ (os : List Nat) (cs : List Value) {x : RS}, Byt x.1 ∧ x.1.length ≤ 140737488355328 → Byt (rdN os cs x).2.1 ∧ (rdN os cs x).2.1.length ≤ 140737488355328 := fun os cs x hx => ⟨rdN_byt os cs x hx.1, Nat.le_trans (rdN_le os cs x) hx.2⟩
  have W : ∀ {x : RS}, Byt x.1 ∧ x.1.length ≤ 140737488355328 → Byt x.1 ∧ x.1.length ≤ 281474976710656 := fun hx => ⟨hx.1, by omega⟩
  obtain ⟨r0, hr0⟩ : ∃ r, parseP s = r := ⟨_, rfl⟩
  have hr1 := hr0
  rw [hr0]
  unfold parseP at hr1
  obtain ⟨k, hk⟩ : ∃ k, gV s = k := ⟨_, rfl⟩
  obtain ⟨⟨l0, e0⟩, hs0⟩ : ∃ r, gT s = r := ⟨_, rfl⟩
  have q0 : rdN [0] (zPkt.cells zA) s = ((({ zPkt with kind := k } : Pkt).cells zA), (l0, e0)) := (rd_cons rfl).trans (by rw [hk, hs0]; rfl)
  have b0 := BB [0] (zPkt.cells zA) ⟨hB, hm⟩
  rw [q0] at b0
  rw [hk, hs0] at hr1
  refine go_in (n := 158) hS0 Try.func55 rfl rfl ?_
  by_cases hbad : e0 = 0 ∧ ¬ (1 ≤ k ∧ k ≤ 5)
  · obtain ⟨he, hkk⟩ := hbad
    subst he
    have e1 : startS k (l0, 0) = (l0, 4) := by unfold startS; rw [if_pos ⟨rfl, hkk⟩]
    have e2 : getS (l0, 4) = (0, (l0, 4)) := getS_err (by simp)
    rw [e1] at hr1
    unfold gV gT parseK at hr1
    rw [e2, if_neg (by omega), if_neg (by omega), if_neg (by omega), if_neg (by omega), if_neg (by omega)] at hr1
    subst hr1
    repeat'(first|(apply Go.Hb.kK;(iterate 4 exact rfl);intro bs)|(apply kp;iterate 2 exact rfl)|apply jJ|(apply jE;exact rfl)|(apply jp;exact rfl)|(apply jc;kernel_rfl)|((first|apply kf|apply kn|apply ke|apply kx|apply kc|apply kb);iterate 2 exact rfl)|((first|apply kz|apply ky);(·exact rfl);(·repeat(first|exact iO|exact iR rfl|apply iT));iterate 2 exact rfl)|(apply kg;iterate 2 exact rfl)|(apply kG;iterate 3 exact rfl)|(apply kB;(iterate 2 exact rfl);intro _)|(apply kA;exact rfl;intro _)|(apply Go.Hb.kK;(iterate 4 exact rfl);intro _)|(apply kU;(iterate 2 exact rfl);(·repeat(first|exact sH _ _ _|apply sT));(first|exact nfL_eq rfl|exact rfl);exact rfl)|((first|apply kh|apply kl);(iterate 2 exact rfl);(first|decide|omega);exact rfl)|(apply LR.call; (· exact rfl); (intro w1 h1; first | (refine (p87r bc br a c s bp (zPkt.cells zA) 81 bs [0] w1 (h1.holds (rX bc br _ _ s bp (zPkt.cells zA) 81) (by (repeat (first | exact mH _ _ | apply mT)))) (h1.rd_of_blk (by (repeat (first | exact mH _ _ | apply mT)))) (St.apart2 (x := .own bs (.cells _ 152 (0, 0))) h1 (.inl (by (repeat (first | exact List.Sublist.refl _ | apply List.Sublist.cons_cons | apply List.Sublist.cons)))) rfl bs rfl) (fun o ho => (show ∀ o ∈ ([0] : List Nat), o < 40 by decide) o ho) hB0.1 hB0.2 (by simp)).mono ?_; rintro v w2 ⟨a2, c2, rfl, st⟩; rw [q0] at st; refine LR.back (St.did h1 (by (repeat (first | exact sH _ _ _ | apply sT))) rfl st (rX_dep _ _ _ _ _ _ _ _)) ?_; clear st h1)))|(apply LR.ev; (· apply Ev.load (v := .int .i64 0); (· exact rfl); (· intro w' hw'; apply rX_e (br := br) (s := (l0, 0)) (b := bp) (cs := (({ zPkt with kind := k } : Pkt).cells zA)) (E := 81); apply hw'.holds; (repeat (first | exact mH _ _ | apply mT)); done)); (· exact rfl))|(apply LR.ev; (· apply Ev.load (v := .int .i64 k); (· exact rfl); (· intro w' hw'; apply rX_cell (br := br) (s := (l0, 0)) (b := bp) (cs := (({ zPkt with kind := k } : Pkt).cells zA)) (E := 81) (j := 0); (· apply hw'.holds; (repeat (first | exact mH _ _ | apply mT)); done); (· exact rfl))); (· exact rfl))|(apply kq; (· exact rfl); (· intro w1 h1; exact CallsTo.q (p88 k 1 5 w1) h1))|((first|(apply kR;iterate 2 exact rfl)|(apply kQ;exact rfl));all_goals(intro hc;try simp only[hcs]at hc;try(exfalso;first|contradiction|omega))))
    refine LR.sub (D := St w F [codB bc none (some ⟨br, 0, none⟩) 0, rrA 173 [.bool true] br a2 c2 l0, .own bp (.cells (({ zPkt with kind := k } : Pkt).cells zA).toArray 81 (0, 0))]) (fun w' hw' => ((hw'.sub (L' := [rX bc br a2 c2 (l0, 0) bp (({ zPkt with kind := k } : Pkt).cells zA) 81]) (by (repeat (first | exact List.Sublist.refl _ | apply List.Sublist.cons_cons | apply List.Sublist.cons)))).part (rC_dep _ _ _ _ _ _) (Asrt.dep_own _ _)).part (Asrt.dep_own _ _) (rrA_dep _ _ _ _ _ _)) ?_
    repeat'(first|(apply Go.Hb.kK;(iterate 4 exact rfl);intro bs2)|(apply kp;iterate 2 exact rfl)|apply jJ|(apply jE;exact rfl)|(apply jp;exact rfl)|(apply jc;kernel_rfl)|((first|apply kf|apply kn|apply ke|apply kx|apply kc|apply kb);iterate 2 exact rfl)|((first|apply kz|apply ky);(·exact rfl);(·repeat(first|exact iO|exact iR rfl|apply iT));iterate 2 exact rfl)|(apply kg;iterate 2 exact rfl)|(apply kG;iterate 3 exact rfl)|(apply kB;(iterate 2 exact rfl);intro _)|(apply kA;exact rfl;intro _)|(apply Go.Hb.kK;(iterate 4 exact rfl);intro _)|(apply kU;(iterate 2 exact rfl);(·repeat(first|exact sH _ _ _|apply sT));(first|exact nfL_eq rfl|exact rfl);exact rfl)|((first|apply kh|apply kl);(iterate 2 exact rfl);(first|decide|omega);exact rfl)|((first|(apply kR;iterate 2 exact rfl)|(apply kQ;exact rfl));all_goals(intro hc;try simp only[hcs]at hc;try(exfalso;first|contradiction|omega))))
    apply LR.call
    · exact rfl
    intro w1 h1
    have h3 : St w F [rX bc br a2 c2 (l0, 4) bp (({ zPkt with kind := k } : Pkt).cells zA) 81, .own bs2 (.cells [Value.pointer (some ⟨bp, 1, none⟩)].toArray 152 (0, 0))] w1 := front (St.join (x := rC bc br a2 c2 l0 4) (front (front (St.join (x := codB bc none (some ⟨br, 0, none⟩) 4) (front (front h1 2 rfl rfl) 2 rfl rfl) rfl rfl) 2 rfl rfl) 1 rfl rfl) rfl rfl) 0 rfl rfl
    refine (p87r bc br a2 c2 (l0, 4) bp (({ zPkt with kind := k } : Pkt).cells zA) 81 bs2 [1] w1 (h3.holds _ (mH _ _)) (h3.rd_of_blk (by (repeat (first | exact mH _ _ | apply mT)))) (St.apart2 (x := .own bs2 (.cells _ 152 (0, 0))) h3 (.inr (by (repeat (first | exact List.Sublist.refl _ | apply List.Sublist.cons_cons | apply List.Sublist.cons)))) rfl bs2 rfl) (fun o ho => (show ∀ o ∈ ([1] : List Nat), o < 40 by decide) o ho) (W b0).1 (W b0).2 (by simp)).mono ?_
    rintro v w2 ⟨a3, c3, rfl, st⟩
    rw [rdN_err _ _ _ (by simp)] at st
    refine LR.back (St.did h3 (Sel.head _ _ _) rfl st (rX_dep _ _ _ _ _ _ _ _)) ?_
    clear st h3 h1
    repeat'(first|(apply kp;iterate 2 exact rfl)|apply jJ|(apply jE;exact rfl)|(apply jp;exact rfl)|(apply jc;kernel_rfl)|((first|apply kf|apply kn|apply ke|apply kx|apply kc|apply kb);iterate 2 exact rfl)|((first|apply kz|apply ky);(·exact rfl);(·repeat(first|exact iO|exact iR rfl|apply iT));iterate 2 exact rfl)|(apply kg;iterate 2 exact rfl)|(apply kG;iterate 3 exact rfl)|(apply kB;(iterate 2 exact rfl);intro _)|(apply kA;exact rfl;intro _)|(apply Go.Hb.kK;(iterate 4 exact rfl);intro _)|(apply kU;(iterate 2 exact rfl);(·repeat(first|exact sH _ _ _|apply sT));(first|exact nfL_eq rfl|exact rfl);exact rfl)|((first|apply kh|apply kl);(iterate 2 exact rfl);(first|decide|omega);exact rfl)|(apply LR.ev; (· apply Ev.load (v := .int .i64 k); (· exact rfl); (· intro w' hw'; apply rX_cell (br := br) (s := (l0, 4)) (b := bp) (cs := (({ zPkt with kind := k } : Pkt).cells zA)) (E := 81) (j := 0); (· apply hw'.holds; (repeat (first | exact mH _ _ | apply mT)); done); (· exact rfl))); (· exact rfl))|((first|(apply kR;iterate 2 exact rfl)|(apply kQ;exact rfl));all_goals(intro hc;try simp only[hcs]at hc;try(exfalso;first|contradiction|omega))))
    apply end0
    · exact rfl
    intro w' hS
    exact ⟨rfl, lst_end hF hS rfl (fun h0 => absurd h0 (by simp))⟩
  · have e1 : startS k (l0, e0) = (l0, e0) := by unfold startS; rw [if_neg hbad]
    rw [e1] at hr1
    obtain ⟨tt, htt⟩ : ∃ k, gV (l0, e0) = k := ⟨_, rfl⟩
    obtain ⟨u, hu⟩ : ∃ r, gT (l0, e0) = r := ⟨_, rfl⟩
    rw [htt, hu] at hr1
    have q1 : rdN [1] (({ zPkt with kind := k } : Pkt).cells zA) (l0, e0) = ((({ zPkt with kind := k, to := tt } : Pkt).cells zA), u) := (rd_cons rfl).trans (by rw [htt, hu]; rfl)
    have b1 := BB [1] (({ zPkt with kind := k } : Pkt).cells zA) b0
    rw [q1] at b1
    unfold parseK at hr1
    by_cases hk1 : k = 1
    · rw [if_pos hk1] at hr1
      subst hr1
      have q2 : rdN [2, 3] (({ zPkt with kind := k, to := tt } : Pkt).cells zA) u = ((({ zPkt with kind := k, to := tt, d := { zeroDat with rseq := gV u, rrep := gV (gT u) } } : Pkt).cells zA), (gT (gT u))) := (rd_cons rfl).trans ((rd_cons rfl).trans (rfl))
      have b2 := BB [2, 3] (({ zPkt with kind := k, to := tt } : Pkt).cells zA) b1
      rw [q2] at b2
      have q3 : rdN [4, 5, 6] (({ zPkt with kind := k, to := tt, d := { zeroDat with rseq := gV u, rrep := gV (gT u) } } : Pkt).cells zA) (gT (gT u)) = ((({ zPkt with kind := k, to := tt, d := { zeroDat with rseq := gV u, rrep := gV (gT u), seq := gV (gT (gT u)), sender := gV (gT (gT (gT u))), stamp := gV (gT (gT (gT (gT u)))) } } : Pkt).cells zA), (gT (gT (gT (gT (gT u)))))) := (rd_cons rfl).trans ((rd_cons rfl).trans ((rd_cons rfl).trans (rfl)))
      have b3 := BB [4, 5, 6] (({ zPkt with kind := k, to := tt, d := { zeroDat with rseq := gV u, rrep := gV (gT u) } } : Pkt).cells zA) b2
      rw [q3] at b3
      repeat'(first|(apply CW.reg_held (St w F []))|(apply Go.Hb.kK;(iterate 4 exact rfl);intro bs)|(apply kp;iterate 2 exact rfl)|apply jJ|(apply jE;exact rfl)|(apply jp;exact rfl)|(apply jc;kernel_rfl)|((first|apply kf|apply kn|apply ke|apply kx|apply kc|apply kb);iterate 2 exact rfl)|((first|apply kz|apply ky);(·exact rfl);(·repeat(first|exact iO|exact iR rfl|apply iT));iterate 2 exact rfl)|(apply kg;iterate 2 exact rfl)|(apply kG;iterate 3 exact rfl)|(apply kB;(iterate 2 exact rfl);intro _)|(apply kA;exact rfl;intro _)|(apply Go.Hb.kK;(iterate 4 exact rfl);intro _)|(apply kU;(iterate 2 exact rfl);(·repeat(first|exact sH _ _ _|apply sT));(first|exact nfL_eq rfl|exact rfl);exact rfl)|((first|apply kh|apply kl);(iterate 2 exact rfl);(first|decide|omega);exact rfl)|(apply LR.ev; (· apply Ev.load (v := .int .i64 e0); (· exact rfl); (· intro w' hw'; apply rX_e (br := br) (s := (l0, e0)) (b := bp) (cs := (({ zPkt with kind := k } : Pkt).cells zA)) (E := 81); apply hw'.holds; (repeat (first | exact mH _ _ | apply mT)); done)); (· exact rfl))|(apply LR.ev; (· apply Ev.load (v := .int .i64 k); (· exact rfl); (· intro w' hw'; apply rX_cell (br := br) (s := (l0, e0)) (b := bp) (cs := (({ zPkt with kind := k } : Pkt).cells zA)) (E := 81) (j := 0); (· apply hw'.holds; (repeat (first | exact mH _ _ | apply mT)); done); (· exact rfl))); (· exact rfl))|(apply LR.ev; (· apply Ev.load (v := .int .i64 k); (· exact rfl); (· intro w' hw'; apply rX_cell (br := br) (s := u) (b := bp) (cs := (({ zPkt with kind := k, to := tt } : Pkt).cells zA)) (E := 81) (j := 0); (· apply hw'.holds; (repeat (first | exact mH _ _ | apply mT)); done); (· exact rfl))); (· exact rfl))|(apply kq; (· exact rfl); (· intro w1 h1; exact CallsTo.q (p88 k 1 5 w1) h1))|(apply LR.call; (· exact rfl); (intro w1 h1; first | (refine (p87r bc br _ _ s bp (zPkt.cells zA) 81 bs [0] w1 (h1.holds (rX bc br _ _ s bp (zPkt.cells zA) 81) (by (repeat (first | exact mH _ _ | apply mT)))) (h1.rd_of_blk (by (repeat (first | exact mH _ _ | apply mT)))) (St.apart2 (x := .own bs (.cells _ 152 (0, 0))) h1 (.inl (by (repeat (first | exact List.Sublist.refl _ | apply List.Sublist.cons_cons | apply List.Sublist.cons)))) rfl bs rfl) (fun o ho => (show ∀ o ∈ ([0] : List Nat), o < 40 by decide) o ho) hB0.1 hB0.2 (by simp)).mono ?_; rintro v w2 ⟨_, _, rfl, st⟩; rw [q0] at st; refine LR.back (St.did h1 (by (repeat (first | exact sH _ _ _ | apply sT))) rfl st (rX_dep _ _ _ _ _ _ _ _)) ?_; clear st h1) | (refine (p87r bc br _ _ (l0, e0) bp (({ zPkt with kind := k } : Pkt).cells zA) 81 bs [1] w1 (h1.holds (rX bc br _ _ (l0, e0) bp (({ zPkt with kind := k } : Pkt).cells zA) 81) (by (repeat (first | exact mH _ _ | apply mT)))) (h1.rd_of_blk (by (repeat (first | exact mH _ _ | apply mT)))) (St.apart2 (x := .own bs (.cells _ 152 (0, 0))) h1 (.inl (by (repeat (first | exact List.Sublist.refl _ | apply List.Sublist.cons_cons | apply List.Sublist.cons)))) rfl bs rfl) (fun o ho => (show ∀ o ∈ ([1] : List Nat), o < 40 by decide) o ho) (W b0).1 (W b0).2 (by simp)).mono ?_; rintro v w2 ⟨_, _, rfl, st⟩; rw [q1] at st; refine LR.back (St.did h1 (by (repeat (first | exact sH _ _ _ | apply sT))) rfl st (rX_dep _ _ _ _ _ _ _ _)) ?_; clear st h1) | (refine (p89r bc br _ _ u bp (({ zPkt with kind := k, to := tt } : Pkt).cells zA) 81 2 w1 (h1.holds (rX bc br _ _ u bp (({ zPkt with kind := k, to := tt } : Pkt).cells zA) 81) (by (repeat (first | exact mH _ _ | apply mT)))) (by show 2 + 1 < 40; decide) (W b1).1 (W b1).2).mono ?_; rintro v w2 ⟨_, _, rfl, st⟩; rw [q2] at st; refine LR.back (St.did h1 (by (repeat (first | exact sH _ _ _ | apply sT))) rfl st (rX_dep _ _ _ _ _ _ _ _)) ?_; clear st h1)))|((first|(apply kR;iterate 2 exact rfl)|(apply kQ;exact rfl));all_goals(intro hc;try simp only[hcs]at hc;try(exfalso;first|contradiction|omega))))
      all_goals
        all_goals (
          apply DW.quiet [0, 1, 2, 3, 4, 5, 6, 7, 8, 9]
          · decide +kernel
          · first | exact fun _ h => h | exact fun _ h => St.sub h (by repeat (first | exact List.Sublist.refl _ | apply List.Sublist.cons_cons | apply List.Sublist.cons))
          repeat'(first|(apply yp;iterate 3 exact rfl)|(apply QL.ev;(·exact rfl);(·first|((first|apply Ez|apply Ey);(·exact rfl);(·repeat(first|exact iO|exact iR rfl|apply iT));exact rfl)|((first|apply Ev.fieldAddr|apply Ev.len|apply EqOf.eq|apply EqOf.ne|apply Ev.conv|apply Ev.buildN);exact rfl)|((first|apply Ev.shr|apply Ev.shl);(iterate 2 exact rfl);first|decide|omega));·exact rfl)|(apply yq;iterate 5 exact rfl)|(apply QL.evg;(iterate 3 exact rfl);(·first|((first|apply Ez|apply Ey);(·exact rfl);(·repeat(first|exact iO|exact iR rfl|apply iT));exact rfl)|((first|apply Ev.fieldAddr|apply Ev.len|apply EqOf.eq|apply EqOf.ne|apply Ev.conv|apply Ev.buildN);exact rfl)|((first|apply Ev.shr|apply Ev.shl);(iterate 2 exact rfl);first|decide|omega));·exact rfl)|(apply yn;iterate 4 exact rfl)|((apply QL.split;iterate 3 exact rfl);all_goals(intro hc;try simp only[hcs]at hc;try(exfalso;first|contradiction|omega)))|apply QL.nil)
          all_goals (show DW _ _ _ _ _ _ _ _))
        all_goals (
          apply DW.loud 10
          · exact rfl
          · decide +kernel
          repeat'(first|(apply Go.Hb.kK;(iterate 4 exact rfl);intro bs)|(apply kg;iterate 2 exact rfl)|(apply kG;iterate 3 exact rfl)|apply kM|(apply kp;iterate 2 exact rfl)|((first|apply kz|apply ky);(·exact rfl);(·repeat(first|exact iO|exact iR rfl|apply iT));iterate 2 exact rfl)|(apply Go.Hb.kK;(iterate 4 exact rfl);intro _)|(apply kU;(iterate 2 exact rfl);(·repeat(first|exact sH _ _ _|apply sT));(first|exact nfL_eq rfl|exact rfl);exact rfl)|(apply kB;(iterate 2 exact rfl);intro _)|(apply kA;exact rfl;intro _)|(apply LR.call; (· exact rfl); (intro w1 h1; first | (refine (p87r bc br _ _ (gT (gT u)) bp (({ zPkt with kind := k, to := tt, d := { zeroDat with rseq := gV u, rrep := gV (gT u) } } : Pkt).cells zA) 81 bs [4, 5, 6] w1 (h1.holds (rX bc br _ _ (gT (gT u)) bp (({ zPkt with kind := k, to := tt, d := { zeroDat with rseq := gV u, rrep := gV (gT u) } } : Pkt).cells zA) 81) (by (repeat (first | exact mH _ _ | apply mT)))) (h1.rd_of_blk (by (repeat (first | exact mH _ _ | apply mT)))) (St.apart2 (x := .own bs (.cells _ 152 (0, 0))) h1 (.inl (by (repeat (first | exact List.Sublist.refl _ | apply List.Sublist.cons_cons | apply List.Sublist.cons)))) rfl bs rfl) (fun o ho => (show ∀ o ∈ ([4, 5, 6] : List Nat), o < 40 by decide) o ho) (W b2).1 (W b2).2 (by simp)).mono ?_; rintro v w2 ⟨_, _, rfl, st⟩; rw [q3] at st; refine LR.back (St.did h1 (by (repeat (first | exact sH _ _ _ | apply sT))) rfl st (rX_dep _ _ _ _ _ _ _ _)) ?_; clear st h1))))
          all_goals (refine At.stage_same (fun _ h => St.sub h (by repeat (first | exact List.Sublist.refl _ | apply List.Sublist.cons_cons | apply List.Sublist.cons))) ?_))
        all_goals (
          apply DW.loud 11
          · exact rfl
          · decide +kernel
          repeat'(first|(apply Go.Hb.kK;(iterate 4 exact rfl);intro bs)|(apply kg;iterate 2 exact rfl)|(apply kG;iterate 3 exact rfl)|apply kM|(apply kp;iterate 2 exact rfl)|((first|apply kz|apply ky);(·exact rfl);(·repeat(first|exact iO|exact iR rfl|apply iT));iterate 2 exact rfl)|(apply Go.Hb.kK;(iterate 4 exact rfl);intro _)|(apply kU;(iterate 2 exact rfl);(·repeat(first|exact sH _ _ _|apply sT));(first|exact nfL_eq rfl|exact rfl);exact rfl)|(apply kB;(iterate 2 exact rfl);intro _)|(apply kA;exact rfl;intro _)|(apply LR.call; (· exact rfl); (intro w1 h1; first | (refine (p87r bc br _ _ (gT (gT u)) bp (({ zPkt with kind := k, to := tt, d := { zeroDat with rseq := gV u, rrep := gV (gT u) } } : Pkt).cells zA) 81 bs [4, 5, 6] w1 (h1.holds (rX bc br _ _ (gT (gT u)) bp (({ zPkt with kind := k, to := tt, d := { zeroDat with rseq := gV u, rrep := gV (gT u) } } : Pkt).cells zA) 81) (by (repeat (first | exact mH _ _ | apply mT)))) (h1.rd_of_blk (by (repeat (first | exact mH _ _ | apply mT)))) (St.apart2 (x := .own bs (.cells _ 152 (0, 0))) h1 (.inl (by (repeat (first | exact List.Sublist.refl _ | apply List.Sublist.cons_cons | apply List.Sublist.cons)))) rfl bs rfl) (fun o ho => (show ∀ o ∈ ([4, 5, 6] : List Nat), o < 40 by decide) o ho) (W b2).1 (W b2).2 (by simp)).mono ?_; rintro v w2 ⟨_, _, rfl, st⟩; rw [q3] at st; refine LR.back (St.did h1 (by (repeat (first | exact sH _ _ _ | apply sT))) rfl st (rX_dep _ _ _ _ _ _ _ _)) ?_; clear st h1))))
          all_goals (refine At.stage_same (fun _ h => St.sub h (by repeat (first | exact List.Sublist.refl _ | apply List.Sublist.cons_cons | apply List.Sublist.cons))) ?_))
        all_goals (first | (apply DW.done_thn; (· decide +kernel)) | (apply DW.done; (· decide +kernel)))
        repeat'(first|(apply kp;iterate 2 exact rfl)|apply jJ|(apply jE;exact rfl)|(apply jp;exact rfl)|(apply jc;kernel_rfl)|((first|apply kf|apply kn|apply ke|apply kx|apply kc|apply kb);iterate 2 exact rfl)|((first|apply kz|apply ky);(·exact rfl);(·repeat(first|exact iO|exact iR rfl|apply iT));iterate 2 exact rfl)|(apply kg;iterate 2 exact rfl)|(apply kG;iterate 3 exact rfl)|(apply kB;(iterate 2 exact rfl);intro _)|(apply kA;exact rfl;intro _)|(apply Go.Hb.kK;(iterate 4 exact rfl);intro _)|(apply kU;(iterate 2 exact rfl);(·repeat(first|exact sH _ _ _|apply sT));(first|exact nfL_eq rfl|exact rfl);exact rfl)|((first|apply kh|apply kl);(iterate 2 exact rfl);(first|decide|omega);exact rfl)|(apply LR.call; (· exact rfl); (intro w1 h1; first | (refine (p90r bc br _ _ (gT (gT (gT (gT (gT u))))) bp (({ zPkt with kind := k, to := tt, d := { zeroDat with rseq := gV u, rrep := gV (gT u), seq := gV (gT (gT u)), sender := gV (gT (gT (gT u))), stamp := gV (gT (gT (gT (gT u)))) } } : Pkt).cells zA) 81 7 w1 (h1.holds (rX bc br _ _ (gT (gT (gT (gT (gT u))))) bp (({ zPkt with kind := k, to := tt, d := { zeroDat with rseq := gV u, rrep := gV (gT u), seq := gV (gT (gT u)), sender := gV (gT (gT (gT u))), stamp := gV (gT (gT (gT (gT u)))) } } : Pkt).cells zA) 81) (by (repeat (first | exact mH _ _ | apply mT)))) (by show 7 + 13 ≤ 40; decide) b3.1 b3.2).mono ?_; rintro v w2 ⟨rfl, a5, c5, cs5, X, st, hXd, hXe, hl5, hg5⟩; refine LR.back (St.did h1 (by (repeat (first | exact sH _ _ _ | apply sT))) rfl st (both_dep (rX_dep _ _ _ _ _ _ _ _) hXd)) ?_; clear st h1)))|((first|(apply kR;iterate 2 exact rfl)|(apply kQ;exact rfl));all_goals(intro hc;try simp only[hcs]at hc;try(exfalso;first|contradiction|omega))))
        apply end0
        · exact rfl
        intro w' hS
        refine ⟨rfl, lst_end2 hF (hS.sub (L' := [both (rX bc br a5 c5 (msgR (gT (gT (gT (gT (gT u)))))).2 bp cs5 81) X]) (by (repeat (first | exact List.Sublist.refl _ | apply List.Sublist.cons_cons | apply List.Sublist.cons)))) hXd hXe hl5 (fun h0 => ?_)⟩
        obtain ⟨sa, sc, hcs, hz, hX⟩ := hg5 h0
        exact ⟨{ zA with da := sa, dc := sc }, hcs, fun w2 h2 => ⟨hX w2 h2, hz, Rd.nil _ _, fun _ => rfl, Rd.nil _ _, fun _ => rfl⟩⟩
    by_cases hk2 : k = 2
    · rw [if_neg hk1, if_pos hk2] at hr1
      subst hr1
      have q2 : rdN [20, 21] (({ zPkt with kind := k, to := tt } : Pkt).cells zA) u = ((({ zPkt with kind := k, to := tt, t := { zTkn with r1 := gV u, r2 := gV (gT u) } } : Pkt).cells zA), (gT (gT u))) := (rd_cons rfl).trans ((rd_cons rfl).trans (rfl))
      have b2 := BB [20, 21] (({ zPkt with kind := k, to := tt } : Pkt).cells zA) b1
      rw [q2] at b2
      have q3 : rdN [22, 23, 24, 25, 26, 27] (({ zPkt with kind := k, to := tt, t := { zTkn with r1 := gV u, r2 := gV (gT u) } } : Pkt).cells zA) (gT (gT u)) = ((({ zPkt with kind := k, to := tt, t := { zTkn with r1 := gV u, r2 := gV (gT u), hop := gV (gT (gT u)), seq := gV (gT (gT (gT u))), aru := gV (gT (gT (gT (gT u)))), low := gV (gT (gT (gT (gT (gT u))))), stamp := gV (gT (gT (gT (gT (gT (gT u)))))), idle := gV (gT (gT (gT (gT (gT (gT (gT u))))))) } } : Pkt).cells zA), (gT (gT (gT (gT (gT (gT (gT (gT u))))))))) := (rd_cons rfl).trans ((rd_cons rfl).trans ((rd_cons rfl).trans ((rd_cons rfl).trans ((rd_cons rfl).trans ((rd_cons rfl).trans (rfl))))))
      have b3 := BB [22, 23, 24, 25, 26, 27] (({ zPkt with kind := k, to := tt, t := { zTkn with r1 := gV u, r2 := gV (gT u) } } : Pkt).cells zA) b2
      rw [q3] at b3
      repeat'(first|(apply CW.reg_held (St w F []))|(apply Go.Hb.kK;(iterate 4 exact rfl);intro bs)|(apply kp;iterate 2 exact rfl)|apply jJ|(apply jE;exact rfl)|(apply jp;exact rfl)|(apply jc;kernel_rfl)|((first|apply kf|apply kn|apply ke|apply kx|apply kc|apply kb);iterate 2 exact rfl)|((first|apply kz|apply ky);(·exact rfl);(·repeat(first|exact iO|exact iR rfl|apply iT));iterate 2 exact rfl)|(apply kg;iterate 2 exact rfl)|(apply kG;iterate 3 exact rfl)|(apply kB;(iterate 2 exact rfl);intro _)|(apply kA;exact rfl;intro _)|(apply Go.Hb.kK;(iterate 4 exact rfl);intro _)|(apply kU;(iterate 2 exact rfl);(·repeat(first|exact sH _ _ _|apply sT));(first|exact nfL_eq rfl|exact rfl);exact rfl)|((first|apply kh|apply kl);(iterate 2 exact rfl);(first|decide|omega);exact rfl)|(apply LR.ev; (· apply Ev.load (v := .int .i64 e0); (· exact rfl); (· intro w' hw'; apply rX_e (br := br) (s := (l0, e0)) (b := bp) (cs := (({ zPkt with kind := k } : Pkt).cells zA)) (E := 81); apply hw'.holds; (repeat (first | exact mH _ _ | apply mT)); done)); (· exact rfl))|(apply LR.ev; (· apply Ev.load (v := .int .i64 k); (· exact rfl); (· intro w' hw'; apply rX_cell (br := br) (s := (l0, e0)) (b := bp) (cs := (({ zPkt with kind := k } : Pkt).cells zA)) (E := 81) (j := 0); (· apply hw'.holds; (repeat (first | exact mH _ _ | apply mT)); done); (· exact rfl))); (· exact rfl))|(apply LR.ev; (· apply Ev.load (v := .int .i64 k); (· exact rfl); (· intro w' hw'; apply rX_cell (br := br) (s := u) (b := bp) (cs := (({ zPkt with kind := k, to := tt } : Pkt).cells zA)) (E := 81) (j := 0); (· apply hw'.holds; (repeat (first | exact mH _ _ | apply mT)); done); (· exact rfl))); (· exact rfl))|(apply kq; (· exact rfl); (· intro w1 h1; exact CallsTo.q (p88 k 1 5 w1) h1))|(apply LR.call; (· exact rfl); (intro w1 h1; first | (refine (p87r bc br _ _ s bp (zPkt.cells zA) 81 bs [0] w1 (h1.holds (rX bc br _ _ s bp (zPkt.cells zA) 81) (by (repeat (first | exact mH _ _ | apply mT)))) (h1.rd_of_blk (by (repeat (first | exact mH _ _ | apply mT)))) (St.apart2 (x := .own bs (.cells _ 152 (0, 0))) h1 (.inl (by (repeat (first | exact List.Sublist.refl _ | apply List.Sublist.cons_cons | apply List.Sublist.cons)))) rfl bs rfl) (fun o ho => (show ∀ o ∈ ([0] : List Nat), o < 40 by decide) o ho) hB0.1 hB0.2 (by simp)).mono ?_; rintro v w2 ⟨_, _, rfl, st⟩; rw [q0] at st; refine LR.back (St.did h1 (by (repeat (first | exact sH _ _ _ | apply sT))) rfl st (rX_dep _ _ _ _ _ _ _ _)) ?_; clear st h1) | (refine (p87r bc br _ _ (l0, e0) bp (({ zPkt with kind := k } : Pkt).cells zA) 81 bs [1] w1 (h1.holds (rX bc br _ _ (l0, e0) bp (({ zPkt with kind := k } : Pkt).cells zA) 81) (by (repeat (first | exact mH _ _ | apply mT)))) (h1.rd_of_blk (by (repeat (first | exact mH _ _ | apply mT)))) (St.apart2 (x := .own bs (.cells _ 152 (0, 0))) h1 (.inl (by (repeat (first | exact List.Sublist.refl _ | apply List.Sublist.cons_cons | apply List.Sublist.cons)))) rfl bs rfl) (fun o ho => (show ∀ o ∈ ([1] : List Nat), o < 40 by decide) o ho) (W b0).1 (W b0).2 (by simp)).mono ?_; rintro v w2 ⟨_, _, rfl, st⟩; rw [q1] at st; refine LR.back (St.did h1 (by (repeat (first | exact sH _ _ _ | apply sT))) rfl st (rX_dep _ _ _ _ _ _ _ _)) ?_; clear st h1) | (refine (p89r bc br _ _ u bp (({ zPkt with kind := k, to := tt } : Pkt).cells zA) 81 20 w1 (h1.holds (rX bc br _ _ u bp (({ zPkt with kind := k, to := tt } : Pkt).cells zA) 81) (by (repeat (first | exact mH _ _ | apply mT)))) (by show 20 + 1 < 40; decide) (W b1).1 (W b1).2).mono ?_; rintro v w2 ⟨_, _, rfl, st⟩; rw [q2] at st; refine LR.back (St.did h1 (by (repeat (first | exact sH _ _ _ | apply sT))) rfl st (rX_dep _ _ _ _ _ _ _ _)) ?_; clear st h1)))|((first|(apply kR;iterate 2 exact rfl)|(apply kQ;exact rfl));all_goals(intro hc;try simp only[hcs]at hc;try(exfalso;first|contradiction|omega))))
      all_goals
        all_goals (
          apply DW.quiet [0, 1, 2, 3, 4, 5, 6, 7, 8, 9, 10, 11, 12, 13, 14, 15, 16, 17, 18]
          · decide +kernel
          · first | exact fun _ h => h | exact fun _ h => St.sub h (by repeat (first | exact List.Sublist.refl _ | apply List.Sublist.cons_cons | apply List.Sublist.cons))
          repeat'(first|(apply yp;iterate 3 exact rfl)|(apply QL.ev;(·exact rfl);(·first|((first|apply Ez|apply Ey);(·exact rfl);(·repeat(first|exact iO|exact iR rfl|apply iT));exact rfl)|((first|apply Ev.fieldAddr|apply Ev.len|apply EqOf.eq|apply EqOf.ne|apply Ev.conv|apply Ev.buildN);exact rfl)|((first|apply Ev.shr|apply Ev.shl);(iterate 2 exact rfl);first|decide|omega));·exact rfl)|(apply yq;iterate 5 exact rfl)|(apply QL.evg;(iterate 3 exact rfl);(·first|((first|apply Ez|apply Ey);(·exact rfl);(·repeat(first|exact iO|exact iR rfl|apply iT));exact rfl)|((first|apply Ev.fieldAddr|apply Ev.len|apply EqOf.eq|apply EqOf.ne|apply Ev.conv|apply Ev.buildN);exact rfl)|((first|apply Ev.shr|apply Ev.shl);(iterate 2 exact rfl);first|decide|omega));·exact rfl)|(apply yn;iterate 4 exact rfl)|((apply QL.split;iterate 3 exact rfl);all_goals(intro hc;try simp only[hcs]at hc;try(exfalso;first|contradiction|omega)))|apply QL.nil)
          all_goals (show DW _ _ _ _ _ _ _ _))
        all_goals (
          apply DW.loud 19
          · exact rfl
          · decide +kernel
          repeat'(first|(apply Go.Hb.kK;(iterate 4 exact rfl);intro bs)|(apply kg;iterate 2 exact rfl)|(apply kG;iterate 3 exact rfl)|apply kM|(apply kp;iterate 2 exact rfl)|((first|apply kz|apply ky);(·exact rfl);(·repeat(first|exact iO|exact iR rfl|apply iT));iterate 2 exact rfl)|(apply Go.Hb.kK;(iterate 4 exact rfl);intro _)|(apply kU;(iterate 2 exact rfl);(·repeat(first|exact sH _ _ _|apply sT));(first|exact nfL_eq rfl|exact rfl);exact rfl)|(apply kB;(iterate 2 exact rfl);intro _)|(apply kA;exact rfl;intro _)|(apply LR.call; (· exact rfl); (intro w1 h1; first | (refine (p87r bc br _ _ (gT (gT u)) bp (({ zPkt with kind := k, to := tt, t := { zTkn with r1 := gV u, r2 := gV (gT u) } } : Pkt).cells zA) 81 bs [22, 23, 24, 25, 26, 27] w1 (h1.holds (rX bc br _ _ (gT (gT u)) bp (({ zPkt with kind := k, to := tt, t := { zTkn with r1 := gV u, r2 := gV (gT u) } } : Pkt).cells zA) 81) (by (repeat (first | exact mH _ _ | apply mT)))) (h1.rd_of_blk (by (repeat (first | exact mH _ _ | apply mT)))) (St.apart2 (x := .own bs (.cells _ 152 (0, 0))) h1 (.inl (by (repeat (first | exact List.Sublist.refl _ | apply List.Sublist.cons_cons | apply List.Sublist.cons)))) rfl bs rfl) (fun o ho => (show ∀ o ∈ ([22, 23, 24, 25, 26, 27] : List Nat), o < 40 by decide) o ho) (W b2).1 (W b2).2 (by simp)).mono ?_; rintro v w2 ⟨_, _, rfl, st⟩; rw [q3] at st; refine LR.back (St.did h1 (by (repeat (first | exact sH _ _ _ | apply sT))) rfl st (rX_dep _ _ _ _ _ _ _ _)) ?_; clear st h1))))
          all_goals (refine At.stage_same (fun _ h => St.sub h (by repeat (first | exact List.Sublist.refl _ | apply List.Sublist.cons_cons | apply List.Sublist.cons))) ?_))
        all_goals (
          apply DW.loud 20
          · exact rfl
          · decide +kernel
          repeat'(first|(apply Go.Hb.kK;(iterate 4 exact rfl);intro bs)|(apply kg;iterate 2 exact rfl)|(apply kG;iterate 3 exact rfl)|apply kM|(apply kp;iterate 2 exact rfl)|((first|apply kz|apply ky);(·exact rfl);(·repeat(first|exact iO|exact iR rfl|apply iT));iterate 2 exact rfl)|(apply Go.Hb.kK;(iterate 4 exact rfl);intro _)|(apply kU;(iterate 2 exact rfl);(·repeat(first|exact sH _ _ _|apply sT));(first|exact nfL_eq rfl|exact rfl);exact rfl)|(apply kB;(iterate 2 exact rfl);intro _)|(apply kA;exact rfl;intro _)|(apply LR.call; (· exact rfl); (intro w1 h1; first | (refine (p87r bc br _ _ (gT (gT u)) bp (({ zPkt with kind := k, to := tt, t := { zTkn with r1 := gV u, r2 := gV (gT u) } } : Pkt).cells zA) 81 bs [22, 23, 24, 25, 26, 27] w1 (h1.holds (rX bc br _ _ (gT (gT u)) bp (({ zPkt with kind := k, to := tt, t := { zTkn with r1 := gV u, r2 := gV (gT u) } } : Pkt).cells zA) 81) (by (repeat (first | exact mH _ _ | apply mT)))) (h1.rd_of_blk (by (repeat (first | exact mH _ _ | apply mT)))) (St.apart2 (x := .own bs (.cells _ 152 (0, 0))) h1 (.inl (by (repeat (first | exact List.Sublist.refl _ | apply List.Sublist.cons_cons | apply List.Sublist.cons)))) rfl bs rfl) (fun o ho => (show ∀ o ∈ ([22, 23, 24, 25, 26, 27] : List Nat), o < 40 by decide) o ho) (W b2).1 (W b2).2 (by simp)).mono ?_; rintro v w2 ⟨_, _, rfl, st⟩; rw [q3] at st; refine LR.back (St.did h1 (by (repeat (first | exact sH _ _ _ | apply sT))) rfl st (rX_dep _ _ _ _ _ _ _ _)) ?_; clear st h1))))
          all_goals (refine At.stage_same (fun _ h => St.sub h (by repeat (first | exact List.Sublist.refl _ | apply List.Sublist.cons_cons | apply List.Sublist.cons))) ?_))
        all_goals (first | (apply DW.done_thn; (· decide +kernel)) | (apply DW.done; (· decide +kernel)))
        repeat'(first|(apply kp;iterate 2 exact rfl)|apply jJ|(apply jE;exact rfl)|(apply jp;exact rfl)|(apply jc;kernel_rfl)|((first|apply kf|apply kn|apply ke|apply kx|apply kc|apply kb);iterate 2 exact rfl)|((first|apply kz|apply ky);(·exact rfl);(·repeat(first|exact iO|exact iR rfl|apply iT));iterate 2 exact rfl)|(apply kg;iterate 2 exact rfl)|(apply kG;iterate 3 exact rfl)|(apply kB;(iterate 2 exact rfl);intro _)|(apply kA;exact rfl;intro _)|(apply Go.Hb.kK;(iterate 4 exact rfl);intro _)|(apply kU;(iterate 2 exact rfl);(·repeat(first|exact sH _ _ _|apply sT));(first|exact nfL_eq rfl|exact rfl);exact rfl)|((first|apply kh|apply kl);(iterate 2 exact rfl);(first|decide|omega);exact rfl)|(apply LR.call; (· exact rfl); (intro w1 h1; first | (refine (p91r bc br _ _ (gT (gT (gT (gT (gT (gT (gT (gT u)))))))) bp (({ zPkt with kind := k, to := tt, t := { zTkn with r1 := gV u, r2 := gV (gT u), hop := gV (gT (gT u)), seq := gV (gT (gT (gT u))), aru := gV (gT (gT (gT (gT u)))), low := gV (gT (gT (gT (gT (gT u))))), stamp := gV (gT (gT (gT (gT (gT (gT u)))))), idle := gV (gT (gT (gT (gT (gT (gT (gT u))))))) } } : Pkt).cells zA) 81 28 16 w1 (h1.holds (rX bc br _ _ (gT (gT (gT (gT (gT (gT (gT (gT u)))))))) bp (({ zPkt with kind := k, to := tt, t := { zTkn with r1 := gV u, r2 := gV (gT u), hop := gV (gT (gT u)), seq := gV (gT (gT (gT u))), aru := gV (gT (gT (gT (gT u)))), low := gV (gT (gT (gT (gT (gT u))))), stamp := gV (gT (gT (gT (gT (gT (gT u)))))), idle := gV (gT (gT (gT (gT (gT (gT (gT u))))))) } } : Pkt).cells zA) 81) (by (repeat (first | exact mH _ _ | apply mT)))) (by show 28 < 40; decide) rfl (W b3).1 (W b3).2 (by omega)).mono ?_; rintro v w2 ⟨rfl, a5, c5, cs5, X, st, hXd, hXe, hl5, hg5⟩; refine LR.back (St.did h1 (by (repeat (first | exact sH _ _ _ | apply sT))) rfl st (both_dep (rX_dep _ _ _ _ _ _ _ _) hXd)) ?_; clear st h1)))|((first|(apply kR;iterate 2 exact rfl)|(apply kQ;exact rfl));all_goals(intro hc;try simp only[hcs]at hc;try(exfalso;first|contradiction|omega))))
        apply end0
        · exact rfl
        intro w' hS
        refine ⟨rfl, lst_end2 hF (hS.sub (L' := [both (rX bc br a5 c5 (lstR getS 16 (gT (gT (gT (gT (gT (gT (gT (gT u))))))))).2 bp cs5 81) X]) (by (repeat (first | exact List.Sublist.refl _ | apply List.Sublist.cons_cons | apply List.Sublist.cons)))) hXd hXe hl5 (fun h0 => ?_)⟩
        obtain ⟨sa, sc, hcs, hz, hX⟩ := hg5 h0
        exact ⟨{ zA with ta := sa, tc := sc }, hcs, fun w2 h2 => ⟨Rd.nil _ _, fun _ => rfl, (by have := hX w2 h2; rw [← iv_flat] at this; exact this), hz, Rd.nil _ _, fun _ => rfl⟩⟩
    by_cases hk3 : k = 3
    · rw [if_neg hk1, if_neg hk2, if_pos hk3] at hr1
      subst hr1
      have q2 : rdN [29, 30, 31] (({ zPkt with kind := k, to := tt } : Pkt).cells zA) u = ((({ zPkt with kind := k, to := tt, j1 := gV u, j2 := gV (gT u), j3 := gV (gT (gT u)) } : Pkt).cells zA), (gT (gT (gT u)))) := (rd_cons rfl).trans ((rd_cons rfl).trans ((rd_cons rfl).trans (rfl)))
      have b2 := BB [29, 30, 31] (({ zPkt with kind := k, to := tt } : Pkt).cells zA) b1
      rw [q2] at b2
      repeat'(first|(apply CW.reg_held (St w F []))|(apply Go.Hb.kK;(iterate 4 exact rfl);intro bs)|(apply kp;iterate 2 exact rfl)|apply jJ|(apply jE;exact rfl)|(apply jp;exact rfl)|(apply jc;kernel_rfl)|((first|apply kf|apply kn|apply ke|apply kx|apply kc|apply kb);iterate 2 exact rfl)|((first|apply kz|apply ky);(·exact rfl);(·repeat(first|exact iO|exact iR rfl|apply iT));iterate 2 exact rfl)|(apply kg;iterate 2 exact rfl)|(apply kG;iterate 3 exact rfl)|(apply kB;(iterate 2 exact rfl);intro _)|(apply kA;exact rfl;intro _)|(apply Go.Hb.kK;(iterate 4 exact rfl);intro _)|(apply kU;(iterate 2 exact rfl);(·repeat(first|exact sH _ _ _|apply sT));(first|exact nfL_eq rfl|exact rfl);exact rfl)|((first|apply kh|apply kl);(iterate 2 exact rfl);(first|decide|omega);exact rfl)|(apply LR.ev; (· apply Ev.load (v := .int .i64 e0); (· exact rfl); (· intro w' hw'; apply rX_e (br := br) (s := (l0, e0)) (b := bp) (cs := (({ zPkt with kind := k } : Pkt).cells zA)) (E := 81); apply hw'.holds; (repeat (first | exact mH _ _ | apply mT)); done)); (· exact rfl))|(apply LR.ev; (· apply Ev.load (v := .int .i64 k); (· exact rfl); (· intro w' hw'; apply rX_cell (br := br) (s := (l0, e0)) (b := bp) (cs := (({ zPkt with kind := k } : Pkt).cells zA)) (E := 81) (j := 0); (· apply hw'.holds; (repeat (first | exact mH _ _ | apply mT)); done); (· exact rfl))); (· exact rfl))|(apply LR.ev; (· apply Ev.load (v := .int .i64 k); (· exact rfl); (· intro w' hw'; apply rX_cell (br := br) (s := u) (b := bp) (cs := (({ zPkt with kind := k, to := tt } : Pkt).cells zA)) (E := 81) (j := 0); (· apply hw'.holds; (repeat (first | exact mH _ _ | apply mT)); done); (· exact rfl))); (· exact rfl))|(apply kq; (· exact rfl); (· intro w1 h1; exact CallsTo.q (p88 k 1 5 w1) h1))|(apply LR.call; (· exact rfl); (intro w1 h1; first | (refine (p87r bc br _ _ s bp (zPkt.cells zA) 81 bs [0] w1 (h1.holds (rX bc br _ _ s bp (zPkt.cells zA) 81) (by (repeat (first | exact mH _ _ | apply mT)))) (h1.rd_of_blk (by (repeat (first | exact mH _ _ | apply mT)))) (St.apart2 (x := .own bs (.cells _ 152 (0, 0))) h1 (.inl (by (repeat (first | exact List.Sublist.refl _ | apply List.Sublist.cons_cons | apply List.Sublist.cons)))) rfl bs rfl) (fun o ho => (show ∀ o ∈ ([0] : List Nat), o < 40 by decide) o ho) hB0.1 hB0.2 (by simp)).mono ?_; rintro v w2 ⟨_, _, rfl, st⟩; rw [q0] at st; refine LR.back (St.did h1 (by (repeat (first | exact sH _ _ _ | apply sT))) rfl st (rX_dep _ _ _ _ _ _ _ _)) ?_; clear st h1) | (refine (p87r bc br _ _ (l0, e0) bp (({ zPkt with kind := k } : Pkt).cells zA) 81 bs [1] w1 (h1.holds (rX bc br _ _ (l0, e0) bp (({ zPkt with kind := k } : Pkt).cells zA) 81) (by (repeat (first | exact mH _ _ | apply mT)))) (h1.rd_of_blk (by (repeat (first | exact mH _ _ | apply mT)))) (St.apart2 (x := .own bs (.cells _ 152 (0, 0))) h1 (.inl (by (repeat (first | exact List.Sublist.refl _ | apply List.Sublist.cons_cons | apply List.Sublist.cons)))) rfl bs rfl) (fun o ho => (show ∀ o ∈ ([1] : List Nat), o < 40 by decide) o ho) (W b0).1 (W b0).2 (by simp)).mono ?_; rintro v w2 ⟨_, _, rfl, st⟩; rw [q1] at st; refine LR.back (St.did h1 (by (repeat (first | exact sH _ _ _ | apply sT))) rfl st (rX_dep _ _ _ _ _ _ _ _)) ?_; clear st h1)))|((first|(apply kR;iterate 2 exact rfl)|(apply kQ;exact rfl));all_goals(intro hc;try simp only[hcs]at hc;try(exfalso;first|contradiction|omega))))
      all_goals
        all_goals (
          apply DW.quiet [0, 1, 2, 3, 4, 5, 6, 7, 8, 9, 10, 11, 12]
          · decide +kernel
          · first | exact fun _ h => h | exact fun _ h => St.sub h (by repeat (first | exact List.Sublist.refl _ | apply List.Sublist.cons_cons | apply List.Sublist.cons))
          repeat'(first|(apply yp;iterate 3 exact rfl)|(apply QL.ev;(·exact rfl);(·first|((first|apply Ez|apply Ey);(·exact rfl);(·repeat(first|exact iO|exact iR rfl|apply iT));exact rfl)|((first|apply Ev.fieldAddr|apply Ev.len|apply EqOf.eq|apply EqOf.ne|apply Ev.conv|apply Ev.buildN);exact rfl)|((first|apply Ev.shr|apply Ev.shl);(iterate 2 exact rfl);first|decide|omega));·exact rfl)|(apply yq;iterate 5 exact rfl)|(apply QL.evg;(iterate 3 exact rfl);(·first|((first|apply Ez|apply Ey);(·exact rfl);(·repeat(first|exact iO|exact iR rfl|apply iT));exact rfl)|((first|apply Ev.fieldAddr|apply Ev.len|apply EqOf.eq|apply EqOf.ne|apply Ev.conv|apply Ev.buildN);exact rfl)|((first|apply Ev.shr|apply Ev.shl);(iterate 2 exact rfl);first|decide|omega));·exact rfl)|(apply yn;iterate 4 exact rfl)|((apply QL.split;iterate 3 exact rfl);all_goals(intro hc;try simp only[hcs]at hc;try(exfalso;first|contradiction|omega)))|apply QL.nil)
          all_goals (show DW _ _ _ _ _ _ _ _))
        all_goals (
          apply DW.loud 13
          · exact rfl
          · decide +kernel
          repeat'(first|(apply Go.Hb.kK;(iterate 4 exact rfl);intro bs)|(apply kg;iterate 2 exact rfl)|(apply kG;iterate 3 exact rfl)|apply kM|(apply kp;iterate 2 exact rfl)|((first|apply kz|apply ky);(·exact rfl);(·repeat(first|exact iO|exact iR rfl|apply iT));iterate 2 exact rfl)|(apply Go.Hb.kK;(iterate 4 exact rfl);intro _)|(apply kU;(iterate 2 exact rfl);(·repeat(first|exact sH _ _ _|apply sT));(first|exact nfL_eq rfl|exact rfl);exact rfl)|(apply kB;(iterate 2 exact rfl);intro _)|(apply kA;exact rfl;intro _)|(apply LR.call; (· exact rfl); (intro w1 h1; first | (refine (p87r bc br _ _ u bp (({ zPkt with kind := k, to := tt } : Pkt).cells zA) 81 bs [29, 30, 31] w1 (h1.holds (rX bc br _ _ u bp (({ zPkt with kind := k, to := tt } : Pkt).cells zA) 81) (by (repeat (first | exact mH _ _ | apply mT)))) (h1.rd_of_blk (by (repeat (first | exact mH _ _ | apply mT)))) (St.apart2 (x := .own bs (.cells _ 152 (0, 0))) h1 (.inl (by (repeat (first | exact List.Sublist.refl _ | apply List.Sublist.cons_cons | apply List.Sublist.cons)))) rfl bs rfl) (fun o ho => (show ∀ o ∈ ([29, 30, 31] : List Nat), o < 40 by decide) o ho) (W b1).1 (W b1).2 (by simp)).mono ?_; rintro v w2 ⟨_, _, rfl, st⟩; rw [q2] at st; refine LR.back (St.did h1 (by (repeat (first | exact sH _ _ _ | apply sT))) rfl st (rX_dep _ _ _ _ _ _ _ _)) ?_; clear st h1))))
          all_goals (refine At.stage_same (fun _ h => St.sub h (by repeat (first | exact List.Sublist.refl _ | apply List.Sublist.cons_cons | apply List.Sublist.cons))) ?_))
        all_goals (
          apply DW.loud 14
          · exact rfl
          · decide +kernel
          repeat'(first|(apply Go.Hb.kK;(iterate 4 exact rfl);intro bs)|(apply kg;iterate 2 exact rfl)|(apply kG;iterate 3 exact rfl)|apply kM|(apply kp;iterate 2 exact rfl)|((first|apply kz|apply ky);(·exact rfl);(·repeat(first|exact iO|exact iR rfl|apply iT));iterate 2 exact rfl)|(apply Go.Hb.kK;(iterate 4 exact rfl);intro _)|(apply kU;(iterate 2 exact rfl);(·repeat(first|exact sH _ _ _|apply sT));(first|exact nfL_eq rfl|exact rfl);exact rfl)|(apply kB;(iterate 2 exact rfl);intro _)|(apply kA;exact rfl;intro _)|(apply LR.call; (· exact rfl); (intro w1 h1; first | (refine (p87r bc br _ _ u bp (({ zPkt with kind := k, to := tt } : Pkt).cells zA) 81 bs [29, 30, 31] w1 (h1.holds (rX bc br _ _ u bp (({ zPkt with kind := k, to := tt } : Pkt).cells zA) 81) (by (repeat (first | exact mH _ _ | apply mT)))) (h1.rd_of_blk (by (repeat (first | exact mH _ _ | apply mT)))) (St.apart2 (x := .own bs (.cells _ 152 (0, 0))) h1 (.inl (by (repeat (first | exact List.Sublist.refl _ | apply List.Sublist.cons_cons | apply List.Sublist.cons)))) rfl bs rfl) (fun o ho => (show ∀ o ∈ ([29, 30, 31] : List Nat), o < 40 by decide) o ho) (W b1).1 (W b1).2 (by simp)).mono ?_; rintro v w2 ⟨_, _, rfl, st⟩; rw [q2] at st; refine LR.back (St.did h1 (by (repeat (first | exact sH _ _ _ | apply sT))) rfl st (rX_dep _ _ _ _ _ _ _ _)) ?_; clear st h1))))
          all_goals (refine At.stage_same (fun _ h => St.sub h (by repeat (first | exact List.Sublist.refl _ | apply List.Sublist.cons_cons | apply List.Sublist.cons))) ?_))
        all_goals (first | (apply DW.done_thn; (· decide +kernel)) | (apply DW.done; (· decide +kernel)))
        repeat'(first|(apply kp;iterate 2 exact rfl)|apply jJ|(apply jE;exact rfl)|(apply jp;exact rfl)|(apply jc;kernel_rfl)|((first|apply kf|apply kn|apply ke|apply kx|apply kc|apply kb);iterate 2 exact rfl)|((first|apply kz|apply ky);(·exact rfl);(·repeat(first|exact iO|exact iR rfl|apply iT));iterate 2 exact rfl)|(apply kg;iterate 2 exact rfl)|(apply kG;iterate 3 exact rfl)|(apply kB;(iterate 2 exact rfl);intro _)|(apply kA;exact rfl;intro _)|(apply Go.Hb.kK;(iterate 4 exact rfl);intro _)|(apply kU;(iterate 2 exact rfl);(·repeat(first|exact sH _ _ _|apply sT));(first|exact nfL_eq rfl|exact rfl);exact rfl)|((first|apply kh|apply kl);(iterate 2 exact rfl);(first|decide|omega);exact rfl)|((first|(apply kR;iterate 2 exact rfl)|(apply kQ;exact rfl));all_goals(intro hc;try simp only[hcs]at hc;try(exfalso;first|contradiction|omega))))
        apply end0
        · exact rfl
        intro w' hS
        exact ⟨rfl, lst_end hF (hS.sub (L' := [rX bc br _ _ (gT (gT (gT u))) bp (({ zPkt with kind := k, to := tt, j1 := gV u, j2 := gV (gT u), j3 := gV (gT (gT u)) } : Pkt).cells zA) 81]) (by (repeat (first | exact List.Sublist.refl _ | apply List.Sublist.cons_cons | apply List.Sublist.cons)))) rfl (fun h0 => ⟨zA, rfl, fun w2 h2 => ⟨Rd.nil _ _, fun _ => rfl, Rd.nil _ _, fun _ => rfl, Rd.nil _ _, fun _ => rfl⟩⟩)⟩
    by_cases hk4 : k = 4
    · rw [if_neg hk1, if_neg hk2, if_neg hk3, if_pos hk4] at hr1
      subst hr1
      have q2 : rdN [32, 33] (({ zPkt with kind := k, to := tt } : Pkt).cells zA) u = ((({ zPkt with kind := k, to := tt, c := { zCmt with r1 := gV u, r2 := gV (gT u) } } : Pkt).cells zA), (gT (gT u))) := (rd_cons rfl).trans ((rd_cons rfl).trans (rfl))
      have b2 := BB [32, 33] (({ zPkt with kind := k, to := tt } : Pkt).cells zA) b1
      rw [q2] at b2
      have q3 : rdN [34, 35] (({ zPkt with kind := k, to := tt, c := { zCmt with r1 := gV u, r2 := gV (gT u) } } : Pkt).cells zA) (gT (gT u)) = ((({ zPkt with kind := k, to := tt, c := { zCmt with r1 := gV u, r2 := gV (gT u), mem := gV (gT (gT u)), hop := gV (gT (gT (gT u))) } } : Pkt).cells zA), (gT (gT (gT (gT u))))) := (rd_cons rfl).trans ((rd_cons rfl).trans (rfl))
      have b3 := BB [34, 35] (({ zPkt with kind := k, to := tt, c := { zCmt with r1 := gV u, r2 := gV (gT u) } } : Pkt).cells zA) b2
      rw [q3] at b3
      repeat'(first|(apply CW.reg_held (St w F []))|(apply Go.Hb.kK;(iterate 4 exact rfl);intro bs)|(apply kp;iterate 2 exact rfl)|apply jJ|(apply jE;exact rfl)|(apply jp;exact rfl)|(apply jc;kernel_rfl)|((first|apply kf|apply kn|apply ke|apply kx|apply kc|apply kb);iterate 2 exact rfl)|((first|apply kz|apply ky);(·exact rfl);(·repeat(first|exact iO|exact iR rfl|apply iT));iterate 2 exact rfl)|(apply kg;iterate 2 exact rfl)|(apply kG;iterate 3 exact rfl)|(apply kB;(iterate 2 exact rfl);intro _)|(apply kA;exact rfl;intro _)|(apply Go.Hb.kK;(iterate 4 exact rfl);intro _)|(apply kU;(iterate 2 exact rfl);(·repeat(first|exact sH _ _ _|apply sT));(first|exact nfL_eq rfl|exact rfl);exact rfl)|((first|apply kh|apply kl);(iterate 2 exact rfl);(first|decide|omega);exact rfl)|(apply LR.ev; (· apply Ev.load (v := .int .i64 e0); (· exact rfl); (· intro w' hw'; apply rX_e (br := br) (s := (l0, e0)) (b := bp) (cs := (({ zPkt with kind := k } : Pkt).cells zA)) (E := 81); apply hw'.holds; (repeat (first | exact mH _ _ | apply mT)); done)); (· exact rfl))|(apply LR.ev; (· apply Ev.load (v := .int .i64 k); (· exact rfl); (· intro w' hw'; apply rX_cell (br := br) (s := (l0, e0)) (b := bp) (cs := (({ zPkt with kind := k } : Pkt).cells zA)) (E := 81) (j := 0); (· apply hw'.holds; (repeat (first | exact mH _ _ | apply mT)); done); (· exact rfl))); (· exact rfl))|(apply LR.ev; (· apply Ev.load (v := .int .i64 k); (· exact rfl); (· intro w' hw'; apply rX_cell (br := br) (s := u) (b := bp) (cs := (({ zPkt with kind := k, to := tt } : Pkt).cells zA)) (E := 81) (j := 0); (· apply hw'.holds; (repeat (first | exact mH _ _ | apply mT)); done); (· exact rfl))); (· exact rfl))|(apply kq; (· exact rfl); (· intro w1 h1; exact CallsTo.q (p88 k 1 5 w1) h1))|(apply LR.call; (· exact rfl); (intro w1 h1; first | (refine (p87r bc br _ _ s bp (zPkt.cells zA) 81 bs [0] w1 (h1.holds (rX bc br _ _ s bp (zPkt.cells zA) 81) (by (repeat (first | exact mH _ _ | apply mT)))) (h1.rd_of_blk (by (repeat (first | exact mH _ _ | apply mT)))) (St.apart2 (x := .own bs (.cells _ 152 (0, 0))) h1 (.inl (by (repeat (first | exact List.Sublist.refl _ | apply List.Sublist.cons_cons | apply List.Sublist.cons)))) rfl bs rfl) (fun o ho => (show ∀ o ∈ ([0] : List Nat), o < 40 by decide) o ho) hB0.1 hB0.2 (by simp)).mono ?_; rintro v w2 ⟨_, _, rfl, st⟩; rw [q0] at st; refine LR.back (St.did h1 (by (repeat (first | exact sH _ _ _ | apply sT))) rfl st (rX_dep _ _ _ _ _ _ _ _)) ?_; clear st h1) | (refine (p87r bc br _ _ (l0, e0) bp (({ zPkt with kind := k } : Pkt).cells zA) 81 bs [1] w1 (h1.holds (rX bc br _ _ (l0, e0) bp (({ zPkt with kind := k } : Pkt).cells zA) 81) (by (repeat (first | exact mH _ _ | apply mT)))) (h1.rd_of_blk (by (repeat (first | exact mH _ _ | apply mT)))) (St.apart2 (x := .own bs (.cells _ 152 (0, 0))) h1 (.inl (by (repeat (first | exact List.Sublist.refl _ | apply List.Sublist.cons_cons | apply List.Sublist.cons)))) rfl bs rfl) (fun o ho => (show ∀ o ∈ ([1] : List Nat), o < 40 by decide) o ho) (W b0).1 (W b0).2 (by simp)).mono ?_; rintro v w2 ⟨_, _, rfl, st⟩; rw [q1] at st; refine LR.back (St.did h1 (by (repeat (first | exact sH _ _ _ | apply sT))) rfl st (rX_dep _ _ _ _ _ _ _ _)) ?_; clear st h1) | (refine (p89r bc br _ _ u bp (({ zPkt with kind := k, to := tt } : Pkt).cells zA) 81 32 w1 (h1.holds (rX bc br _ _ u bp (({ zPkt with kind := k, to := tt } : Pkt).cells zA) 81) (by (repeat (first | exact mH _ _ | apply mT)))) (by show 32 + 1 < 40; decide) (W b1).1 (W b1).2).mono ?_; rintro v w2 ⟨_, _, rfl, st⟩; rw [q2] at st; refine LR.back (St.did h1 (by (repeat (first | exact sH _ _ _ | apply sT))) rfl st (rX_dep _ _ _ _ _ _ _ _)) ?_; clear st h1)))|((first|(apply kR;iterate 2 exact rfl)|(apply kQ;exact rfl));all_goals(intro hc;try simp only[hcs]at hc;try(exfalso;first|contradiction|omega))))
      all_goals
        all_goals (
          apply DW.quiet [0, 1, 2, 3, 4, 5, 6]
          · decide +kernel
          · first | exact fun _ h => h | exact fun _ h => St.sub h (by repeat (first | exact List.Sublist.refl _ | apply List.Sublist.cons_cons | apply List.Sublist.cons))
          repeat'(first|(apply yp;iterate 3 exact rfl)|(apply QL.ev;(·exact rfl);(·first|((first|apply Ez|apply Ey);(·exact rfl);(·repeat(first|exact iO|exact iR rfl|apply iT));exact rfl)|((first|apply Ev.fieldAddr|apply Ev.len|apply EqOf.eq|apply EqOf.ne|apply Ev.conv|apply Ev.buildN);exact rfl)|((first|apply Ev.shr|apply Ev.shl);(iterate 2 exact rfl);first|decide|omega));·exact rfl)|(apply yq;iterate 5 exact rfl)|(apply QL.evg;(iterate 3 exact rfl);(·first|((first|apply Ez|apply Ey);(·exact rfl);(·repeat(first|exact iO|exact iR rfl|apply iT));exact rfl)|((first|apply Ev.fieldAddr|apply Ev.len|apply EqOf.eq|apply EqOf.ne|apply Ev.conv|apply Ev.buildN);exact rfl)|((first|apply Ev.shr|apply Ev.shl);(iterate 2 exact rfl);first|decide|omega));·exact rfl)|(apply yn;iterate 4 exact rfl)|((apply QL.split;iterate 3 exact rfl);all_goals(intro hc;try simp only[hcs]at hc;try(exfalso;first|contradiction|omega)))|apply QL.nil)
          all_goals (show DW _ _ _ _ _ _ _ _))
        all_goals (
          apply DW.loud 7
          · exact rfl
          · decide +kernel
          repeat'(first|(apply Go.Hb.kK;(iterate 4 exact rfl);intro bs)|(apply kg;iterate 2 exact rfl)|(apply kG;iterate 3 exact rfl)|apply kM|(apply kp;iterate 2 exact rfl)|((first|apply kz|apply ky);(·exact rfl);(·repeat(first|exact iO|exact iR rfl|apply iT));iterate 2 exact rfl)|(apply Go.Hb.kK;(iterate 4 exact rfl);intro _)|(apply kU;(iterate 2 exact rfl);(·repeat(first|exact sH _ _ _|apply sT));(first|exact nfL_eq rfl|exact rfl);exact rfl)|(apply kB;(iterate 2 exact rfl);intro _)|(apply kA;exact rfl;intro _)|(apply LR.call; (· exact rfl); (intro w1 h1; first | (refine (p87r bc br _ _ (gT (gT u)) bp (({ zPkt with kind := k, to := tt, c := { zCmt with r1 := gV u, r2 := gV (gT u) } } : Pkt).cells zA) 81 bs [34, 35] w1 (h1.holds (rX bc br _ _ (gT (gT u)) bp (({ zPkt with kind := k, to := tt, c := { zCmt with r1 := gV u, r2 := gV (gT u) } } : Pkt).cells zA) 81) (by (repeat (first | exact mH _ _ | apply mT)))) (h1.rd_of_blk (by (repeat (first | exact mH _ _ | apply mT)))) (St.apart2 (x := .own bs (.cells _ 152 (0, 0))) h1 (.inl (by (repeat (first | exact List.Sublist.refl _ | apply List.Sublist.cons_cons | apply List.Sublist.cons)))) rfl bs rfl) (fun o ho => (show ∀ o ∈ ([34, 35] : List Nat), o < 40 by decide) o ho) (W b2).1 (W b2).2 (by simp)).mono ?_; rintro v w2 ⟨_, _, rfl, st⟩; rw [q3] at st; refine LR.back (St.did h1 (by (repeat (first | exact sH _ _ _ | apply sT))) rfl st (rX_dep _ _ _ _ _ _ _ _)) ?_; clear st h1))))
          all_goals (refine At.stage_same (fun _ h => St.sub h (by repeat (first | exact List.Sublist.refl _ | apply List.Sublist.cons_cons | apply List.Sublist.cons))) ?_))
        all_goals (
          apply DW.loud 8
          · exact rfl
          · decide +kernel
          repeat'(first|(apply Go.Hb.kK;(iterate 4 exact rfl);intro bs)|(apply kg;iterate 2 exact rfl)|(apply kG;iterate 3 exact rfl)|apply kM|(apply kp;iterate 2 exact rfl)|((first|apply kz|apply ky);(·exact rfl);(·repeat(first|exact iO|exact iR rfl|apply iT));iterate 2 exact rfl)|(apply Go.Hb.kK;(iterate 4 exact rfl);intro _)|(apply kU;(iterate 2 exact rfl);(·repeat(first|exact sH _ _ _|apply sT));(first|exact nfL_eq rfl|exact rfl);exact rfl)|(apply kB;(iterate 2 exact rfl);intro _)|(apply kA;exact rfl;intro _)|(apply LR.call; (· exact rfl); (intro w1 h1; first | (refine (p87r bc br _ _ (gT (gT u)) bp (({ zPkt with kind := k, to := tt, c := { zCmt with r1 := gV u, r2 := gV (gT u) } } : Pkt).cells zA) 81 bs [34, 35] w1 (h1.holds (rX bc br _ _ (gT (gT u)) bp (({ zPkt with kind := k, to := tt, c := { zCmt with r1 := gV u, r2 := gV (gT u) } } : Pkt).cells zA) 81) (by (repeat (first | exact mH _ _ | apply mT)))) (h1.rd_of_blk (by (repeat (first | exact mH _ _ | apply mT)))) (St.apart2 (x := .own bs (.cells _ 152 (0, 0))) h1 (.inl (by (repeat (first | exact List.Sublist.refl _ | apply List.Sublist.cons_cons | apply List.Sublist.cons)))) rfl bs rfl) (fun o ho => (show ∀ o ∈ ([34, 35] : List Nat), o < 40 by decide) o ho) (W b2).1 (W b2).2 (by simp)).mono ?_; rintro v w2 ⟨_, _, rfl, st⟩; rw [q3] at st; refine LR.back (St.did h1 (by (repeat (first | exact sH _ _ _ | apply sT))) rfl st (rX_dep _ _ _ _ _ _ _ _)) ?_; clear st h1))))
          all_goals (refine At.stage_same (fun _ h => St.sub h (by repeat (first | exact List.Sublist.refl _ | apply List.Sublist.cons_cons | apply List.Sublist.cons))) ?_))
        all_goals (first | (apply DW.done_thn; (· decide +kernel)) | (apply DW.done; (· decide +kernel)))
        repeat'(first|(apply kp;iterate 2 exact rfl)|apply jJ|(apply jE;exact rfl)|(apply jp;exact rfl)|(apply jc;kernel_rfl)|((first|apply kf|apply kn|apply ke|apply kx|apply kc|apply kb);iterate 2 exact rfl)|((first|apply kz|apply ky);(·exact rfl);(·repeat(first|exact iO|exact iR rfl|apply iT));iterate 2 exact rfl)|(apply kg;iterate 2 exact rfl)|(apply kG;iterate 3 exact rfl)|(apply kB;(iterate 2 exact rfl);intro _)|(apply kA;exact rfl;intro _)|(apply Go.Hb.kK;(iterate 4 exact rfl);intro _)|(apply kU;(iterate 2 exact rfl);(·repeat(first|exact sH _ _ _|apply sT));(first|exact nfL_eq rfl|exact rfl);exact rfl)|((first|apply kh|apply kl);(iterate 2 exact rfl);(first|decide|omega);exact rfl)|(apply LR.call; (· exact rfl); (intro w1 h1; first | (refine (p93r bc br _ _ (gT (gT (gT (gT u)))) bp (({ zPkt with kind := k, to := tt, c := { zCmt with r1 := gV u, r2 := gV (gT u), mem := gV (gT (gT u)), hop := gV (gT (gT (gT u))) } } : Pkt).cells zA) 81 36 8 w1 (h1.holds (rX bc br _ _ (gT (gT (gT (gT u)))) bp (({ zPkt with kind := k, to := tt, c := { zCmt with r1 := gV u, r2 := gV (gT u), mem := gV (gT (gT u)), hop := gV (gT (gT (gT u))) } } : Pkt).cells zA) 81) (by (repeat (first | exact mH _ _ | apply mT)))) (by show 36 < 40; decide) rfl (W b3).1 (W b3).2 (by omega)).mono ?_; rintro v w2 ⟨rfl, a5, c5, cs5, X, st, hXd, hXe, hl5, hg5⟩; refine LR.back (St.did h1 (by (repeat (first | exact sH _ _ _ | apply sT))) rfl st (both_dep (rX_dep _ _ _ _ _ _ _ _) hXd)) ?_; clear st h1)))|((first|(apply kR;iterate 2 exact rfl)|(apply kQ;exact rfl));all_goals(intro hc;try simp only[hcs]at hc;try(exfalso;first|contradiction|omega))))
        apply end0
        · exact rfl
        intro w' hS
        refine ⟨rfl, lst_end2 hF (hS.sub (L' := [both (rX bc br a5 c5 (lstR getE 8 (gT (gT (gT (gT u))))).2 bp cs5 81) X]) (by (repeat (first | exact List.Sublist.refl _ | apply List.Sublist.cons_cons | apply List.Sublist.cons)))) hXd hXe hl5 (fun h0 => ?_)⟩
        obtain ⟨sa, sc, hcs, hz, hX⟩ := hg5 h0
        exact ⟨{ zA with ca := sa, cc := sc }, hcs, fun w2 h2 => ⟨Rd.nil _ _, fun _ => rfl, Rd.nil _ _, fun _ => rfl, hX w2 h2, hz⟩⟩
    by_cases hk5 : k = 5
    · rw [if_neg hk1, if_neg hk2, if_neg hk3, if_neg hk4, if_pos hk5] at hr1
      subst hr1
      have q2 : rdN [37, 38] (({ zPkt with kind := k, to := tt } : Pkt).cells zA) u = ((({ zPkt with kind := k, to := tt, b1 := gV u, b2 := gV (gT u) } : Pkt).cells zA), (gT (gT u))) := (rd_cons rfl).trans ((rd_cons rfl).trans (rfl))
      have b2 := BB [37, 38] (({ zPkt with kind := k, to := tt } : Pkt).cells zA) b1
      rw [q2] at b2
      have q3 : rdN [39] (({ zPkt with kind := k, to := tt, b1 := gV u, b2 := gV (gT u) } : Pkt).cells zA) (gT (gT u)) = ((({ zPkt with kind := k, to := tt, b1 := gV u, b2 := gV (gT u), b3 := gV (gT (gT u)) } : Pkt).cells zA), (gT (gT (gT u)))) := (rd_cons rfl).trans (rfl)
      have b3 := BB [39] (({ zPkt with kind := k, to := tt, b1 := gV u, b2 := gV (gT u) } : Pkt).cells zA) b2
      rw [q3] at b3
      repeat'(first|(apply CW.reg_held (St w F []))|(apply Go.Hb.kK;(iterate 4 exact rfl);intro bs)|(apply kp;iterate 2 exact rfl)|apply jJ|(apply jE;exact rfl)|(apply jp;exact rfl)|(apply jc;kernel_rfl)|((first|apply kf|apply kn|apply ke|apply kx|apply kc|apply kb);iterate 2 exact rfl)|((first|apply kz|apply ky);(·exact rfl);(·repeat(first|exact iO|exact iR rfl|apply iT));iterate 2 exact rfl)|(apply kg;iterate 2 exact rfl)|(apply kG;iterate 3 exact rfl)|(apply kB;(iterate 2 exact rfl);intro _)|(apply kA;exact rfl;intro _)|(apply Go.Hb.kK;(iterate 4 exact rfl);intro _)|(apply kU;(iterate 2 exact rfl);(·repeat(first|exact sH _ _ _|apply sT));(first|exact nfL_eq rfl|exact rfl);exact rfl)|((first|apply kh|apply kl);(iterate 2 exact rfl);(first|decide|omega);exact rfl)|(apply LR.ev; (· apply Ev.load (v := .int .i64 e0); (· exact rfl); (· intro w' hw'; apply rX_e (br := br) (s := (l0, e0)) (b := bp) (cs := (({ zPkt with kind := k } : Pkt).cells zA)) (E := 81); apply hw'.holds; (repeat (first | exact mH _ _ | apply mT)); done)); (· exact rfl))|(apply LR.ev; (· apply Ev.load (v := .int .i64 k); (· exact rfl); (· intro w' hw'; apply rX_cell (br := br) (s := (l0, e0)) (b := bp) (cs := (({ zPkt with kind := k } : Pkt).cells zA)) (E := 81) (j := 0); (· apply hw'.holds; (repeat (first | exact mH _ _ | apply mT)); done); (· exact rfl))); (· exact rfl))|(apply LR.ev; (· apply Ev.load (v := .int .i64 k); (· exact rfl); (· intro w' hw'; apply rX_cell (br := br) (s := u) (b := bp) (cs := (({ zPkt with kind := k, to := tt } : Pkt).cells zA)) (E := 81) (j := 0); (· apply hw'.holds; (repeat (first | exact mH _ _ | apply mT)); done); (· exact rfl))); (· exact rfl))|(apply kq; (· exact rfl); (· intro w1 h1; exact CallsTo.q (p88 k 1 5 w1) h1))|(apply LR.call; (· exact rfl); (intro w1 h1; first | (refine (p87r bc br _ _ s bp (zPkt.cells zA) 81 bs [0] w1 (h1.holds (rX bc br _ _ s bp (zPkt.cells zA) 81) (by (repeat (first | exact mH _ _ | apply mT)))) (h1.rd_of_blk (by (repeat (first | exact mH _ _ | apply mT)))) (St.apart2 (x := .own bs (.cells _ 152 (0, 0))) h1 (.inl (by (repeat (first | exact List.Sublist.refl _ | apply List.Sublist.cons_cons | apply List.Sublist.cons)))) rfl bs rfl) (fun o ho => (show ∀ o ∈ ([0] : List Nat), o < 40 by decide) o ho) hB0.1 hB0.2 (by simp)).mono ?_; rintro v w2 ⟨_, _, rfl, st⟩; rw [q0] at st; refine LR.back (St.did h1 (by (repeat (first | exact sH _ _ _ | apply sT))) rfl st (rX_dep _ _ _ _ _ _ _ _)) ?_; clear st h1) | (refine (p87r bc br _ _ (l0, e0) bp (({ zPkt with kind := k } : Pkt).cells zA) 81 bs [1] w1 (h1.holds (rX bc br _ _ (l0, e0) bp (({ zPkt with kind := k } : Pkt).cells zA) 81) (by (repeat (first | exact mH _ _ | apply mT)))) (h1.rd_of_blk (by (repeat (first | exact mH _ _ | apply mT)))) (St.apart2 (x := .own bs (.cells _ 152 (0, 0))) h1 (.inl (by (repeat (first | exact List.Sublist.refl _ | apply List.Sublist.cons_cons | apply List.Sublist.cons)))) rfl bs rfl) (fun o ho => (show ∀ o ∈ ([1] : List Nat), o < 40 by decide) o ho) (W b0).1 (W b0).2 (by simp)).mono ?_; rintro v w2 ⟨_, _, rfl, st⟩; rw [q1] at st; refine LR.back (St.did h1 (by (repeat (first | exact sH _ _ _ | apply sT))) rfl st (rX_dep _ _ _ _ _ _ _ _)) ?_; clear st h1) | (refine (p89r bc br _ _ u bp (({ zPkt with kind := k, to := tt } : Pkt).cells zA) 81 37 w1 (h1.holds (rX bc br _ _ u bp (({ zPkt with kind := k, to := tt } : Pkt).cells zA) 81) (by (repeat (first | exact mH _ _ | apply mT)))) (by show 37 + 1 < 40; decide) (W b1).1 (W b1).2).mono ?_; rintro v w2 ⟨_, _, rfl, st⟩; rw [q2] at st; refine LR.back (St.did h1 (by (repeat (first | exact sH _ _ _ | apply sT))) rfl st (rX_dep _ _ _ _ _ _ _ _)) ?_; clear st h1) | (refine (p87r bc br _ _ (gT (gT u)) bp (({ zPkt with kind := k, to := tt, b1 := gV u, b2 := gV (gT u) } : Pkt).cells zA) 81 bs [39] w1 (h1.holds (rX bc br _ _ (gT (gT u)) bp (({ zPkt with kind := k, to := tt, b1 := gV u, b2 := gV (gT u) } : Pkt).cells zA) 81) (by (repeat (first | exact mH _ _ | apply mT)))) (h1.rd_of_blk (by (repeat (first | exact mH _ _ | apply mT)))) (St.apart2 (x := .own bs (.cells _ 152 (0, 0))) h1 (.inl (by (repeat (first | exact List.Sublist.refl _ | apply List.Sublist.cons_cons | apply List.Sublist.cons)))) rfl bs rfl) (fun o ho => (show ∀ o ∈ ([39] : List Nat), o < 40 by decide) o ho) (W b2).1 (W b2).2 (by simp)).mono ?_; rintro v w2 ⟨_, _, rfl, st⟩; rw [q3] at st; refine LR.back (St.did h1 (by (repeat (first | exact sH _ _ _ | apply sT))) rfl st (rX_dep _ _ _ _ _ _ _ _)) ?_; clear st h1)))|((first|(apply kR;iterate 2 exact rfl)|(apply kQ;exact rfl));all_goals(intro hc;try simp only[hcs]at hc;try(exfalso;first|contradiction|omega))))
      all_goals
        apply end0
        · exact rfl
        intro w' hS
        exact ⟨rfl, lst_end hF (hS.sub (L' := [rX bc br _ _ (gT (gT (gT u))) bp (({ zPkt with kind := k, to := tt, b1 := gV u, b2 := gV (gT u), b3 := gV (gT (gT u)) } : Pkt).cells zA) 81]) (by (repeat (first | exact List.Sublist.refl _ | apply List.Sublist.cons_cons | apply List.Sublist.cons)))) rfl (fun h0 => ⟨zA, rfl, fun w2 h2 => ⟨Rd.nil _ _, fun _ => rfl, Rd.nil _ _, fun _ => rfl, Rd.nil _ _, fun _ => rfl⟩⟩)⟩
    have he : e0 ≠ 0 := by omega
    have e2 : getS (l0, e0) = (0, (l0, e0)) := getS_err he
    have hu2 : u = (l0, e0) := by rw [← hu]; unfold gT; rw [e2]
    rw [if_neg hk1, if_neg hk2, if_neg hk3, if_neg hk4, if_neg hk5] at hr1
    subst hr1
    repeat'(first|(apply CW.reg_held (St w F []))|(apply Go.Hb.kK;(iterate 4 exact rfl);intro bs)|(apply kp;iterate 2 exact rfl)|apply jJ|(apply jE;exact rfl)|(apply jp;exact rfl)|(apply jc;kernel_rfl)|((first|apply kf|apply kn|apply ke|apply kx|apply kc|apply kb);iterate 2 exact rfl)|((first|apply kz|apply ky);(·exact rfl);(·repeat(first|exact iO|exact iR rfl|apply iT));iterate 2 exact rfl)|(apply kg;iterate 2 exact rfl)|(apply kG;iterate 3 exact rfl)|(apply kB;(iterate 2 exact rfl);intro _)|(apply kA;exact rfl;intro _)|(apply Go.Hb.kK;(iterate 4 exact rfl);intro _)|(apply kU;(iterate 2 exact rfl);(·repeat(first|exact sH _ _ _|apply sT));(first|exact nfL_eq rfl|exact rfl);exact rfl)|((first|apply kh|apply kl);(iterate 2 exact rfl);(first|decide|omega);exact rfl)|(apply LR.ev; (· apply Ev.load (v := .int .i64 e0); (· exact rfl); (· intro w' hw'; apply rX_e (br := br) (s := (l0, e0)) (b := bp) (cs := (({ zPkt with kind := k } : Pkt).cells zA)) (E := 81); apply hw'.holds; (repeat (first | exact mH _ _ | apply mT)); done)); (· exact rfl))|(apply LR.ev; (· apply Ev.load (v := .int .i64 k); (· exact rfl); (· intro w' hw'; apply rX_cell (br := br) (s := (l0, e0)) (b := bp) (cs := (({ zPkt with kind := k } : Pkt).cells zA)) (E := 81) (j := 0); (· apply hw'.holds; (repeat (first | exact mH _ _ | apply mT)); done); (· exact rfl))); (· exact rfl))|(apply LR.ev; (· apply Ev.load (v := .int .i64 k); (· exact rfl); (· intro w' hw'; apply rX_cell (br := br) (s := u) (b := bp) (cs := (({ zPkt with kind := k, to := tt } : Pkt).cells zA)) (E := 81) (j := 0); (· apply hw'.holds; (repeat (first | exact mH _ _ | apply mT)); done); (· exact rfl))); (· exact rfl))|(apply kq; (· exact rfl); (· intro w1 h1; exact CallsTo.q (p88 k 1 5 w1) h1))|(apply LR.call; (· exact rfl); (intro w1 h1; first | (refine (p87r bc br _ _ s bp (zPkt.cells zA) 81 bs [0] w1 (h1.holds (rX bc br _ _ s bp (zPkt.cells zA) 81) (by (repeat (first | exact mH _ _ | apply mT)))) (h1.rd_of_blk (by (repeat (first | exact mH _ _ | apply mT)))) (St.apart2 (x := .own bs (.cells _ 152 (0, 0))) h1 (.inl (by (repeat (first | exact List.Sublist.refl _ | apply List.Sublist.cons_cons | apply List.Sublist.cons)))) rfl bs rfl) (fun o ho => (show ∀ o ∈ ([0] : List Nat), o < 40 by decide) o ho) hB0.1 hB0.2 (by simp)).mono ?_; rintro v w2 ⟨_, _, rfl, st⟩; rw [q0] at st; refine LR.back (St.did h1 (by (repeat (first | exact sH _ _ _ | apply sT))) rfl st (rX_dep _ _ _ _ _ _ _ _)) ?_; clear st h1) | (refine (p87r bc br _ _ (l0, e0) bp (({ zPkt with kind := k } : Pkt).cells zA) 81 bs [1] w1 (h1.holds (rX bc br _ _ (l0, e0) bp (({ zPkt with kind := k } : Pkt).cells zA) 81) (by (repeat (first | exact mH _ _ | apply mT)))) (h1.rd_of_blk (by (repeat (first | exact mH _ _ | apply mT)))) (St.apart2 (x := .own bs (.cells _ 152 (0, 0))) h1 (.inl (by (repeat (first | exact List.Sublist.refl _ | apply List.Sublist.cons_cons | apply List.Sublist.cons)))) rfl bs rfl) (fun o ho => (show ∀ o ∈ ([1] : List Nat), o < 40 by decide) o ho) (W b0).1 (W b0).2 (by simp)).mono ?_; rintro v w2 ⟨_, _, rfl, st⟩; rw [q1] at st; refine LR.back (St.did h1 (by (repeat (first | exact sH _ _ _ | apply sT))) rfl st (rX_dep _ _ _ _ _ _ _ _)) ?_; clear st h1)))|((first|(apply kR;iterate 2 exact rfl)|(apply kQ;exact rfl));all_goals(intro hc;try simp only[hcs]at hc;try(exfalso;first|contradiction|omega))))
    all_goals
      apply end0
      · exact rfl
      intro w' hS
      exact ⟨rfl, lst_end hF (hS.sub (L' := [rX bc br _ _ u bp (({ zPkt with kind := k, to := tt } : Pkt).cells zA) 81]) (by (repeat (first | exact List.Sublist.refl _ | apply List.Sublist.cons_cons | apply List.Sublist.cons)))) rfl (fun h0 => absurd h0 (by rw [hu2]; exact he))⟩
end Go.Proofs.Ytkolmkdbjagfcaa

namespace Go.Proofs.Ytkolmkdbjagfcaa
open Go.Hb
attribute [local irreducible] LR CW At Ev thn blk finK noG again CallsTo DW QL dnext TW DP
set_option linter.unusedSimpArgs false
set_option linter.unusedVariables false
set_option maxRecDepth 100000

theorem decF_err : ∀ k i acc l, (decF k i acc l).2.2 ≠ 0 → (decF k i acc l).1 = 0
  | 0, i, acc, l => by simp [decF]
  | k + 1, i, acc, [] => by simp [decF]
  | k + 1, i, acc, x :: r => by
    unfold decF
    split
    · split
      · simp
      · simp
    · exact decF_err k _ _ r
theorem dec_err {l : List Int} (h : (dec l).2.2 ≠ 0) : (dec l).1 = 0 := decF_err 8 0 0 l h
theorem gV_bd (s : RS) : 0 ≤ gV s ∧ gV s ≤ 9007199254740991 := by
  unfold gV getS
  split
  · omega
  · have h := (decF_bound 8 0 0 s.1).2
    simp only
    by_cases h0 : (dec s.1).2.2 = 0
    · have := (h h0).2
      unfold dec at h0 ⊢
      omega
    · have : (dec s.1).1 = 0 := dec_err h0
      rw [this]; omega
theorem gT_byt {s : RS} (h : Byt s.1) : Byt (gT s).1 := getS_byt h
theorem gT_le (s : RS) : (gT s).1.length ≤ s.1.length := getS_le s
theorem lstR_len {α : Type} (f : RS → α × RS) {most : Int} (hm : 0 ≤ most) (s : RS) : ((lstR f most s).1.length : Int) ≤ most := by
  unfold lstR
  have := getS_nn s
  split
  · exact hm
  · split
    · exact hm
    · rw [rdL_len]; omega
theorem msgR_body {s : RS} (h : Byt s.1) : Byt (msgR s).1.body ∧ (msgR s).1.body.length ≤ s.1.length := by
  unfold msgR
  split
  · exact ⟨fun x hx => by simp [zeroMsg] at hx, Nat.zero_le _⟩
  · split
    · exact ⟨fun x hx => by simp [zeroMsg] at hx, Nat.zero_le _⟩
    · rename_i h1 h2
      have h3 := octs_facts (most := 512) (l := s.1) (by simpa using h2)
      have h4 := unpack_body (octs 512 s.1).1
      exact ⟨fun x hx => h x (h3.2 x (h4.2 x hx)), Nat.le_trans h4.1 (Nat.le_of_lt h3.1)⟩
theorem parse_facts {s : RS} (hB : Byt s.1) : Byt (parseP s).1.d.msg.body ∧ (parseP s).1.d.msg.body.length ≤ s.1.length ∧ (parseP s).1.t.ask.length ≤ 16 ∧ (parseP s).1.c.ents.length ≤ 8 ∧ PktI (parseP s).1 := by
  unfold parseP
  generalize gV s = k
  have hs : Byt (gT (startS k (gT s))).1 ∧ (gT (startS k (gT s))).1.length ≤ s.1.length := by
    have h1 : Byt (startS k (gT s)).1 ∧ (startS k (gT s)).1.length ≤ s.1.length := by
      unfold startS
      split
      · exact ⟨gT_byt hB, gT_le s⟩
      · exact ⟨gT_byt hB, gT_le s⟩
    exact ⟨gT_byt h1.1, Nat.le_trans (gT_le _) h1.2⟩
  generalize gV (startS k (gT s)) = tt
  generalize gT (startS k (gT s)) = u at hs
  have z : Byt (zPkt.d.msg.body) ∧ zPkt.d.msg.body.length ≤ s.1.length ∧ zPkt.t.ask.length ≤ 16 ∧ zPkt.c.ents.length ≤ 8 := ⟨fun x hx => by simp [zPkt, zeroDat, zeroMsg] at hx, Nat.zero_le _, Nat.zero_le _, Nat.zero_le _⟩
  have z2 : (-9223372036854775808 ≤ zPkt.c.mem ∧ zPkt.c.mem ≤ 9223372036854775807) := by decide
  have z3 : (-9223372036854775808 ≤ zPkt.j2 ∧ zPkt.j2 ≤ 9223372036854775807) := by decide
  have m5 := @msgR_body (gT (gT (gT (gT (gT u))))) (gT_byt (gT_byt (gT_byt (gT_byt (gT_byt hs.1)))))
  have l5 : (gT (gT (gT (gT (gT u))))).1.length ≤ u.1.length := Nat.le_trans (gT_le _) (Nat.le_trans (gT_le _) (Nat.le_trans (gT_le _) (Nat.le_trans (gT_le _) (gT_le _))))
  have n1 := lstR_len getS (most := 16) (by decide) (gT (gT (gT (gT (gT (gT (gT (gT u))))))))
  have n2 := lstR_len getE (most := 8) (by decide) (gT (gT (gT (gT u))))
  have v1 := gV_bd (gT u)
  have v2 := gV_bd (gT (gT u))
  unfold parseK
  repeat' split
  · exact ⟨m5.1, by have := m5.2; have := hs.2; simp only; omega, z.2.2.1, z.2.2.2, z2, z3⟩
  · exact ⟨z.1, z.2.1, by simp only; omega, z.2.2.2, z2, z3⟩
  · exact ⟨z.1, z.2.1, z.2.2.1, z.2.2.2, z2, by simp only; omega⟩
  · exact ⟨z.1, z.2.1, z.2.2.1, by simp only; omega, by simp only; omega, z3⟩
  · exact ⟨z.1, z.2.1, z.2.2.1, z.2.2.2, z2, z3⟩
  · exact ⟨z.1, z.2.1, z.2.2.1, z.2.2.2, z2, z3⟩
def unpackP (l : List Int) : Pkt × Int :=
  if 512 < l.length then (zPkt, 5)
  else if (openL l).2 ≠ 0 then (zPkt, (openL l).2)
  else if (parseP ((openL l).1, 0)).2.2 ≠ 0 then (zPkt, (parseP ((openL l).1, 0)).2.2)
  else if 0 < (parseP ((openL l).1, 0)).2.1.length ∨ chkP (parseP ((openL l).1, 0)).1 = false then (zPkt, 4)
  else ((parseP ((openL l).1, 0)).1, 0)
theorem zPktM (w : World) : PktM w zPkt zA := ⟨Rd.nil _ _, fun _ => rfl, Rd.nil _ _, fun _ => rfl, Rd.nil _ _, fun _ => rfl⟩
/-- What Unpack yields. -/
def UnpP (r : Pkt × Int) (v : Value) (w w' : World) : Prop := ∃ A X, v = .tuple [r.1.val A, .int .i64 r.2].toArray ∧ New1 X w w' ∧ X.dep ∧ X.excl = true ∧ ∀ w2, X.holds w2 → PktM w2 r.1 A
theorem unp_zero {w w' : World} {L : List Asrt} (e : Int) (hS : St w NoF L w') : UnpP (zPkt, e) (.tuple [zPkt.val zA, .int .i64 e].toArray) w w' :=
  ⟨zA, _, rfl, (hS.nilsl 3 1).new1 rfl, osl.dep _ _ _ _ _, rfl, fun w2 _ => zPktM w2⟩
theorem PktM.toR {w : World} {p : Pkt} {A : PAd} (h : PktM w p A) (hb : Byt p.d.msg.body) (h1 : p.d.msg.body.length ≤ 140737488351232) (h2 : p.t.ask.length ≤ 16) (h3 : p.c.ents.length ≤ 8) : PktR w p A :=
  ⟨h.hd, h.hdz, hb, h1, h.ht, h.htz, by omega, h.hc, h.hcz, by omega⟩
theorem open_byt {l : List Int} (hb : Byt l) : Byt (openL l).1 ∧ (openL l).1.length ≤ l.length := by
  unfold openL
  repeat' split
  · exact ⟨fun x hx => by simp at hx, Nat.zero_le _⟩
  · exact ⟨fun x hx => hb x (List.mem_of_mem_take hx), by simp only [List.length_take]; omega⟩
  · exact ⟨fun x hx => by simp at hx, Nat.zero_le _⟩
set_option maxHeartbeats 16000000 in
theorem p32 (a : Option Addr) (c : Nat) (l : List Int) (w : World) (hr : Rd w a (bv l)) (hb : Byt l) (hz : a = none → c = 0) (hcap : l.length ≤ c) (hm : l.length ≤ 140737488355000) :
    CallsTo Try.prog 32 [.slice a l.length c] w fun v w' => UnpP (unpackP l) v w w' := by
  refine go_in (n := 59) (St.rd1 hr) Try.func32 rfl rfl ?_
  obtain ⟨r0, hr0⟩ : ∃ r, unpackP l = r := ⟨_, rfl⟩
  have hr1 := hr0
  rw [hr0]
  unfold unpackP at hr1
  by_cases h5 : 512 < l.length
  · rw [if_pos h5] at hr1
    subst hr1
    repeat'(first|(apply kA;exact rfl;intro b2)|(apply kp;iterate 2 exact rfl)|apply jJ|(apply jE;exact rfl)|(apply jp;exact rfl)|(apply jc;kernel_rfl)|((first|apply kf|apply kn|apply ke|apply kx|apply kc|apply kb);iterate 2 exact rfl)|((first|apply kz|apply ky);(·exact rfl);(·repeat(first|exact iO|exact iR rfl|apply iT));iterate 2 exact rfl)|(apply kg;iterate 2 exact rfl)|(apply kG;iterate 3 exact rfl)|(apply kB;(iterate 2 exact rfl);intro _)|(apply kA;exact rfl;intro _)|(apply Go.Hb.kK;(iterate 4 exact rfl);intro _)|(apply kU;(iterate 2 exact rfl);(·repeat(first|exact sH _ _ _|apply sT));(first|exact nfL_eq rfl|exact rfl);exact rfl)|((first|apply kh|apply kl);(iterate 2 exact rfl);(first|decide|omega);exact rfl)|((first|(apply kR;iterate 2 exact rfl)|(apply kQ;exact rfl));all_goals(intro hc;try simp only[hcs]at hc;try(exfalso;first|contradiction|omega))))
    (apply ret2c; (· exact rfl); (· exact inferInstance); (· exact rfl); (· (repeat (first | exact List.Mem.head _ | apply List.Mem.tail))); (· exact rfl); intro w' hS)
    exact unp_zero 5 hS
  rw [if_neg h5] at hr1
  have hob := open_byt hb
  obtain ⟨⟨ol, oe⟩, hol⟩ : ∃ r, openL l = r := ⟨_, rfl⟩
  rw [hol] at hr1 hob
  simp only at hr1 hob
  by_cases ho : oe ≠ 0
  · rw [if_pos ho] at hr1
    subst hr1
    repeat'(first|(apply kA;exact rfl;intro b2)|(apply kp;iterate 2 exact rfl)|apply jJ|(apply jE;exact rfl)|(apply jp;exact rfl)|(apply jc;kernel_rfl)|((first|apply kf|apply kn|apply ke|apply kx|apply kc|apply kb);iterate 2 exact rfl)|((first|apply kz|apply ky);(·exact rfl);(·repeat(first|exact iO|exact iR rfl|apply iT));iterate 2 exact rfl)|(apply kg;iterate 2 exact rfl)|(apply kG;iterate 3 exact rfl)|(apply kB;(iterate 2 exact rfl);intro _)|(apply kA;exact rfl;intro _)|(apply Go.Hb.kK;(iterate 4 exact rfl);intro _)|(apply kU;(iterate 2 exact rfl);(·repeat(first|exact sH _ _ _|apply sT));(first|exact nfL_eq rfl|exact rfl);exact rfl)|((first|apply kh|apply kl);(iterate 2 exact rfl);(first|decide|omega);exact rfl)|(apply LR.call; (· exact rfl); (intro w1 h1; refine (p65 a c l w1 (h1.rd_of (a := a) (xs := bv l) (by (repeat (first | exact mH _ _ | apply mT)))) hb hz hcap hm).mono ?_; rw [hol]; rintro v w2 ⟨a1, c1, hv, hn⟩; replace hv : v = .tuple [.slice a1 ol.length c1, .int .i64 oe].toArray := hv; subst hv; refine LR.back (h1.newSl hn) ?_; clear hn h1))|((first|(apply kR;iterate 2 exact rfl)|(apply kQ;exact rfl));all_goals(intro hc;try simp only[hcs]at hc;try(exfalso;first|contradiction|omega))))
    (apply ret2c; (· exact rfl); (· exact inferInstance); (· exact rfl); (· (repeat (first | exact List.Mem.head _ | apply List.Mem.tail))); (· exact rfl); intro w' hS)
    exact unp_zero oe hS
  rw [if_neg ho] at hr1
  have ho2 : oe = 0 := by omega
  subst ho2
  have hpf := @parse_facts (ol, 0) hob.1
  obtain ⟨⟨p, l2, e2⟩, hp⟩ : ∃ r, parseP (ol, 0) = r := ⟨_, rfl⟩
  rw [hp] at hr1 hpf
  simp only at hr1 hpf
  obtain ⟨hpb, hpl, hpa, hpe, hpi⟩ := hpf
  repeat'(first|(apply kA;exact rfl;intro b2)|(apply kp;iterate 2 exact rfl)|apply jJ|(apply jE;exact rfl)|(apply jp;exact rfl)|(apply jc;kernel_rfl)|((first|apply kf|apply kn|apply ke|apply kx|apply kc|apply kb);iterate 2 exact rfl)|((first|apply kz|apply ky);(·exact rfl);(·repeat(first|exact iO|exact iR rfl|apply iT));iterate 2 exact rfl)|(apply kg;iterate 2 exact rfl)|(apply kG;iterate 3 exact rfl)|(apply kB;(iterate 2 exact rfl);intro _)|(apply kA;exact rfl;intro _)|(apply Go.Hb.kK;(iterate 4 exact rfl);intro _)|(apply kU;(iterate 2 exact rfl);(·repeat(first|exact sH _ _ _|apply sT));(first|exact nfL_eq rfl|exact rfl);exact rfl)|((first|apply kh|apply kl);(iterate 2 exact rfl);(first|decide|omega);exact rfl)|((first|(apply kR;iterate 2 exact rfl)|(apply kQ;exact rfl));all_goals(intro hc;try simp only[hcs]at hc;try(exfalso;first|contradiction|omega))))
  apply LR.call
  · exact rfl
  intro w1 h1
  refine (p65 a c l w1 (h1.rd_of (a := a) (xs := bv l) (by (repeat (first | exact mH _ _ | apply mT)))) hb hz hcap hm).mono ?_
  rw [hol]
  rintro v w2 ⟨a1, c1, hv, hn⟩
  replace hv : v = .tuple [.slice a1 ol.length c1, .int .i64 0].toArray := hv
  subst hv
  replace hn : NewSl w1 w2 (.slice a1 ol.length c1) 5 1 ol.length (bv ol) := hn
  refine LR.back (h1.newSl hn) ?_
  clear hn h1
  repeat'(first|(apply kA;exact rfl;intro bp)|(apply kB;(iterate 2 exact rfl);intro bc)|(apply kp;iterate 2 exact rfl)|apply jJ|(apply jE;exact rfl)|(apply jp;exact rfl)|(apply jc;kernel_rfl)|((first|apply kf|apply kn|apply ke|apply kx|apply kc|apply kb);iterate 2 exact rfl)|((first|apply kz|apply ky);(·exact rfl);(·repeat(first|exact iO|exact iR rfl|apply iT));iterate 2 exact rfl)|(apply kg;iterate 2 exact rfl)|(apply kG;iterate 3 exact rfl)|(apply kB;(iterate 2 exact rfl);intro _)|(apply kA;exact rfl;intro _)|(apply Go.Hb.kK;(iterate 4 exact rfl);intro _)|(apply kU;(iterate 2 exact rfl);(·repeat(first|exact sH _ _ _|apply sT));(first|exact nfL_eq rfl|exact rfl);exact rfl)|((first|apply kh|apply kl);(iterate 2 exact rfl);(first|decide|omega);exact rfl)|(apply LR.call; (· exact rfl); (intro w1 h1; refine CallsTo.mono (show CallsTo Try.prog 66 [.slice a1 ol.length c1] w1 _ from c65 a1 c1 ol w1 (h1.rd_of_own (by (repeat (first | exact mH _ _ | apply mT)))) (fun e => (ownsRow_some (h1.holds (osl (.slice a1 ol.length c1) 5 1 ol.length (bv ol)) (by (repeat (first | exact mH _ _ | apply mT)))) e).2) (by omega)) ?_; rintro v w2 ⟨br, a3, c3, rfl, hn⟩; refine LR.back (h1.got hn (rrA_dep _ _ _ _ _ _)) ?_; clear hn h1))|((first|(apply kR;iterate 2 exact rfl)|(apply kQ;exact rfl));all_goals(intro hc;try simp only[hcs]at hc;try(exfalso;first|contradiction|omega))))
  apply LR.call
  · exact rfl
  intro w1 h1
  have h2 : St w NoF [rC bc br a3 c3 ol 0, .own bp (.cells (zPkt.cells zA).toArray 81 (0, 0)), osl (.slice a1 ol.length c1) 5 1 ol.length (bv ol), .own b2 (.cells (zPkt.cells zA).toArray 81 (0, 0)), rdA a (bv l)] w1 := St.join (x := codB bc none (some ⟨br, 0, none⟩) 0) h1 rfl rfl
  have h3 : St w NoF [rX bc br a3 c3 (ol, 0) bp (zPkt.cells zA) 81, osl (.slice a1 ol.length c1) 5 1 ol.length (bv ol), .own b2 (.cells (zPkt.cells zA).toArray 81 (0, 0)), rdA a (bv l)] w1 := St.join h2 rfl rfl
  refine CallsTo.mono (show CallsTo Try.prog 55 [.pointer (some ⟨bc, 0, none⟩), .pointer (some ⟨bp, 0, none⟩)] w1 _ from p55r bc br a3 c3 (ol, 0) bp w1 (h3.holds _ (mH _ _)) hob.1 (by have := hob.2; simp only; omega)) ?_
  rw [hp]
  rintro v w2 ⟨rfl, a4, c4, cs4, X, st, hXd, hXe, hl4, hg4⟩
  have h5 : St w NoF [codB bc none (some ⟨br, 0, none⟩) e2, rrA 173 [.bool true] br a4 c4 l2, .own bp (.cells cs4.toArray 81 (0, 0)), X, osl (.slice a1 ol.length c1) 5 1 ol.length (bv ol), .own b2 (.cells (zPkt.cells zA).toArray 81 (0, 0)), rdA a (bv l)] w2 := (((St.did h3 (Sel.head _ _ _) rfl st (both_dep (rX_dep _ _ _ _ _ _ _ _) hXd)).part (rX_dep _ _ _ _ _ _ _ _) hXd).part (rC_dep _ _ _ _ _ _) (Asrt.dep_own _ _)).part (Asrt.dep_own _ _) (rrA_dep _ _ _ _ _ _)
  refine LR.back h5 ?_
  clear h5 h3 h2 h1 st
  by_cases he : e2 = 0
  · subst he
    rw [if_neg (by simp)] at hr1
    obtain ⟨A, hcs, hX⟩ := hg4 rfl
    replace hcs : cs4 = p.cells A := hcs
    replace hX : ∀ w2, X.holds w2 → PktM w2 p A := hX
    subst hcs
    by_cases hll : 0 < l2.length
    · rw [if_pos (.inl hll)] at hr1
      subst hr1
      have hck : chkP p = chkP p := rfl
      repeat'(first|(apply CW.reg_sink 6 (St w NoF [codB bc none (some ⟨br, 0, none⟩) 4]); (· exact rfl); (· decide +kernel))|(apply kp;iterate 2 exact rfl)|apply jJ|(apply jE;exact rfl)|(apply jp;exact rfl)|(apply jc;kernel_rfl)|((first|apply kf|apply kn|apply ke|apply kx|apply kc|apply kb);iterate 2 exact rfl)|((first|apply kz|apply ky);(·exact rfl);(·repeat(first|exact iO|exact iR rfl|apply iT));iterate 2 exact rfl)|(apply kg;iterate 2 exact rfl)|(apply kG;iterate 3 exact rfl)|(apply kB;(iterate 2 exact rfl);intro _)|(apply kA;exact rfl;intro _)|(apply Go.Hb.kK;(iterate 4 exact rfl);intro _)|(apply kU;(iterate 2 exact rfl);(·repeat(first|exact sH _ _ _|apply sT));(first|exact nfL_eq rfl|exact rfl);exact rfl)|((first|apply kh|apply kl);(iterate 2 exact rfl);(first|decide|omega);exact rfl)|(apply kq; (· exact rfl); (· intro w1 h1; first | exact CallsTo.q (show CallsTo Try.prog 67 [.pointer (some ⟨br, 0, none⟩)] w1 _ from c68 br a4 c4 l2 w1 (h1.holds (rrA 173 [.bool true] br a4 c4 l2) (by (repeat (first | exact mH _ _ | apply mT))))) h1 | (have hq := CallsTo.q (p31 p A w1 ((hX w1 (h1.holds X (by (repeat (first | exact mH _ _ | apply mT))))).toR hpb (by omega) hpa hpe) hpi) h1; rw [hck] at hq; exact hq)))|((first|(apply kR;iterate 2 exact rfl)|(apply kQ;exact rfl));all_goals(intro hc;try simp only[hcs]at hc;try(exfalso;first|contradiction|omega))))
      all_goals
        all_goals (
          apply DW.quiet [0, 1, 2, 3, 4]
          · decide +kernel
          · first | exact fun _ h => h | exact fun _ h => St.sub h (by repeat (first | exact List.Sublist.refl _ | apply List.Sublist.cons_cons | apply List.Sublist.cons))
          repeat'(first|(apply yp;iterate 3 exact rfl)|(apply QL.ev;(·exact rfl);(·first|((first|apply Ez|apply Ey);(·exact rfl);(·repeat(first|exact iO|exact iR rfl|apply iT));exact rfl)|((first|apply Ev.fieldAddr|apply Ev.len|apply EqOf.eq|apply EqOf.ne|apply Ev.conv|apply Ev.buildN);exact rfl)|((first|apply Ev.shr|apply Ev.shl);(iterate 2 exact rfl);first|decide|omega));·exact rfl)|(apply yq;iterate 5 exact rfl)|(apply QL.evg;(iterate 3 exact rfl);(·first|((first|apply Ez|apply Ey);(·exact rfl);(·repeat(first|exact iO|exact iR rfl|apply iT));exact rfl)|((first|apply Ev.fieldAddr|apply Ev.len|apply EqOf.eq|apply EqOf.ne|apply Ev.conv|apply Ev.buildN);exact rfl)|((first|apply Ev.shr|apply Ev.shl);(iterate 2 exact rfl);first|decide|omega));·exact rfl)|(apply yn;iterate 4 exact rfl)|((apply QL.split;iterate 3 exact rfl);all_goals(intro hc;try simp only[hcs]at hc;try(exfalso;first|contradiction|omega)))|apply QL.nil)
          all_goals (show DW _ _ _ _ _ _ _ _))
        all_goals (
          apply DW.loud 5
          · exact rfl
          · decide +kernel
          repeat'(first|(apply kg;iterate 2 exact rfl)|(apply kG;iterate 3 exact rfl)|apply kM|(apply kp;iterate 2 exact rfl)|((first|apply kz|apply ky);(·exact rfl);(·repeat(first|exact iO|exact iR rfl|apply iT));iterate 2 exact rfl)|(apply Go.Hb.kK;(iterate 4 exact rfl);intro _)|(apply kU;(iterate 2 exact rfl);(·repeat(first|exact sH _ _ _|apply sT));(first|exact nfL_eq rfl|exact rfl);exact rfl)|(apply kB;(iterate 2 exact rfl);intro _)|(apply kA;exact rfl;intro _)|(apply addX;(iterate 2 exact rfl);(iterate 2(first|omega|(dsimp only;omega)));exact rfl))
          all_goals (refine At.stage_same (fun _ h => St.sub h (by repeat (first | exact List.Sublist.refl _ | apply List.Sublist.cons_cons | apply List.Sublist.cons))) ?_))
        all_goals (apply DW.done; (· decide +kernel))
        all_goals apply At.sink
        repeat'(first|(apply kp;iterate 2 exact rfl)|apply jJ|(apply jE;exact rfl)|(apply jp;exact rfl)|(apply jc;kernel_rfl)|((first|apply kf|apply kn|apply ke|apply kx|apply kc|apply kb);iterate 2 exact rfl)|((first|apply kz|apply ky);(·exact rfl);(·repeat(first|exact iO|exact iR rfl|apply iT));iterate 2 exact rfl)|(apply kg;iterate 2 exact rfl)|(apply kG;iterate 3 exact rfl)|(apply kB;(iterate 2 exact rfl);intro _)|(apply kA;exact rfl;intro _)|(apply Go.Hb.kK;(iterate 4 exact rfl);intro _)|(apply kU;(iterate 2 exact rfl);(·repeat(first|exact sH _ _ _|apply sT));(first|exact nfL_eq rfl|exact rfl);exact rfl)|((first|apply kh|apply kl);(iterate 2 exact rfl);(first|decide|omega);exact rfl)|((first|(apply kR;iterate 2 exact rfl)|(apply kQ;exact rfl));all_goals(intro hc;try simp only[hcs]at hc;try(exfalso;first|contradiction|omega))))
        (apply ret2c; (· exact rfl); (· exact inferInstance); (· exact rfl); (· (repeat (first | exact List.Mem.head _ | apply List.Mem.tail))); (· exact rfl); intro w' hS)
        exact unp_zero 4 hS
    cases hck : chkP p
    · rw [if_pos (.inr hck)] at hr1
      subst hr1
      repeat'(first|(apply CW.reg_sink 6 (St w NoF [codB bc none (some ⟨br, 0, none⟩) 4]); (· exact rfl); (· decide +kernel))|(apply kp;iterate 2 exact rfl)|apply jJ|(apply jE;exact rfl)|(apply jp;exact rfl)|(apply jc;kernel_rfl)|((first|apply kf|apply kn|apply ke|apply kx|apply kc|apply kb);iterate 2 exact rfl)|((first|apply kz|apply ky);(·exact rfl);(·repeat(first|exact iO|exact iR rfl|apply iT));iterate 2 exact rfl)|(apply kg;iterate 2 exact rfl)|(apply kG;iterate 3 exact rfl)|(apply kB;(iterate 2 exact rfl);intro _)|(apply kA;exact rfl;intro _)|(apply Go.Hb.kK;(iterate 4 exact rfl);intro _)|(apply kU;(iterate 2 exact rfl);(·repeat(first|exact sH _ _ _|apply sT));(first|exact nfL_eq rfl|exact rfl);exact rfl)|((first|apply kh|apply kl);(iterate 2 exact rfl);(first|decide|omega);exact rfl)|(apply kq; (· exact rfl); (· intro w1 h1; first | exact CallsTo.q (show CallsTo Try.prog 67 [.pointer (some ⟨br, 0, none⟩)] w1 _ from c68 br a4 c4 l2 w1 (h1.holds (rrA 173 [.bool true] br a4 c4 l2) (by (repeat (first | exact mH _ _ | apply mT))))) h1 | (have hq := CallsTo.q (p31 p A w1 ((hX w1 (h1.holds X (by (repeat (first | exact mH _ _ | apply mT))))).toR hpb (by omega) hpa hpe) hpi) h1; rw [hck] at hq; exact hq)))|((first|(apply kR;iterate 2 exact rfl)|(apply kQ;exact rfl));all_goals(intro hc;try simp only[hcs]at hc;try(exfalso;first|contradiction|omega))))
      all_goals
        all_goals (
          apply DW.quiet [0, 1, 2, 3, 4]
          · decide +kernel
          · first | exact fun _ h => h | exact fun _ h => St.sub h (by repeat (first | exact List.Sublist.refl _ | apply List.Sublist.cons_cons | apply List.Sublist.cons))
          repeat'(first|(apply yp;iterate 3 exact rfl)|(apply QL.ev;(·exact rfl);(·first|((first|apply Ez|apply Ey);(·exact rfl);(·repeat(first|exact iO|exact iR rfl|apply iT));exact rfl)|((first|apply Ev.fieldAddr|apply Ev.len|apply EqOf.eq|apply EqOf.ne|apply Ev.conv|apply Ev.buildN);exact rfl)|((first|apply Ev.shr|apply Ev.shl);(iterate 2 exact rfl);first|decide|omega));·exact rfl)|(apply yq;iterate 5 exact rfl)|(apply QL.evg;(iterate 3 exact rfl);(·first|((first|apply Ez|apply Ey);(·exact rfl);(·repeat(first|exact iO|exact iR rfl|apply iT));exact rfl)|((first|apply Ev.fieldAddr|apply Ev.len|apply EqOf.eq|apply EqOf.ne|apply Ev.conv|apply Ev.buildN);exact rfl)|((first|apply Ev.shr|apply Ev.shl);(iterate 2 exact rfl);first|decide|omega));·exact rfl)|(apply yn;iterate 4 exact rfl)|((apply QL.split;iterate 3 exact rfl);all_goals(intro hc;try simp only[hcs]at hc;try(exfalso;first|contradiction|omega)))|apply QL.nil)
          all_goals (show DW _ _ _ _ _ _ _ _))
        all_goals (
          apply DW.loud 5
          · exact rfl
          · decide +kernel
          repeat'(first|(apply kg;iterate 2 exact rfl)|(apply kG;iterate 3 exact rfl)|apply kM|(apply kp;iterate 2 exact rfl)|((first|apply kz|apply ky);(·exact rfl);(·repeat(first|exact iO|exact iR rfl|apply iT));iterate 2 exact rfl)|(apply Go.Hb.kK;(iterate 4 exact rfl);intro _)|(apply kU;(iterate 2 exact rfl);(·repeat(first|exact sH _ _ _|apply sT));(first|exact nfL_eq rfl|exact rfl);exact rfl)|(apply kB;(iterate 2 exact rfl);intro _)|(apply kA;exact rfl;intro _)|(apply addX;(iterate 2 exact rfl);(iterate 2(first|omega|(dsimp only;omega)));exact rfl))
          all_goals (refine At.stage_same (fun _ h => St.sub h (by repeat (first | exact List.Sublist.refl _ | apply List.Sublist.cons_cons | apply List.Sublist.cons))) ?_))
        all_goals (apply DW.done; (· decide +kernel))
        all_goals apply At.sink
        repeat'(first|(apply kp;iterate 2 exact rfl)|apply jJ|(apply jE;exact rfl)|(apply jp;exact rfl)|(apply jc;kernel_rfl)|((first|apply kf|apply kn|apply ke|apply kx|apply kc|apply kb);iterate 2 exact rfl)|((first|apply kz|apply ky);(·exact rfl);(·repeat(first|exact iO|exact iR rfl|apply iT));iterate 2 exact rfl)|(apply kg;iterate 2 exact rfl)|(apply kG;iterate 3 exact rfl)|(apply kB;(iterate 2 exact rfl);intro _)|(apply kA;exact rfl;intro _)|(apply Go.Hb.kK;(iterate 4 exact rfl);intro _)|(apply kU;(iterate 2 exact rfl);(·repeat(first|exact sH _ _ _|apply sT));(first|exact nfL_eq rfl|exact rfl);exact rfl)|((first|apply kh|apply kl);(iterate 2 exact rfl);(first|decide|omega);exact rfl)|((first|(apply kR;iterate 2 exact rfl)|(apply kQ;exact rfl));all_goals(intro hc;try simp only[hcs]at hc;try(exfalso;first|contradiction|omega))))
        (apply ret2c; (· exact rfl); (· exact inferInstance); (· exact rfl); (· (repeat (first | exact List.Mem.head _ | apply List.Mem.tail))); (· exact rfl); intro w' hS)
        exact unp_zero 4 hS
    · rw [if_neg (by rw [hck]; simpa using hll)] at hr1
      subst hr1
      repeat'(first|(apply kp;iterate 2 exact rfl)|apply jJ|(apply jE;exact rfl)|(apply jp;exact rfl)|(apply jc;kernel_rfl)|((first|apply kf|apply kn|apply ke|apply kx|apply kc|apply kb);iterate 2 exact rfl)|((first|apply kz|apply ky);(·exact rfl);(·repeat(first|exact iO|exact iR rfl|apply iT));iterate 2 exact rfl)|(apply kg;iterate 2 exact rfl)|(apply kG;iterate 3 exact rfl)|(apply kB;(iterate 2 exact rfl);intro _)|(apply kA;exact rfl;intro _)|(apply Go.Hb.kK;(iterate 4 exact rfl);intro _)|(apply kU;(iterate 2 exact rfl);(·repeat(first|exact sH _ _ _|apply sT));(first|exact nfL_eq rfl|exact rfl);exact rfl)|((first|apply kh|apply kl);(iterate 2 exact rfl);(first|decide|omega);exact rfl)|(apply kq; (· exact rfl); (· intro w1 h1; first | exact CallsTo.q (show CallsTo Try.prog 67 [.pointer (some ⟨br, 0, none⟩)] w1 _ from c68 br a4 c4 l2 w1 (h1.holds (rrA 173 [.bool true] br a4 c4 l2) (by (repeat (first | exact mH _ _ | apply mT))))) h1 | (have hq := CallsTo.q (p31 p A w1 ((hX w1 (h1.holds X (by (repeat (first | exact mH _ _ | apply mT))))).toR hpb (by omega) hpa hpe) hpi) h1; rw [hck] at hq; exact hq)))|((first|(apply kR;iterate 2 exact rfl)|(apply kQ;exact rfl));all_goals(intro hc;try simp only[hcs]at hc;try(exfalso;first|contradiction|omega))))
      (apply ret2c; (· exact rfl); (· exact inferInstance); (· exact rfl); (· (repeat (first | exact List.Mem.head _ | apply List.Mem.tail))); (· exact rfl); intro w' hS)
      exact ⟨A, X, rfl, (front hS 3 rfl rfl).new1 hXe, hXd, hXe, hX⟩
  · rw [if_pos he] at hr1
    subst hr1
    repeat'(first|(apply CW.reg_sink 6 (St w NoF [codB bc none (some ⟨br, 0, none⟩) e2]); (· exact rfl); (· decide +kernel))|(apply kp;iterate 2 exact rfl)|apply jJ|(apply jE;exact rfl)|(apply jp;exact rfl)|(apply jc;kernel_rfl)|((first|apply kf|apply kn|apply ke|apply kx|apply kc|apply kb);iterate 2 exact rfl)|((first|apply kz|apply ky);(·exact rfl);(·repeat(first|exact iO|exact iR rfl|apply iT));iterate 2 exact rfl)|(apply kg;iterate 2 exact rfl)|(apply kG;iterate 3 exact rfl)|(apply kB;(iterate 2 exact rfl);intro _)|(apply kA;exact rfl;intro _)|(apply Go.Hb.kK;(iterate 4 exact rfl);intro _)|(apply kU;(iterate 2 exact rfl);(·repeat(first|exact sH _ _ _|apply sT));(first|exact nfL_eq rfl|exact rfl);exact rfl)|((first|apply kh|apply kl);(iterate 2 exact rfl);(first|decide|omega);exact rfl)|((first|(apply kR;iterate 2 exact rfl)|(apply kQ;exact rfl));all_goals(intro hc;try simp only[hcs]at hc;try(exfalso;first|contradiction|omega))))
    all_goals
      all_goals (
        apply DW.quiet [0, 1, 2, 3, 4]
        · decide +kernel
        · first | exact fun _ h => h | exact fun _ h => St.sub h (by repeat (first | exact List.Sublist.refl _ | apply List.Sublist.cons_cons | apply List.Sublist.cons))
        repeat'(first|(apply yp;iterate 3 exact rfl)|(apply QL.ev;(·exact rfl);(·first|((first|apply Ez|apply Ey);(·exact rfl);(·repeat(first|exact iO|exact iR rfl|apply iT));exact rfl)|((first|apply Ev.fieldAddr|apply Ev.len|apply EqOf.eq|apply EqOf.ne|apply Ev.conv|apply Ev.buildN);exact rfl)|((first|apply Ev.shr|apply Ev.shl);(iterate 2 exact rfl);first|decide|omega));·exact rfl)|(apply yq;iterate 5 exact rfl)|(apply QL.evg;(iterate 3 exact rfl);(·first|((first|apply Ez|apply Ey);(·exact rfl);(·repeat(first|exact iO|exact iR rfl|apply iT));exact rfl)|((first|apply Ev.fieldAddr|apply Ev.len|apply EqOf.eq|apply EqOf.ne|apply Ev.conv|apply Ev.buildN);exact rfl)|((first|apply Ev.shr|apply Ev.shl);(iterate 2 exact rfl);first|decide|omega));·exact rfl)|(apply yn;iterate 4 exact rfl)|((apply QL.split;iterate 3 exact rfl);all_goals(intro hc;try simp only[hcs]at hc;try(exfalso;first|contradiction|omega)))|apply QL.nil)
        all_goals (show DW _ _ _ _ _ _ _ _))
      all_goals (
        apply DW.loud 5
        · exact rfl
        · decide +kernel
        repeat'(first|(apply kg;iterate 2 exact rfl)|(apply kG;iterate 3 exact rfl)|apply kM|(apply kp;iterate 2 exact rfl)|((first|apply kz|apply ky);(·exact rfl);(·repeat(first|exact iO|exact iR rfl|apply iT));iterate 2 exact rfl)|(apply Go.Hb.kK;(iterate 4 exact rfl);intro _)|(apply kU;(iterate 2 exact rfl);(·repeat(first|exact sH _ _ _|apply sT));(first|exact nfL_eq rfl|exact rfl);exact rfl)|(apply kB;(iterate 2 exact rfl);intro _)|(apply kA;exact rfl;intro _)|(apply addX;(iterate 2 exact rfl);(iterate 2(first|omega|(dsimp only;omega)));exact rfl))
        all_goals (refine At.stage_same (fun _ h => St.sub h (by repeat (first | exact List.Sublist.refl _ | apply List.Sublist.cons_cons | apply List.Sublist.cons))) ?_))
      all_goals (apply DW.done; (· decide +kernel))
      all_goals apply At.sink
      repeat'(first|(apply kp;iterate 2 exact rfl)|apply jJ|(apply jE;exact rfl)|(apply jp;exact rfl)|(apply jc;kernel_rfl)|((first|apply kf|apply kn|apply ke|apply kx|apply kc|apply kb);iterate 2 exact rfl)|((first|apply kz|apply ky);(·exact rfl);(·repeat(first|exact iO|exact iR rfl|apply iT));iterate 2 exact rfl)|(apply kg;iterate 2 exact rfl)|(apply kG;iterate 3 exact rfl)|(apply kB;(iterate 2 exact rfl);intro _)|(apply kA;exact rfl;intro _)|(apply Go.Hb.kK;(iterate 4 exact rfl);intro _)|(apply kU;(iterate 2 exact rfl);(·repeat(first|exact sH _ _ _|apply sT));(first|exact nfL_eq rfl|exact rfl);exact rfl)|((first|apply kh|apply kl);(iterate 2 exact rfl);(first|decide|omega);exact rfl)|((first|(apply kR;iterate 2 exact rfl)|(apply kQ;exact rfl));all_goals(intro hc;try simp only[hcs]at hc;try(exfalso;first|contradiction|omega))))
      (apply ret2c; (· exact rfl); (· exact inferInstance); (· exact rfl); (· (repeat (first | exact List.Mem.head _ | apply List.Mem.tail))); (· exact rfl); intro w' hS)
      exact unp_zero e2 hS
end Go.Proofs.Ytkolmkdbjagfcaa

namespace Go.Proofs.Ytkolmkdbjagfcaa
open Go.Hb
set_option linter.unusedSimpArgs false
set_option linter.unusedVariables false
set_option maxRecDepth 100000

theorem encs_cons (x : Int) (xs : List Int) : encs (x :: xs) = enc x.toNat ++ encs xs := rfl
theorem encs_nil : encs [] = [] := rfl
theorem getS_enc {x : Int} {r : List Int} (h : okN x) : getS (enc x.toNat ++ r, 0) = (x, (r, 0)) := by
  unfold okN at h
  have hd := dec_enc x.toNat (by omega) r
  unfold getS
  simp only
  rw [if_neg (by simp), hd]
  simp only [List.drop_left]
  rw [show ((x.toNat : Nat) : Int) = x by omega]
theorem gV_enc {x : Int} {r : List Int} (h : okN x) : gV (enc x.toNat ++ r, 0) = x := by unfold gV; rw [getS_enc h]
theorem gT_enc {x : Int} {r : List Int} (h : okN x) : gT (enc x.toNat ++ r, 0) = (r, 0) := by unfold gT; rw [getS_enc h]
theorem rdL_cons {α : Type} (f : RS → α × RS) : ∀ (k : Nat) (s : RS), rdL f (k + 1) s = ((f s).1 :: (rdL f k (f s).2).1, (rdL f k (f s).2).2)
  | 0, s => rfl
  | k + 1, s => by
    have ih := rdL_cons f k s
    rw [rdL, ih]
    rfl
theorem getE_enc {e : Ent} {r : List Int} (h : ∀ x ∈ e.nums, okN x) : getE (encs e.nums ++ r, 0) = (e, (r, 0)) := by
  obtain ⟨a, b, c, d, e, f⟩ := e
  have h1 : okN a := h a (by simp [Ent.nums])
  have h2 : okN b := h b (by simp [Ent.nums])
  have h3 : okN c := h c (by simp [Ent.nums])
  have h4 : okN d := h d (by simp [Ent.nums])
  have h5 : okN e := h e (by simp [Ent.nums])
  have h6 : okN f := h f (by simp [Ent.nums])
  unfold getE
  simp only [Ent.nums, encs_cons, encs_nil, List.append_assoc, List.nil_append, getS_enc h1, getS_enc h2, getS_enc h3, getS_enc h4, getS_enc h5, getS_enc h6]
theorem rdL_code {α : Type} {f : RS → α × RS} {code : α → List Int} {P : α → Prop} (hf : ∀ x r, P x → f (code x ++ r, 0) = (x, (r, 0))) : ∀ (l : List α) (r : List Int), (∀ x ∈ l, P x) → rdL f l.length (l.flatMap code ++ r, 0) = (l, (r, 0))
  | [], r, _ => rfl
  | x :: l, r, h => by
    rw [List.length_cons, rdL_cons, List.flatMap_cons, List.append_assoc, hf x _ (h x (by simp))]
    simp only
    rw [rdL_code hf l r fun y hy => h y (by simp [hy])]
theorem lstR_code {α : Type} {f : RS → α × RS} {code : α → List Int} {P : α → Prop} (hf : ∀ x r, P x → f (code x ++ r, 0) = (x, (r, 0))) {most : Int} {l : List α} (r : List Int) (h : ∀ x ∈ l, P x) (hl : (l.length : Int) ≤ most) (hm : most ≤ 100) : lstR f most (enc l.length ++ (l.flatMap code ++ r), 0) = (l, (r, 0)) := by
  have hg : getS (enc l.length ++ (l.flatMap code ++ r), 0) = ((l.length : Int), (l.flatMap code ++ r, 0)) := by
    have := @getS_enc (l.length : Int) (l.flatMap code ++ r) (by unfold okN; omega)
    rw [Int.toNat_natCast] at this
    exact this
  unfold lstR
  rw [hg]
  simp only
  rw [if_neg (by simp), if_neg (by omega), Int.toNat_natCast]
  exact rdL_code hf l r h
theorem msgR_code {m : Msg} (h : check m = 0) (r : List Int) : msgR (enc (bytesM m).length ++ (bytesM m ++ r), 0) = (m, (r, 0)) := by
  have h1 := bytesM_len m
  have h2 := (check_ok h).1
  have h3 : octs 512 (enc (bytesM m).length ++ (bytesM m ++ r)) = (bytesM m, 0, r) := by
    rw [← List.append_assoc]
    exact octs_enc (by omega) (by omega)
  unfold msgR
  simp only
  rw [if_neg (by simp), h3]
  simp only
  rw [if_neg (by simp), unpack_bytes h]
theorem encs_flat (l : List Int) : encs l = l.flatMap fun x => encs [x] := by
  induction l with
  | nil => rfl
  | cons x l ih => rw [List.flatMap_cons, ← ih]; rw [encs_cons, encs_cons, encs_nil, List.append_nil]
theorem encs_ents : ∀ (l : List Ent), encs (l.flatMap Ent.nums) = l.flatMap fun e => encs e.nums
  | [] => rfl
  | e :: l => by rw [List.flatMap_cons, List.flatMap_cons, encs_app, encs_ents l]
theorem int1 : ∀ (x : Int) (r : List Int), okN x → getS (encs [x] ++ r, 0) = (x, (r, 0)) := fun x r h => by
  rw [encs_cons, encs_nil, List.append_nil]
  exact getS_enc h
/-! ### what is zero -/
theorem data_zero {d : Dat} (h : dataS d = false) : d = zeroDat := by
  obtain ⟨a, b, c, e, f, ⟨x1, x2, x3, x4, x5, x6, x7, x8, x9, x10, x11, x12, x13⟩⟩ := d
  simp only [dataS, Bool.or_eq_false_iff, Bool.not_eq_false', decide_eq_true_eq, decide_eq_false_iff_not, List.cons.injEq, and_true] at h
  have hb : x13 = [] := List.eq_nil_of_length_eq_zero (by omega)
  simp only [zeroDat, zeroMsg]
  simp_all
theorem tok_zero {t : Tkn} (h : tokS t = false) : t = zTkn := by
  obtain ⟨a, b, c, e, f, g, i, j, k⟩ := t
  simp only [tokS, Bool.or_eq_false_iff, Bool.not_eq_false', decide_eq_true_eq, decide_eq_false_iff_not, List.cons.injEq, and_true] at h
  have hb : k = [] := List.eq_nil_of_length_eq_zero (by omega)
  simp only [zTkn]
  simp_all
theorem shape_of {p : Pkt} {a b c d e : Bool} (h : shapeB p = [a, b, c, d, e]) : dataS p.d = a ∧ tokS p.t = b ∧ joinS p = c ∧ comS p.c = d ∧ beaS p = e := by
  simpa [shapeB] using h
theorem join_zero {p : Pkt} (h : joinS p = false) : p.j1 = 0 ∧ p.j2 = 0 ∧ p.j3 = 0 := by
  simpa [joinS] using h
theorem bea_zero {p : Pkt} (h : beaS p = false) : p.b1 = 0 ∧ p.b2 = 0 ∧ p.b3 = 0 := by
  simpa [beaS] using h
theorem com_zero {x : Cmt} (h : comS x = false) : x = zCmt := by
  obtain ⟨a, b, c, d, e⟩ := x
  simp only [comS, Bool.or_eq_false_iff, Bool.not_eq_false', decide_eq_true_eq, decide_eq_false_iff_not, List.cons.injEq, and_true] at h
  have hb : e = [] := List.eq_nil_of_length_eq_zero (by omega)
  simp only [zCmt]
  simp_all
theorem parse_body {p : Pkt} (h : chkP p = true) : parseP (bodyP p, 0) = (p, ([], 0)) := by
  obtain ⟨hm, hs⟩ := chk_may h
  obtain ⟨ok1, ok2, hr, hn⟩ := may_num hm
  have e0 : (bodyP p, (0 : Int)) = (enc p.kind.toNat ++ (enc p.to.toNat ++ (encs (numsP p) ++ tailP p)), 0) := by
    unfold bodyP
    simp only [encs_cons, encs_nil, List.append_assoc, List.nil_append]
  unfold parseP
  rw [e0, gV_enc ok1, gT_enc ok1]
  have e1 : startS p.kind (enc p.to.toNat ++ (encs (numsP p) ++ tailP p), 0) = (enc p.to.toNat ++ (encs (numsP p) ++ tailP p), 0) := by
    unfold startS
    rw [if_neg (by simp only; omega)]
  rw [e1, gV_enc ok2, gT_enc ok2]
  unfold numsP at hn ⊢
  unfold tailP parseK
  rcases may_kinds hm with hk | hk | hk | hk | hk
  · simp only [hk] at hn hs ⊢
    simp only [reduceIte, List.mem_cons, List.not_mem_nil, or_false, forall_eq_or_imp, forall_eq] at hn ⊢
    obtain ⟨n1, n2, n3, n4, n5⟩ := hn
    obtain ⟨z1, z2, z3, z4, z5⟩ := shape_of (show shapeB p = [true, false, false, false, false] from hs)
    have hc := may_msg hm hk
    have em := msgR_code hc []
    rw [List.append_nil] at em
    have y2 := tok_zero z2
    have y3 := join_zero z3
    have y4 := com_zero z4
    have y5 := bea_zero z5
    simp only [encs_cons, encs_nil, List.append_assoc, List.nil_append, gV_enc n1, gV_enc n2, gV_enc n3, gV_enc n4, gV_enc n5, gT_enc n1, gT_enc n2, gT_enc n3, gT_enc n4, gT_enc n5, em]
    obtain ⟨kind, to, d, t, j1, j2, j3, c, b1, b2, b3⟩ := p
    simp only at *
    simp_all [zPkt]
  · simp only [hk] at hn hs ⊢
    simp (config := { decide := true }) only [reduceIte, List.mem_cons, List.not_mem_nil, or_false, forall_eq_or_imp, forall_eq] at hn ⊢
    obtain ⟨n1, n2, n3, n4, n5, n6, n7, n8⟩ := hn
    obtain ⟨z1, z2, z3, z4, z5⟩ := shape_of (show shapeB p = [false, true, false, false, false] from hs)
    have hc := may_ask hm hk
    have em := lstR_code (most := 16) (P := okN) int1 [] hc.2 (by omega) (by decide)
    rw [List.append_nil, ← encs_flat] at em
    have y1 := data_zero z1
    have y3 := join_zero z3
    have y4 := com_zero z4
    have y5 := bea_zero z5
    simp only [encs_cons, encs_nil, List.append_assoc, List.nil_append, gV_enc n1, gT_enc n1, gV_enc n2, gT_enc n2, gV_enc n3, gT_enc n3, gV_enc n4, gT_enc n4, gV_enc n5, gT_enc n5, gV_enc n6, gT_enc n6, gV_enc n7, gT_enc n7, gV_enc n8, gT_enc n8, em]
    obtain ⟨kind, to, d, t, j1, j2, j3, c, b1, b2, b3⟩ := p
    simp only at *
    simp_all [zPkt]
  · simp only [hk] at hn hs ⊢
    simp (config := { decide := true }) only [reduceIte, List.mem_cons, List.not_mem_nil, or_false, forall_eq_or_imp, forall_eq] at hn ⊢
    obtain ⟨n1, n2, n3⟩ := hn
    obtain ⟨z1, z2, z3, z4, z5⟩ := shape_of (show shapeB p = [false, false, true, false, false] from hs)
    have y1 := data_zero z1
    have y2 := tok_zero z2
    have y4 := com_zero z4
    have y5 := bea_zero z5
    simp only [encs_cons, encs_nil, List.append_assoc, List.nil_append, gV_enc n1, gT_enc n1, gV_enc n2, gT_enc n2, gV_enc n3, gT_enc n3]
    obtain ⟨kind, to, d, t, j1, j2, j3, c, b1, b2, b3⟩ := p
    simp only at *
    simp_all [zPkt]
  · simp only [hk] at hn hs ⊢
    simp (config := { decide := true }) only [reduceIte, List.mem_cons, List.not_mem_nil, or_false, forall_eq_or_imp, forall_eq] at hn ⊢
    obtain ⟨n1, n2, n3, n4⟩ := hn
    obtain ⟨z1, z2, z3, z4, z5⟩ := shape_of (show shapeB p = [false, false, false, true, false] from hs)
    have hc := may_ents hm hk
    have em := lstR_code (most := 8) (code := fun e : Ent => encs e.nums) (P := fun e : Ent => ∀ x ∈ e.nums, okN x) (l := p.c.ents) (fun e r h => getE_enc h) [] hc.2 (by omega) (by decide)
    rw [List.append_nil, ← encs_ents] at em
    have y1 := data_zero z1
    have y2 := tok_zero z2
    have y3 := join_zero z3
    have y5 := bea_zero z5
    simp only [encs_cons, encs_nil, List.append_assoc, List.nil_append, gV_enc n1, gT_enc n1, gV_enc n2, gT_enc n2, gV_enc n3, gT_enc n3, gV_enc n4, gT_enc n4, em]
    obtain ⟨kind, to, d, t, j1, j2, j3, c, b1, b2, b3⟩ := p
    simp only at *
    simp_all [zPkt]
  · simp only [hk] at hn hs ⊢
    simp (config := { decide := true }) only [reduceIte, List.mem_cons, List.not_mem_nil, or_false, forall_eq_or_imp, forall_eq] at hn ⊢
    obtain ⟨n1, n2, n3⟩ := hn
    obtain ⟨z1, z2, z3, z4, z5⟩ := shape_of (show shapeB p = [false, false, false, false, true] from hs)
    have y1 := data_zero z1
    have y2 := tok_zero z2
    have y3 := join_zero z3
    have y4 := com_zero z4
    simp only [encs_cons, encs_nil, List.append_assoc, List.nil_append, gV_enc n1, gT_enc n1, gV_enc n2, gT_enc n2, gV_enc n3, gT_enc n3]
    obtain ⟨kind, to, d, t, j1, j2, j3, c, b1, b2, b3⟩ := p
    simp only at *
    simp_all [zPkt]
end Go.Proofs.Ytkolmkdbjagfcaa

namespace Go.Proofs.Ytkolmkdbjagfcaa
open Go.Hb
set_option linter.unusedSimpArgs false
set_option linter.unusedVariables false
set_option maxRecDepth 100000

theorem encs_len8 : ∀ (xs : List Int), (∀ x ∈ xs, okN x) → (encs xs).length ≤ 8 * xs.length
  | [], _ => by simp [encs_nil]
  | x :: xs, h => by
    rw [encs_cons, List.length_append, List.length_cons]
    have h1 := h x (by simp)
    have h2 : (enc x.toNat).length ≤ 8 := enc_len8 (by unfold okN at h1; omega)
    have h3 := encs_len8 xs fun y hy => h y (by simp [hy])
    omega
theorem body_508 {p : Pkt} (h : mayP p = true) : (bodyP p).length ≤ 508 := by
  obtain ⟨ok1, ok2, hr, hn⟩ := may_num h
  unfold bodyP
  simp only [List.length_append]
  have h1 := encs_len8 [p.kind, p.to] (fun x hx => by simp only [List.mem_cons, List.not_mem_nil, or_false] at hx; rcases hx with rfl | rfl; (· exact ok1); (· exact ok2))
  have h2 := encs_len8 (numsP p) hn
  simp only [List.length_cons, List.length_nil] at h1
  rcases may_kinds h with k | k | k | k | k
  · have h3 : (numsP p).length = 5 := by unfold numsP; simp [k]
    have h4 : (tailP p).length ≤ 290 := by
      unfold tailP
      rw [if_pos k, List.length_append]
      have h4 := bytesM_len p.d.msg
      have h5 := (check_ok (may_msg h k)).1
      have h6 : (enc (bytesM p.d.msg).length).length ≤ 2 := enc_len2 (by omega)
      omega
    omega
  · have h3 : (numsP p).length = 8 := by unfold numsP; simp [k]
    have h4 : (tailP p).length ≤ 140 := by
      unfold tailP
      rw [if_neg (by omega), if_pos k, List.length_append]
      have h4 := may_ask h k
      have h5 := encs_len8 p.t.ask h4.2
      have h6 : (enc p.t.ask.length).length ≤ 2 := enc_len2 (by omega)
      omega
    omega
  · have h3 : (numsP p).length = 3 := by unfold numsP; simp [k]
    have h4 : (tailP p).length = 0 := by unfold tailP; simp [k]
    omega
  · have h3 : (numsP p).length = 4 := by unfold numsP; simp [k]
    have h4 : (tailP p).length ≤ 390 := by
      unfold tailP
      rw [if_neg (by omega), if_neg (by omega), if_pos k, List.length_append]
      have h4 := may_ents h k
      have h5 := encs_len8 (p.c.ents.flatMap Ent.nums) (fun x hx => by
        obtain ⟨e, he, hx⟩ := List.mem_flatMap.1 hx
        exact h4.2 e he x hx)
      rw [encsF_len] at h5
      have h6 : (enc p.c.ents.length).length ≤ 2 := enc_len2 (by omega)
      omega
    omega
  · have h3 : (numsP p).length = 3 := by unfold numsP; simp [k]
    have h4 : (tailP p).length = 0 := by unfold tailP; simp [k]
    omega
/-- What is packed is unpacked again. -/
theorem unpack_pack {p : Pkt} (h : chkP p = true) : unpackP (sealL (bodyP p)) = (p, 0) ∧ (sealL (bodyP p)).length ≤ 512 := by
  have hl := body_508 (chk_may h).1
  refine ⟨?_, by rw [sealL_len]; omega⟩
  unfold unpackP
  rw [if_neg (by rw [sealL_len]; omega), open_seal]
  simp only
  rw [if_neg (by simp), parse_body h]
  simp only
  rw [if_neg (by simp), if_neg (by simp [h])]
/-! ### one form only -/
theorem getS_canon {s : RS} (hB : Byt s.1) (h : (getS s).2.2 = 0) : s.2 = 0 ∧ s.1 = enc (getS s).1.toNat ++ (getS s).2.1 := by
  by_cases he : s.2 = 0
  · refine ⟨he, ?_⟩
    rw [getS_ok he] at h ⊢
    simp only at h ⊢
    obtain ⟨r, h1, h2, h3⟩ := dec_canon hB h
    rw [h2, Int.toNat_natCast]
    generalize (dec s.1).1 = n at h1 h2
    rw [h1, List.drop_left]
  · rw [getS_err he] at h
    exact absurd h he
theorem gT_canon {s : RS} (hB : Byt s.1) (h : (gT s).2 = 0) : s.2 = 0 ∧ s.1 = enc (gV s).toNat ++ (gT s).1 := getS_canon hB h
theorem getE_canon {s : RS} (hB : Byt s.1) (h : (getE s).2.2 = 0) : s.2 = 0 ∧ s.1 = encs (getE s).1.nums ++ (getE s).2.1 := by
  have b1 := gT_byt hB
  have b2 := gT_byt b1
  have b3 := gT_byt b2
  have b4 := gT_byt b3
  have b5 := gT_byt b4
  have c6 := gT_canon b5 (show (gT (gT (gT (gT (gT (gT s)))))).2 = 0 from h)
  have c5 := gT_canon b4 c6.1
  have c4 := gT_canon b3 c5.1
  have c3 := gT_canon b2 c4.1
  have c2 := gT_canon b1 c3.1
  have c1 := gT_canon hB c2.1
  refine ⟨c1.1, ?_⟩
  show s.1 = encs [gV s, gV (gT s), gV (gT (gT s)), gV (gT (gT (gT s))), gV (gT (gT (gT (gT s)))), gV (gT (gT (gT (gT (gT s)))))] ++ (gT (gT (gT (gT (gT (gT s)))))).1
  simp only [encs_cons, encs_nil, List.append_assoc, List.nil_append]
  rw [← c6.2, ← c5.2, ← c4.2, ← c3.2, ← c2.2, ← c1.2]
theorem rdL_canon {α : Type} {f : RS → α × RS} {code : α → List Int} (hb : ∀ s, Byt s.1 → Byt (f s).2.1) (hf : ∀ s, Byt s.1 → (f s).2.2 = 0 → s.2 = 0 ∧ s.1 = code (f s).1 ++ (f s).2.1) : ∀ (k : Nat) (s : RS), Byt s.1 → (rdL f k s).2.2 = 0 → s.2 = 0 ∧ s.1 = (rdL f k s).1.flatMap code ++ (rdL f k s).2.1
  | 0, s, _, h => ⟨h, rfl⟩
  | k + 1, s, hB, h => by
    rw [rdL_cons] at h ⊢
    simp only at h ⊢
    have ih := rdL_canon hb hf k (f s).2 (hb s hB) h
    have h1 := hf s hB ih.1
    refine ⟨h1.1, ?_⟩
    rw [List.flatMap_cons, List.append_assoc, ← ih.2, ← h1.2]
theorem lstR_canon {α : Type} {f : RS → α × RS} {code : α → List Int} {most : Int} (hb : ∀ s, Byt s.1 → Byt (f s).2.1) (hf : ∀ s, Byt s.1 → (f s).2.2 = 0 → s.2 = 0 ∧ s.1 = code (f s).1 ++ (f s).2.1) {s : RS} (hB : Byt s.1) (h : (lstR f most s).2.2 = 0) : s.2 = 0 ∧ s.1 = enc (lstR f most s).1.length ++ ((lstR f most s).1.flatMap code ++ (lstR f most s).2.1) := by
  unfold lstR at h ⊢
  by_cases h1 : (getS s).2.2 ≠ 0
  · rw [if_pos h1] at h
    exact absurd h h1
  rw [if_neg h1] at h ⊢
  have h1 : (getS s).2.2 = 0 := by simpa using h1
  by_cases h2 : most < (getS s).1
  · rw [if_pos h2] at h
    cases h
  rw [if_neg h2] at h ⊢
  have h3 := getS_canon hB h1
  have h4 := rdL_canon hb hf (getS s).1.toNat (getS s).2 (getS_byt hB) h
  refine ⟨h3.1, ?_⟩
  rw [rdL_len, ← h4.2, ← h3.2]
theorem msgR_canon {s : RS} (hB : Byt s.1) (h : (msgR s).2.2 = 0) : s.2 = 0 ∧ s.1 = enc (bytesM (msgR s).1).length ++ (bytesM (msgR s).1 ++ (msgR s).2.1) := by
  unfold msgR at h ⊢
  by_cases h1 : s.2 ≠ 0
  · rw [if_pos h1] at h
    exact absurd h h1
  rw [if_neg h1] at h ⊢
  by_cases h2 : (octs 512 s.1).2.1 ≠ 0
  · rw [if_pos h2] at h
    exact absurd h h2
  rw [if_neg h2] at h ⊢
  have h2 : (octs 512 s.1).2.1 = 0 := by simpa using h2
  have h3 := octs_canon hB h2
  have h4 := octs_facts h2
  have h5 := unpack_canon (l := (octs 512 s.1).1) (fun x hx => hB x (h4.2 x hx)) h
  refine ⟨by simpa using h1, ?_⟩
  simp only
  rw [h5.2, ← List.append_assoc]
  exact h3.1
theorem parse_canon {b : List Int} {p : Pkt} (hB : Byt b) (h : parseP (b, 0) = (p, ([], 0))) (hc : chkP p = true) : bodyP p = b := by
  have hm := (chk_may hc).1
  have hr := (may_num hm).2.2.1
  unfold parseP at h
  obtain ⟨k, hk⟩ : ∃ k, gV (b, 0) = k := ⟨_, rfl⟩
  obtain ⟨s1, hs1⟩ : ∃ r, startS k (gT (b, 0)) = r := ⟨_, rfl⟩
  obtain ⟨tt, htt⟩ : ∃ k, gV s1 = k := ⟨_, rfl⟩
  obtain ⟨u, hu⟩ : ∃ r, gT s1 = r := ⟨_, rfl⟩
  rw [hk, hs1, htt, hu] at h
  have hBg : Byt (gT (b, 0)).1 := gT_byt hB
  have hs : startS k (gT (b, 0)) = gT (b, 0) ∨ (startS k (gT (b, 0))).2 ≠ 0 := by
    unfold startS
    split
    · exact .inr (by simp)
    · exact .inl rfl
  have hBs : Byt s1.1 := by
    rw [← hs1]
    unfold startS
    split <;> exact hBg
  have hBu : Byt u.1 := by rw [← hu]; exact gT_byt hBs
  have head : u.2 = 0 → b = enc k.toNat ++ (enc tt.toNat ++ u.1) := by
    intro h0
    rw [← hu] at h0 ⊢
    have c1 := gT_canon hBs h0
    rw [htt] at c1
    rcases hs with h1 | h1
    · rw [hs1] at h1
      rw [h1] at c1
      have c0 := gT_canon (s := (b, 0)) hB c1.1
      rw [hk] at c0
      rw [h1, ← c1.2]
      exact c0.2
    · rw [hs1] at h1
      exact absurd c1.1 h1
  have hbody : bodyP p = enc p.kind.toNat ++ (enc p.to.toNat ++ (encs (numsP p) ++ tailP p)) := by
    unfold bodyP
    simp only [encs_cons, encs_nil, List.append_assoc, List.nil_append]
  have B1 := gT_byt hBu
  have B2 := gT_byt B1
  have B3 := gT_byt B2
  have B4 := gT_byt B3
  have B5 := gT_byt B4
  have B6 := gT_byt B5
  have B7 := gT_byt B6
  have B8 := gT_byt B7
  unfold parseK at h
  rw [hbody]
  by_cases k1 : k = 1
  · rw [if_pos k1] at h
    obtain ⟨h1, h2⟩ := Prod.mk.inj h
    have m := msgR_canon B5 (by rw [h2])
    rw [h2, List.append_nil] at m
    have c4 := gT_canon B4 m.1
    have c3 := gT_canon B3 c4.1
    have c2 := gT_canon B2 c3.1
    have c1 := gT_canon B1 c2.1
    have c0 := gT_canon hBu c1.1
    rw [head c0.1, c0.2, c1.2, c2.2, c3.2, c4.2, m.2]
    subst h1
    unfold numsP tailP
    simp only [k1, reduceIte, encs_cons, encs_nil, List.append_assoc, List.nil_append]
  rw [if_neg k1] at h
  by_cases k2 : k = 2
  · rw [if_pos k2] at h
    obtain ⟨h1, h2⟩ := Prod.mk.inj h
    have m := lstR_canon (most := 16) (code := fun x => encs [x]) (fun s => getS_byt) (fun s hB h => by (have := getS_canon hB h); rw [encs_cons, encs_nil, List.append_nil]; exact this) B8 (by rw [h2])
    rw [h2, List.append_nil, ← encs_flat] at m
    have c7 := gT_canon B7 m.1
    have c6 := gT_canon B6 c7.1
    have c5 := gT_canon B5 c6.1
    have c4 := gT_canon B4 c5.1
    have c3 := gT_canon B3 c4.1
    have c2 := gT_canon B2 c3.1
    have c1 := gT_canon B1 c2.1
    have c0 := gT_canon hBu c1.1
    rw [head c0.1, c0.2, c1.2, c2.2, c3.2, c4.2, c5.2, c6.2, c7.2, m.2]
    subst h1
    unfold numsP tailP
    simp (config := { decide := true }) only [k2, reduceIte, encs_cons, encs_nil, List.append_assoc, List.nil_append]
  rw [if_neg k2] at h
  by_cases k3 : k = 3
  · rw [if_pos k3] at h
    obtain ⟨h1, h2⟩ := Prod.mk.inj h
    have c2 := gT_canon B2 (by rw [h2])
    have c1 := gT_canon B1 c2.1
    have c0 := gT_canon hBu c1.1
    rw [head c0.1, c0.2, c1.2, c2.2, h2]
    subst h1
    unfold numsP tailP
    simp (config := { decide := true }) only [k3, reduceIte, encs_cons, encs_nil, List.append_assoc, List.nil_append]
  rw [if_neg k3] at h
  by_cases k4 : k = 4
  · rw [if_pos k4] at h
    obtain ⟨h1, h2⟩ := Prod.mk.inj h
    have m := lstR_canon (most := 8) (code := fun e : Ent => encs e.nums) (fun s => getE_byt) (fun s hB h => getE_canon hB h) B4 (by rw [h2])
    rw [h2, List.append_nil, ← encs_ents] at m
    have c3 := gT_canon B3 m.1
    have c2 := gT_canon B2 c3.1
    have c1 := gT_canon B1 c2.1
    have c0 := gT_canon hBu c1.1
    rw [head c0.1, c0.2, c1.2, c2.2, c3.2, m.2]
    subst h1
    unfold numsP tailP
    simp (config := { decide := true }) only [k4, reduceIte, encs_cons, encs_nil, List.append_assoc, List.nil_append]
  rw [if_neg k4] at h
  by_cases k5 : k = 5
  · rw [if_pos k5] at h
    obtain ⟨h1, h2⟩ := Prod.mk.inj h
    have c2 := gT_canon B2 (by rw [h2])
    have c1 := gT_canon B1 c2.1
    have c0 := gT_canon hBu c1.1
    rw [head c0.1, c0.2, c1.2, c2.2, h2]
    subst h1
    unfold numsP tailP
    simp (config := { decide := true }) only [k5, reduceIte, encs_cons, encs_nil, List.append_assoc, List.nil_append]
  · rw [if_neg k5] at h
    obtain ⟨h1, h2⟩ := Prod.mk.inj h
    subst h1
    exfalso
    simp only at hr
    omega
/-- What is unpacked is packed as it was. -/
theorem pack_unpack {b : List Int} (hB : Byt b) (h : (unpackP (sealL b)).2 = 0) : packP (unpackP (sealL b)).1 = (sealL b, 0) := by
  unfold unpackP at h ⊢
  by_cases h1 : 512 < (sealL b).length
  · rw [if_pos h1] at h
    cases h
  rw [if_neg h1] at h ⊢
  rw [open_seal] at h ⊢
  simp only at h ⊢
  rw [if_neg (by simp)] at h ⊢
  by_cases h2 : (parseP (b, 0)).2.2 ≠ 0
  · rw [if_pos h2] at h
    exact absurd h h2
  rw [if_neg h2] at h ⊢
  by_cases h3 : 0 < (parseP (b, 0)).2.1.length ∨ chkP (parseP (b, 0)).1 = false
  · rw [if_pos h3] at h
    cases h
  rw [if_neg h3]
  simp only
  have hl : (parseP (b, 0)).2.1 = [] := List.eq_nil_of_length_eq_zero (by omega)
  have he : (parseP (b, 0)).2.2 = 0 := by simpa using h2
  have hc : chkP (parseP (b, 0)).1 = true := by
    cases hx : chkP (parseP (b, 0)).1
    · exact absurd (.inr hx) h3
    · rfl
  have hp : parseP (b, 0) = ((parseP (b, 0)).1, ([], 0)) := Prod.ext rfl (Prod.ext hl he)
  unfold packP
  rw [if_pos hc, parse_canon hB hp hc]
theorem unpack_bad {l : List Int} (h : (unpackP l).2 ≠ 0) : (unpackP l).1 = zPkt := by
  unfold unpackP at h ⊢
  repeat' split
  all_goals first | rfl | (exfalso; simp_all)
end Go.Proofs.Ytkolmkdbjagfcaa

namespace Go.Hb
theorem zeroCells_one (z : Value) (m : Nat) : (Builtin.zeroCells [z].toArray m).toList = List.replicate m z := by
  simp [Builtin.zeroCells]
  apply List.ext_getElem
  · simp
  · intro i h1 h2
    simp [Nat.mod_one]
theorem run_clear {P : Program} {w : World} {t E ty : TypeId} {z : Value} {by_ : Nat} (h : SliceOf P t E 1 by_) (hz : ZeroOf P E [z]) (h1 : z.oneCell' = true) {a : Option Addr} {n c j : Nat} {xs : List Value} (hw : ownsAt w E 1 (.slice a n c) n xs) (hj : j ≤ n) :
    ∃ w', (Builtin.clear_ #[t] ty #[.slice (subA a c j 1) (n - j) (c - j)]).run P w = .ok (.tuple #[]) w' ∧ Step (odl (.slice a n c) E 1 n xs) (odl (.slice a n c) E 1 n (xs.take j ++ List.replicate (n - j) z)) w w' := by
  obtain ⟨hl, hr⟩ := hw
  have hl' : xs.length = n := by omega
  by_cases hm : n - j = 0
  · refine ⟨w, ?_, ?_⟩
    · rw [hm]
      cases subA a c j 1 <;> simp [Builtin.clear_, run_underlying h.und]
    · have e : xs.take j ++ List.replicate (n - j) z = xs := by rw [hm, List.take_of_length_le (by omega)]; simp
      rw [e]
      exact ⟨St.refl w _, ⟨hl, hr⟩, fun k hk => .inl hk⟩
  · rcases hr with ⟨he, hn0⟩ | ⟨g, o, cap, cur, he, hg, hnc, hcm, hcs, htake⟩
    · omega
    simp only [Value.slice.injEq] at he
    obtain ⟨rfl, _, rfl⟩ := he
    obtain ⟨v, hv, hvc⟩ := hz.zero
    have hsub : subA (some ⟨g, o, none⟩) c j 1 = some ⟨g, o + j, none⟩ := by
      unfold subA
      rw [if_neg (by omega)]
      simp [addr_add]
    have hst := run_storeCells_at P g (o + j) E (List.replicate (n - j) z) 0 cur w (by simpa using hg) (by simp; omega) (fun u hu => by rw [List.eq_of_mem_replicate hu]; exact h1)
    have e : ∀ (D vs : List Value), D.take (o + j + 0) ++ vs ++ D.drop (o + j + 0 + vs.length) = splice D (o + j) vs := fun _ _ => rfl
    rw [e] at hst
    obtain ⟨m, hm'⟩ : ∃ m, n - j = m + 1 := ⟨n - j - 1, by omega⟩
    have hg' : w.heap[g]? = some (.cells cur.toList.toArray E (0, 0)) := by simpa using hg
    have hsz : cur.toList.length = cur.size := Array.length_toList
    refine ⟨w.setRow g (splice cur.toList (o + j) (List.replicate (n - j) z)).toArray, ?_, Keep.setRow w g _ _ E hg rfl, ⟨by simp; omega, .inr ⟨g, o, c, _, rfl, setRow_heap w g _ _ E (0, 0) hg, hnc, hcm, ?_, ?_⟩⟩, fun k hk => .inl hk⟩
    · rw [hsub]
      have hzc := zeroCells_one z (n - j)
      rw [hm'] at hzc hst ⊢
      simp [Builtin.clear_, run_underlying h.und, hv, hvc, hzc, hst]
    · simp [splice]; omega
    · show ((splice cur.toList (o + j) (List.replicate (n - j) z)).drop o).take (n * 1) = _
      rw [splice_drop (by omega), splice_take (by simp; omega) (by simp; omega), htake]
      unfold splice
      rw [List.drop_eq_nil_of_le (by simp; omega), List.append_nil]
theorem fill_mono {p q : Nat → Option (Nat × Nat)} (h : ∀ i x, p i = some x → q i = some x) : ∀ (l : List (Nat × Value)) (cells r : Array Value), Instr.fill p cells l = some r → Instr.fill q cells l = some r
  | [], cells, r, hf => hf
  | (i, v) :: rest, cells, r, hf => by
    simp only [Instr.fill] at hf ⊢
    cases hp : p i with
    | none => rw [hp] at hf; cases hf
    | some x =>
      obtain ⟨off, size⟩ := x
      rw [hp] at hf
      rw [h i _ hp]
      simp only at hf ⊢
      split at hf
      · cases hf
      · rename_i hn
        rw [if_neg hn]
        exact fill_mono h rest _ r hf
/-- The places of an array of one-cell elements. -/
def arrPlaces (n : Nat) : List (Nat × Nat) := (List.range n).map fun i => (i, 1)
theorem arrPlaces_get {n i : Nat} {x : Nat × Nat} (h : (arrPlaces n).toArray[i]? = some x) : some (i * 1, 1) = some x := by
  unfold arrPlaces at h
  rw [List.getElem?_toArray, List.getElem?_map, Option.map_eq_some_iff] at h
  obtain ⟨j, hj, rfl⟩ := h
  have hi : i < n := by
    have := (List.getElem?_eq_some_iff.1 hj).1
    simpa using this
  rw [List.getElem?_range hi] at hj
  cases hj
  rw [Nat.mul_one]
section
variable {P : Program} {f : Frm} {T T' : TypeId} {x : Operand} {w0 : World} {F : Nat → Prop} {L L' : List Asrt}
variable {n' : Nat} {ops rest : List Oper} {Q : Post} {p : String} {af : Array Edge}
theorem LR.clear {E : TypeId} {z : Value} {by_ n c j : Nat} {a : Option Addr} {xs : List Value} [h : SliceOf P T E 1 by_] [hz : ZeroOf P E [z]] (hx : f.ev x = .slice (subA a c j 1) (n - j) (c - j)) (h1 : z.oneCell' = true)
    (hs : Sel L (odl (.slice a n c) E 1 n xs) (odl (.slice a n c) E 1 n (xs.take j ++ List.replicate (n - j) z)) L') (hj : j ≤ n)
    (k : LR false P n' ops rest Q f (St w0 F L')) : LR false P n' ops (⟨none, .call ⟨.builtin .clear, [x].toArray, [T].toArray⟩, T', p, af, none⟩ :: rest) Q f (St w0 F L) := by
  intro w hw b hb
  refine wpList_plain rfl fun K hK => ?_
  obtain ⟨w', hr, st⟩ := run_clear (P := P) (ty := T') h hz h1 (hw.holds _ hs.mem) hj
  have hr' : (execOp f.ev ⟨none, .call ⟨.builtin .clear, [x].toArray, [T].toArray⟩, T', p, af, none⟩).run P w = .ok (.value (.tuple #[])) w' := by
    simp only [execOp, resolve, invoke, builtin, Sem.run_bind, Sem.run_pure, Result.andThen_ok, List.map_toArray, List.map_cons, List.map_nil, hx, hr]
  rw [← hb.eval] at hr'
  simp only [Oper.wp, hr', Oper.upon_value]
  exact hK _ _ (k _ (hw.did hs rfl st (odl.dep _ _ _ _ _)) _ (hb.put_none _))
theorem LR.qcall_fv {m : Bool} {C : World → Prop} {v : Value} {d : Nat} {g : FuncId} {xs : List Operand} {ts : Array TypeId} {cap args : List Value} (hx : f.ev x = .func (.func g) #[] cap.toArray) (ha : xs.map f.ev ++ cap = args) [own : Own P g] (hd : Nat.blt d n' = true)
    (h : ∀ w, C w → CallsTo P g args w fun u w' => u = v ∧ C w') (k : LR m P n' ops rest Q (upd f d v) C) :
    LR m P n' ops (⟨some d, .call ⟨.value x, xs.toArray, ts⟩, T, p, af, none⟩ :: rest) Q f C :=
  LR.qcall_val hx hd (ha ▸ h) k
theorem Ev.load_odl {v : Value} {b o q k c sz : Nat} {E : TypeId} {xs : List Value} [h : One P T] (hx : f.ev x = .pointer (some ⟨b, o + q, none⟩)) (hm : odl (.slice (some ⟨b, o, none⟩) k c) E sz k xs ∈ L) (hc : xs[q]? = some v) : Ev P (St w0 F L) f (.load T x) T' v :=
  Ev.load hx fun w hw => (hw.rd_of_odl hm).cell hc
theorem Ev.field {C : World → Prop} {v : Value} {i : Nat} {fs : Array Field} {fd : Field} {cs : List Value} (hu : P.underlying T = some (.struct fs)) (hf : fs[i]? = some fd) (h : One P fd.type) (hx : f.ev x = .agg cs.toArray) (hc : cs[fd.offset]? = some v) : Ev P C f (.field T x i) T' v := by
  unfold Ev
  intro w _ d p af g
  simp [execOp, hx, Instr.field, run_underlying hu, hf, part, h.agg, asAgg, hc]
theorem LR.mapUpdate {T : TypeId} {x y z : Operand} {v zv : Value} {q : IntKind} {b : Nat} {l : List (Int × Value)} {key : Int} [h : MapOf P T q zv] (hx : f.ev x = .map (some b)) (hy : f.ev y = .int q key) (hz : f.ev z = v)
    (hs : Sel L (.own b (mapObj q l)) (.own b (mapObj q (l ++ [(key, v)]))) L') (hnew : (findI key l 0).isNone = true)
    (k : LR false P n' ops rest Q f (St w0 F L')) : LR false P n' ops (⟨none, .mapUpdate T x y z, T', p, af, none⟩ :: rest) Q f (St w0 F L) := by
  intro w hw a ha
  refine wpList_plain rfl fun K hK => ?_
  obtain ⟨kt, et, ht, hk, _⟩ := h.ex
  have hb : w.heap[b]? = some (.map (ents q 0 l).toArray l.length) := hw.own_at hs.mem
  have hfind : (Instr.findKey kt (.int q key) (ents q 0 l)).run P w = .ok none w := by
    refine MapKept.run_findKey hk ?_
    rw [findNow_ents]
    cases hf : findI key l 0 with
    | none => rfl
    | some r => rw [hf] at hnew; cases hnew
  have hr : (execOp a.eval ⟨none, .mapUpdate T x y z, T', p, af, none⟩).run P w = .ok .skip { w with heap := w.heap.setIfInBounds b (mapObj q (l ++ [(key, v)])) } := by
    rw [ha.eval]
    have e : Obj.map ((ents q 0 l).toArray.push ⟨.int q key, v, l.length⟩) (l.length + 1) = mapObj q (l ++ [(key, v)]) := by
      simp [mapObj, ents_snoc]
    simp only [execOp, hx, hy, hz, Instr.mapUpdate, Sem.run_bind, run_underlying ht, Result.andThen_ok, MapKept.run_getObj_map hb, MapKept.run_checkKey (k := .int q key) hk (by rfl) _ 9999, hfind, MapKept.run_setObj_map _ hb, e, Sem.run_pure]
  simp only [Oper.wp, hr, Oper.upon_skip]
  have hsz : b < w.heap.size := (Array.getElem?_eq_some_iff.1 hb).1
  refine hK _ _ (k _ ?_ _ (ha.put_none undef))
  exact hw.turn hs rfl (Keep.setObj w b _ rfl) (by show (w.heap.setIfInBounds b _)[b]? = _; simp [hsz]) (fun k hk => .inl hk) (Asrt.dep_own _ _)
theorem Ev.lookupC {C : World → Prop} {T : TypeId} {x y : Operand} {zv : Value} {q : IntKind} {b : Nat} {l : List (Int × Value)} {key : Int} {r : Option (Nat × Value)} [h : MapOf P T q zv] (hx : f.ev x = .map (some b)) (hy : f.ev y = .int q key) (hm : ∀ w, C w → w.heap[b]? = some (mapObj q l)) (hr : findI key l 0 = r) :
    Ev P C f (.lookup T x y true) T' (.tuple [(r.map Prod.snd).getD zv, .bool r.isSome].toArray) := fun w hw d p af g => by
  obtain ⟨kt, et, ht, hk, hz⟩ := h.ex
  have hb : w.heap[b]? = some (.map (ents q 0 l).toArray l.length) := hm w hw
  have hfind : (Instr.findKey kt (.int q key) (ents q 0 l)).run P w = .ok r w := by
    refine MapKept.run_findKey hk ?_
    rw [findNow_ents, hr]
  cases r with
  | none => simp [execOp, hx, hy, Instr.lookup, run_underlying ht, MapKept.run_getObj_map hb, MapKept.run_checkKey (k := .int q key) hk (by rfl) _ 9999, hfind, hz, Result.andThen]
  | some s => simp [execOp, hx, hy, Instr.lookup, run_underlying ht, MapKept.run_getObj_map hb, MapKept.run_checkKey (k := .int q key) hk (by rfl) _ 9999, hfind, Result.andThen]
theorem Ev.lookup1C {C : World → Prop} {T : TypeId} {x y : Operand} {zv : Value} {q : IntKind} {b : Nat} {l : List (Int × Value)} {key : Int} {r : Option (Nat × Value)} [h : MapOf P T q zv] (hx : f.ev x = .map (some b)) (hy : f.ev y = .int q key) (hm : ∀ w, C w → w.heap[b]? = some (mapObj q l)) (hr : findI key l 0 = r) :
    Ev P C f (.lookup T x y false) T' ((r.map Prod.snd).getD zv) := fun w hw d p af g => by
  obtain ⟨kt, et, ht, hk, hz⟩ := h.ex
  have hb : w.heap[b]? = some (.map (ents q 0 l).toArray l.length) := hm w hw
  have hfind : (Instr.findKey kt (.int q key) (ents q 0 l)).run P w = .ok r w := by
    refine MapKept.run_findKey hk ?_
    rw [findNow_ents, hr]
  cases r with
  | none => simp [execOp, hx, hy, Instr.lookup, run_underlying ht, MapKept.run_getObj_map hb, MapKept.run_checkKey (k := .int q key) hk (by rfl) _ 9999, hfind, hz, Result.andThen]
  | some s => simp [execOp, hx, hy, Instr.lookup, run_underlying ht, MapKept.run_getObj_map hb, MapKept.run_checkKey (k := .int q key) hk (by rfl) _ 9999, hfind, Result.andThen]
end
end Go.Hb

namespace Go.Hb
section
variable {P : Program} {C : World → Prop} {f : Frm} {T T' : TypeId} {x : Operand}
theorem Ev.fieldA {i n : Nat} {fs : Array Field} {fd : Field} {cs : List Value} (hu : P.underlying T = some (.struct fs)) (hf : fs[i]? = some fd) (h : Agg P fd.type n) (hx : f.ev x = .agg cs.toArray) : Ev P C f (.field T x i) T' (.agg ((cs.drop fd.offset).take n).toArray) := by
  unfold Ev
  intro w _ d p af g
  simp [execOp, hx, Instr.field, run_underlying hu, hf, part, h.agg, h.size, asAgg]
end
end Go.Hb

namespace Go.Proofs.Ytkolmkdbjagfcaa
open Go.Hb
attribute [local irreducible] LR CW At Ev thn blk finK noG again CallsTo DW QL dnext TW DP
set_option linter.unusedSimpArgs false
set_option linter.unusedVariables false
set_option maxRecDepth 100000

def joinedP : Pkt := { zPkt with kind := 3, j1 := 2, j2 := 6, j3 := 300 }
def roundP : Pkt := { zPkt with kind := 2, to := 2, t := ⟨4, 1, 7, 9, 8, 3, 20, 2, [9]⟩ }
def rA (b : Nat) : PAd := { zA with ta := some ⟨b, 0, none⟩, tc := 1 }
theorem joined_chk : chkP joinedP = true := by decide
theorem round_chk : chkP roundP = true := by decide
theorem joined_body : bodyP joinedP = [3, 0, 2, 6, 172, 2] := by decide
theorem round_body : bodyP roundP = [2, 2, 4, 1, 7, 9, 8, 3, 20, 2, 1, 9] := by decide
theorem joined_pack : packP joinedP = (sealL [3, 0, 2, 6, 172, 2], 0) := by unfold packP; rw [if_pos joined_chk, joined_body]
theorem round_pack : packP roundP = (sealL [2, 2, 4, 1, 7, 9, 8, 3, 20, 2, 1, 9], 0) := by unfold packP; rw [if_pos round_chk, round_body]
theorem joined_unpack : unpackP (sealL [3, 0, 2, 6, 172, 2]) = (joinedP, 0) := by rw [← joined_body]; exact (unpack_pack joined_chk).1
theorem Rd.pre {w : World} {a : Option Addr} {x y : List Value} (h : Rd w a (x ++ y)) : Rd w a x := fun j v hj => h j v (by rw [List.getElem?_append_left (List.getElem?_eq_some_iff.1 hj).1]; exact hj)
theorem bv_app (x y : List Int) : bv (x ++ y) = bv x ++ bv y := by unfold bv; rw [List.map_append]
theorem seal_pre {w : World} {a : Option Addr} {l : List Int} (h : Rd w a (bv (sealL l))) : Rd w a (bv l) := by
  unfold sealL at h
  rw [bv_app] at h
  exact Rd.pre h
set_option maxHeartbeats 2000000 in
theorem p52 (w : World) : CallsTo Try.prog 52 [] w fun v w' => v = joinedP.val zA ∧ Grew w w' := by
  refine go_in (n := 3) (St.refl _ NoF) Try.func52 rfl rfl ?_
  repeat'(first|(apply kp;iterate 2 exact rfl)|apply jJ|(apply jE;exact rfl)|(apply jp;exact rfl)|(apply jc;kernel_rfl)|((first|apply kf|apply kn|apply ke|apply kx|apply kc|apply kb);iterate 2 exact rfl)|((first|apply kz|apply ky);(·exact rfl);(·repeat(first|exact iO|exact iR rfl|apply iT));iterate 2 exact rfl)|(apply kg;iterate 2 exact rfl)|(apply kG;iterate 3 exact rfl)|(apply kB;(iterate 2 exact rfl);intro _)|(apply kA;exact rfl;intro _)|(apply Go.Hb.kK;(iterate 4 exact rfl);intro _)|(apply kU;(iterate 2 exact rfl);(·repeat(first|exact sH _ _ _|apply sT));(first|exact nfL_eq rfl|exact rfl);exact rfl)|((first|apply kh|apply kl);(iterate 2 exact rfl);(first|decide|omega);exact rfl)|((first|(apply kR;iterate 2 exact rfl)|(apply kQ;exact rfl));all_goals(intro hc;try simp only[hcs]at hc;try(exfalso;first|contradiction|omega))))
  (apply ret1c; (· exact rfl); (· exact inferInstance); (· exact rfl); (· (repeat (first | exact List.Mem.head _ | apply List.Mem.tail))); (· exact rfl); intro w' hS)
  exact ⟨rfl, hS.toKeep⟩
set_option maxHeartbeats 2000000 in
theorem p53 (w : World) : CallsTo Try.prog 53 [] w fun v w' => ∃ b, v = roundP.val (rA b) ∧ New1 (.own b (.cells [Value.int .i64 9].toArray 3 (0, 0))) w w' := by
  refine go_in (n := 5) (St.refl _ NoF) Try.func53 rfl rfl ?_
  repeat'(first|(apply Go.Hb.kK;(iterate 4 exact rfl);intro bs)|(apply kp;iterate 2 exact rfl)|apply jJ|(apply jE;exact rfl)|(apply jp;exact rfl)|(apply jc;kernel_rfl)|((first|apply kf|apply kn|apply ke|apply kx|apply kc|apply kb);iterate 2 exact rfl)|((first|apply kz|apply ky);(·exact rfl);(·repeat(first|exact iO|exact iR rfl|apply iT));iterate 2 exact rfl)|(apply kg;iterate 2 exact rfl)|(apply kG;iterate 3 exact rfl)|(apply kB;(iterate 2 exact rfl);intro _)|(apply kA;exact rfl;intro _)|(apply Go.Hb.kK;(iterate 4 exact rfl);intro _)|(apply kU;(iterate 2 exact rfl);(·repeat(first|exact sH _ _ _|apply sT));(first|exact nfL_eq rfl|exact rfl);exact rfl)|((first|apply kh|apply kl);(iterate 2 exact rfl);(first|decide|omega);exact rfl)|((first|(apply kR;iterate 2 exact rfl)|(apply kQ;exact rfl));all_goals(intro hc;try simp only[hcs]at hc;try(exfalso;first|contradiction|omega))))
  (apply ret1c; (· exact rfl); (· exact inferInstance); (· exact rfl); (· (repeat (first | exact List.Mem.head _ | apply List.Mem.tail))); (· exact rfl); intro w' hS)
  exact ⟨bs, rfl, hS.new1 rfl⟩
theorem seal_byt {l : List Int} (h : Byt l) : Byt (sealL l) := by
  unfold sealL
  refine Byt.append h fun x hx => ?_
  simp only [List.mem_cons, List.not_mem_nil, or_false] at hx
  rcases hx with rfl | rfl | rfl | rfl <;> exact byteK_bd _ _
def SJ : List Int := [3, 0, 2, 6, 172, 2]
def SR : List Int := [2, 2, 4, 1, 7, 9, 8, 3, 20, 2, 1, 9]
theorem joinedR (w : World) : PktR w joinedP zA := (PktM.toR (p := joinedP) (A := zA) ⟨Rd.nil _ _, fun _ => rfl, Rd.nil _ _, fun _ => rfl, Rd.nil _ _, fun _ => rfl⟩ (fun x hx => by simp [joinedP, zPkt, zeroDat, zeroMsg] at hx) (by decide) (by decide) (by decide))
theorem roundR {w : World} {b : Nat} (h : (Asrt.own b (.cells [Value.int .i64 9].toArray 3 (0, 0))).holds w) : PktR w roundP (rA b) := (PktM.toR (p := roundP) (A := rA b) ⟨Rd.nil _ _, fun _ => rfl, own_rd h, fun e => (by cases e), Rd.nil _ _, fun _ => rfl⟩ (fun x hx => by simp [roundP, zPkt, zeroDat, zeroMsg] at hx) (by decide) (by decide) (by decide))
theorem packedJ (w : World) : CallsTo Try.prog 30 [joinedP.val zA] w fun v w' => ∃ a c, v = .tuple [.slice a (sealL SJ).length c, .int .i64 0].toArray ∧ NewSl w w' (.slice a (sealL SJ).length c) 5 1 (sealL SJ).length (bv (sealL SJ)) := by
  have hq := p30 joinedP zA w (joinedR w) ⟨by decide, by decide⟩
  rw [joined_pack] at hq
  exact hq
theorem packedR {w : World} {b : Nat} (h : (Asrt.own b (.cells [Value.int .i64 9].toArray 3 (0, 0))).holds w) : CallsTo Try.prog 30 [roundP.val (rA b)] w fun v w' => ∃ a c, v = .tuple [.slice a (sealL SR).length c, .int .i64 0].toArray ∧ NewSl w w' (.slice a (sealL SR).length c) 5 1 (sealL SR).length (bv (sealL SR)) := by
  have hq := p30 roundP (rA b) w (roundR h) ⟨by decide, by decide⟩
  rw [round_pack] at hq
  exact hq
theorem unpackedJ (a : Option Addr) (c : Nat) (w : World) (h : (osl (.slice a (sealL SJ).length c) 5 1 (sealL SJ).length (bv (sealL SJ))).holds w) : CallsTo Try.prog 32 [.slice a (sealL SJ).length c] w fun v w' => UnpP (joinedP, 0) v w w' := by
  have hq := p32 a c (sealL SJ) w (ownsRow_rd h) (seal_byt (by intro x hx; simp only [SJ, List.mem_cons, List.not_mem_nil, or_false] at hx; omega)) (fun e => (ownsRow_some h e).2) (ownsRow_cap h) (by rw [sealL_len]; decide)
  rw [show unpackP (sealL SJ) = (joinedP, 0) from joined_unpack] at hq
  exact hq
set_option maxHeartbeats 16000000 in
theorem p29 (w : World) : CallsTo Try.prog 29 [] w fun v w' => v = .bool true ∧ Grew w w' := by
  have lj : (sealL SJ).length = 10 := by rw [sealL_len]; rfl
  have lr : (sealL SR).length = 16 := by rw [sealL_len]; rfl
  refine go_in (n := 59) (St.refl _ NoF) Try.func29 rfl rfl ?_
  repeat'(first|(apply Go.Hb.kK;(iterate 4 exact rfl);intro bs)|(apply kp;iterate 2 exact rfl)|apply jJ|(apply jE;exact rfl)|(apply jp;exact rfl)|(apply jc;kernel_rfl)|((first|apply kf|apply kn|apply ke|apply kx|apply kc|apply kb);iterate 2 exact rfl)|((first|apply kz|apply ky);(·exact rfl);(·repeat(first|exact iO|exact iR rfl|apply iT));iterate 2 exact rfl)|(apply kg;iterate 2 exact rfl)|(apply kG;iterate 3 exact rfl)|(apply kB;(iterate 2 exact rfl);intro _)|(apply kA;exact rfl;intro _)|(apply Go.Hb.kK;(iterate 4 exact rfl);intro _)|(apply kU;(iterate 2 exact rfl);(·repeat(first|exact sH _ _ _|apply sT));(first|exact nfL_eq rfl|exact rfl);exact rfl)|((first|apply kh|apply kl);(iterate 2 exact rfl);(first|decide|omega);exact rfl)|(apply kq; (· exact rfl); (· intro w1 h1; exact CallsTo.q (p52 w1) h1))|(apply LR.call; (· exact rfl); (intro w1 h1; first | (refine CallsTo.mono (show CallsTo Try.prog 30 [joinedP.val zA] w1 _ from packedJ w1) ?_; rintro v w2 ⟨a1, c1, rfl, hn⟩; have ca1 := own_cap (ownsRow_zero hn.own); refine LR.back (h1.newSl hn) ?_; clear hn h1) | (refine CallsTo.mono (show CallsTo Try.prog 53 [] w1 _ from p53 w1) ?_; rintro v w2 ⟨br, rfl, hn⟩; refine LR.back (h1.got hn (Asrt.dep_own _ _)) ?_; clear hn h1) | (refine CallsTo.mono (show CallsTo Try.prog 30 [roundP.val (rA br)] w1 _ from packedR (h1.holds (.own br (.cells [Value.int .i64 9].toArray 3 (0, 0))) (by (repeat (first | exact mH _ _ | apply mT))))) ?_; rintro v w2 ⟨a2, c2, rfl, hn⟩; have ca2 := own_cap (ownsRow_zero hn.own); refine LR.back (h1.newSl hn) ?_; clear hn h1) | (refine CallsTo.mono (show CallsTo Try.prog 32 [.slice a1 (sealL SJ).length c1] w1 _ from unpackedJ a1 c1 w1 (h1.holds _ (by (repeat (first | exact mH _ _ | apply mT))))) ?_; rintro v w2 ⟨A, X, rfl, hn, hXd, hXe, hX⟩; refine LR.back (h1.got hn hXd) ?_; clear hn h1)))|(apply LR.ev; (· first | (apply Ev.fieldA Try.underlying81; (· exact rfl); (· exact (inferInstance : Agg Try.prog 74 3)); (· exact rfl)) | exact Ev.slice_hi0 (a := a1) (c := c1) (j := 6) (subA_own ca1.2.2) rfl (by omega) rfl rfl | exact Ev.slice_hi0 (a := a2) (c := c2) (j := 12) (subA_own ca2.2.2) rfl (by omega) rfl rfl); (· exact rfl))|(apply kq; (· exact rfl); (· intro w1 h1; first | exact CallsTo.q (show CallsTo Try.prog 33 [.slice a1 6 c1, .slice (some ⟨bs, 0, none⟩) 6 6] w1 _ from c19 a1 (some ⟨bs, 0, none⟩) c1 6 SJ SJ w1 (seal_pre (h1.rd_of_own (by (repeat (first | exact mH _ _ | apply mT))))) (h1.rd_of_blk (by (repeat (first | exact mH _ _ | apply mT)))) (by decide)) h1 | exact CallsTo.q (show CallsTo Try.prog 33 [.slice a2 12 c2, .slice (some ⟨bs, 0, none⟩) 12 12] w1 _ from c19 a2 (some ⟨bs, 0, none⟩) c2 12 SR SR w1 (seal_pre (h1.rd_of_own (by (repeat (first | exact mH _ _ | apply mT))))) (h1.rd_of_blk (by (repeat (first | exact mH _ _ | apply mT)))) (by decide)) h1))|((first|(apply kR;iterate 2 exact rfl)|(apply kQ;exact rfl));all_goals(intro hc;try simp only[hcs]at hc;try(exfalso;first|contradiction|omega))))
  (apply ret1; (· exact rfl); intro w' hS)
  exact ⟨rfl, hS.toKeep⟩
end Go.Proofs.Ytkolmkdbjagfcaa

namespace Go.Proofs.Ytkolmkdbjagfcaa
open Go.Hb
attribute [local irreducible] LR CW At Ev thn blk finK noG again CallsTo DW QL dnext TW DP
set_option linter.unusedSimpArgs false
set_option linter.unusedVariables false
set_option maxRecDepth 100000

theorem unp_facts {l : List Int} (hb : Byt l) : Byt (unpackP l).1.d.msg.body ∧ (unpackP l).1.d.msg.body.length ≤ 140737488351232 ∧ (unpackP l).1.t.ask.length ≤ 16 ∧ (unpackP l).1.c.ents.length ≤ 8 ∧ PktI (unpackP l).1 := by
  have hz : Byt zPkt.d.msg.body ∧ zPkt.d.msg.body.length ≤ 140737488351232 ∧ zPkt.t.ask.length ≤ 16 ∧ zPkt.c.ents.length ≤ 8 ∧ PktI zPkt := ⟨fun x hx => by simp [zPkt, zeroDat, zeroMsg] at hx, by decide, by decide, by decide, ⟨by decide, by decide⟩⟩
  unfold unpackP
  by_cases h1 : 512 < l.length
  · rw [if_pos h1]; exact hz
  rw [if_neg h1]
  have ho := open_byt hb
  have hp := @parse_facts ((openL l).1, 0) ho.1
  repeat' split
  all_goals first | exact hz | exact ⟨hp.1, by have := hp.2.1; have := ho.2; simp only at *; omega, hp.2.2.1, hp.2.2.2.1, hp.2.2.2.2⟩
set_option maxHeartbeats 16000000 in
theorem p7 (a : Option Addr) (c : Nat) (l : List Int) (w : World) (hr : Rd w a (bv l)) (hb : Byt l) (hz : a = none → c = 0) (hm : l.length ≤ 140737488351232) : CallsTo Try.prog 7 [.slice a l.length c] w fun v w' => v = .bool true ∧ Grew w w' := by
  refine go_in (n := 58) (St.rd1 hr) Try.func7 rfl rfl ?_
  have hsb := seal_byt hb
  have hsl := sealL_len l
  have hf := unp_facts hsb
  have hbad := @unpack_bad (sealL l)
  have hgood := @pack_unpack l hb
  obtain ⟨⟨p, e⟩, hp⟩ : ∃ r, unpackP (sealL l) = r := ⟨_, rfl⟩
  rw [hp] at hf hbad hgood
  simp only at hf hbad hgood
  obtain ⟨hpb, hpl, hpa, hpe, hpi⟩ := hf
  repeat'(first|(apply kp;iterate 2 exact rfl)|apply jJ|(apply jE;exact rfl)|(apply jp;exact rfl)|(apply jc;kernel_rfl)|((first|apply kf|apply kn|apply ke|apply kx|apply kc|apply kb);iterate 2 exact rfl)|((first|apply kz|apply ky);(·exact rfl);(·repeat(first|exact iO|exact iR rfl|apply iT));iterate 2 exact rfl)|(apply kg;iterate 2 exact rfl)|(apply kG;iterate 3 exact rfl)|(apply kB;(iterate 2 exact rfl);intro _)|(apply kA;exact rfl;intro _)|(apply Go.Hb.kK;(iterate 4 exact rfl);intro _)|(apply kU;(iterate 2 exact rfl);(·repeat(first|exact sH _ _ _|apply sT));(first|exact nfL_eq rfl|exact rfl);exact rfl)|((first|apply kh|apply kl);(iterate 2 exact rfl);(first|decide|omega);exact rfl)|(apply kq; (· exact rfl); (· intro w1 h1; exact CallsTo.q (p29 w1) h1))|(apply LR.call; (· exact rfl); (intro w1 h1; refine (p34 a c l w1 (h1.rd_of (a := a) (xs := bv l) (by (repeat (first | exact mH _ _ | apply mT)))) hb hz (by omega)).mono ?_; rintro v w2 ⟨a1, c1, rfl, hn⟩; have ca1 := ownsRow_cap hn.own; refine LR.back (h1.newSl hn) ?_; clear hn h1))|((first|(apply kR;iterate 2 exact rfl)|(apply kQ;exact rfl));all_goals(intro hc;try simp only[hcs]at hc;try(exfalso;first|contradiction|omega))))
  apply LR.call
  · exact rfl
  intro w1 h1
  refine CallsTo.mono (show CallsTo Try.prog 32 [.slice a1 (sealL l).length c1] w1 _ from p32 a1 c1 (sealL l) w1 (h1.rd_of_own (by (repeat (first | exact mH _ _ | apply mT)))) hsb (fun e => (ownsRow_some h1.g0 e).2) ca1 (by omega)) ?_
  rw [hp]
  rintro v w2 ⟨A, X, hv, hn, hXd, hXe, hX⟩
  replace hv : v = .tuple [p.val A, .int .i64 e].toArray := hv
  subst hv
  replace hX : ∀ w2, X.holds w2 → PktM w2 p A := hX
  refine LR.back (h1.got hn hXd) ?_
  clear hn h1
  by_cases he : e = 0
  · subst he
    have hpk := hgood rfl
    repeat'(first|(apply kp;iterate 2 exact rfl)|apply jJ|(apply jE;exact rfl)|(apply jp;exact rfl)|(apply jc;kernel_rfl)|((first|apply kf|apply kn|apply ke|apply kx|apply kc|apply kb);iterate 2 exact rfl)|((first|apply kz|apply ky);(·exact rfl);(·repeat(first|exact iO|exact iR rfl|apply iT));iterate 2 exact rfl)|(apply kg;iterate 2 exact rfl)|(apply kG;iterate 3 exact rfl)|(apply kB;(iterate 2 exact rfl);intro _)|(apply kA;exact rfl;intro _)|(apply Go.Hb.kK;(iterate 4 exact rfl);intro _)|(apply kU;(iterate 2 exact rfl);(·repeat(first|exact sH _ _ _|apply sT));(first|exact nfL_eq rfl|exact rfl);exact rfl)|((first|apply kh|apply kl);(iterate 2 exact rfl);(first|decide|omega);exact rfl)|(apply LR.call; (· exact rfl); (intro w1 h1; refine CallsTo.mono (show CallsTo Try.prog 30 [p.val A] w1 (fun v w' => ∃ a' c', v = .tuple [.slice a' (sealL l).length c', .int .i64 0].toArray ∧ NewSl w1 w' (.slice a' (sealL l).length c') 5 1 (sealL l).length (bv (sealL l))) from by (have hq := p30 p A w1 ((hX w1 (h1.holds X (by (repeat (first | exact mH _ _ | apply mT))))).toR hpb hpl hpa hpe) hpi); rw [hpk] at hq; exact hq) ?_; rintro v w2 ⟨a2, c2, rfl, hn⟩; refine LR.back (h1.newSl hn) ?_; clear hn h1))|(apply kq; (· exact rfl); (· intro w1 h1; have hq := CallsTo.q (show CallsTo Try.prog 33 [.slice a2 (sealL l).length c2, .slice a1 (sealL l).length c1] w1 _ from c19 a2 a1 c2 c1 (sealL l) (sealL l) w1 (ownsRow_rd (h1.holds (osl (.slice a2 (sealL l).length c2) 5 1 (sealL l).length (bv (sealL l))) (by (repeat (first | exact mH _ _ | apply mT))))) (ownsRow_rd (h1.holds (osl (.slice a1 (sealL l).length c1) 5 1 (sealL l).length (bv (sealL l))) (by (repeat (first | exact mH _ _ | apply mT))))) (by omega)) h1; rw [decide_eq_true rfl] at hq; exact hq))|((first|(apply kR;iterate 2 exact rfl)|(apply kQ;exact rfl));all_goals(intro hc;try simp only[hcs]at hc;try(exfalso;first|contradiction|omega))))
    all_goals (
      (apply ret1; (· exact rfl); intro w' hS)
      exact ⟨rfl, hS.toKeep⟩)
  · have hpz := hbad he
    subst hpz
    repeat'(first|(apply kp;iterate 2 exact rfl)|apply jJ|(apply jE;exact rfl)|(apply jp;exact rfl)|(apply jc;kernel_rfl)|((first|apply kf|apply kn|apply ke|apply kx|apply kc|apply kb);iterate 2 exact rfl)|((first|apply kz|apply ky);(·exact rfl);(·repeat(first|exact iO|exact iR rfl|apply iT));iterate 2 exact rfl)|(apply kg;iterate 2 exact rfl)|(apply kG;iterate 3 exact rfl)|(apply kB;(iterate 2 exact rfl);intro _)|(apply kA;exact rfl;intro _)|(apply Go.Hb.kK;(iterate 4 exact rfl);intro _)|(apply kU;(iterate 2 exact rfl);(·repeat(first|exact sH _ _ _|apply sT));(first|exact nfL_eq rfl|exact rfl);exact rfl)|((first|apply kh|apply kl);(iterate 2 exact rfl);(first|decide|omega);exact rfl)|((first|(apply kR;iterate 2 exact rfl)|(apply kQ;exact rfl));all_goals(intro hc;try simp only[hcs]at hc;try(exfalso;first|contradiction|omega))))
    all_goals (
      (apply ret1; (· exact rfl); intro w' hS)
      exact ⟨rfl, hS.toKeep⟩)
end Go.Proofs.Ytkolmkdbjagfcaa
