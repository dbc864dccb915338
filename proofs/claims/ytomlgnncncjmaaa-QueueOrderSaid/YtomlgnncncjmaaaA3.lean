/-
  CopyBytes, Clone; the writer of the layer word.
-/
import Derived.Test.YtomlgnncncjmaaaTys
-- all by hand
namespace Go.Proofs.Ytomlgnncncjmaaa
open Go.Hb
attribute [local irreducible] LR CW At Ev thn blk finK noG again CallsTo
set_option linter.unusedSimpArgs false
set_option linter.unusedVariables false
set_option maxRecDepth 100000

/-- New bytes. -/
def NewB (w w' : World) (v : Value) (l : List Int) : Prop := ∃ a c, v = .slice a l.length c ∧ NewSl w w' (.slice a l.length c) 5 1 l.length (bv l)

theorem c22 (a : Option Addr) (ca : Nat) (l : List Int) (w : World) (hr : Rd w a (bv l)) (hz : a = none → ca = 0) (hm : l.length ≤ 140737488355328) :
    CallsTo Try.prog 22 [.slice a l.length ca] w fun v w' => NewB w w' v l := by
  refine go_in (n := 8) (St.rd1 hr) Try.func22 rfl rfl ?_
  repeat' (
    first
    | (
      first
      | (apply kp; iterate 2 exact rfl)
      | apply ja | apply jb | apply jg | apply jj | (apply je; exact rfl) | (apply jf; exact rfl) | apply jd | apply jh | apply ji | (apply jc; kernel_rfl) | apply jk | apply jl | apply jm | apply jn | apply jo | (apply jp; exact rfl) | apply jq | apply jr | apply js | apply jt | apply ju | apply jv | apply jw | apply kN | apply kM
      | (apply kf; iterate 2 exact rfl)
      | (apply ko; (· exact rfl); (· repeat (first | exact mH _ _ | apply mT)); iterate 2 exact rfl)
      | (apply ka; (· exact rfl); (· repeat (first | exact mH _ _ | apply mT)); iterate 2 exact rfl)
      | (apply kr; (· exact rfl); (· repeat (first | exact mH _ _ | apply mT)); iterate 3 exact rfl)
      | (apply ks; (· exact rfl); (· repeat (first | exact mH _ _ | apply mT)); iterate 2 exact rfl)
      | (apply kn; iterate 2 exact rfl)
      | (apply ke; iterate 2 exact rfl)
      | (apply kx; iterate 2 exact rfl)
      | (apply kc; iterate 2 exact rfl)
      | (apply kb; iterate 2 exact rfl)
      | (apply kg; iterate 2 exact rfl)
      | (apply kG; iterate 3 exact rfl)
      | (apply kB; (iterate 2 exact rfl); intro _)
      | (apply kA; exact rfl; intro _)
      | (apply kL; (iterate 3 exact rfl); (· repeat (first | exact BS.nil _ | (apply BS.int; exact rfl) | (apply BS.ptr; exact rfl) | (apply BS.slice; exact rfl) | (apply BS.agg; iterate 2 exact rfl))); intro _)
      | (apply kT; (iterate 2 exact rfl); (· repeat (first | exact sH _ _ _ | apply sT)); iterate 2 exact rfl)
      | (apply kS; (iterate 2 exact rfl); (· repeat (first | exact sH _ _ _ | apply sT)); exact rfl)
      | (apply kh; (iterate 2 exact rfl); (first | decide | omega); exact rfl)
      | (apply kl; (iterate 2 exact rfl); (first | decide | omega); exact rfl)
      )
    | (refine LR.append_nil (news := bv l) rfl rfl (fun w' hw' => hw'.rd_of (List.Mem.head _)) (fun hx => ⟨hr.none_len hx, hz hx⟩) (by simp) (bv_one l) (by omega) (by unfold maxLen; omega) rfl ?_; intro a' c')
    | ((first | (apply kR; (· exact rfl); (· exact rfl)) | (apply kQ; (· exact rfl))); all_goals (intro hc; try simp only [decide_eq_true_eq, decide_eq_false_iff_not, Bool.not_eq_true', Bool.not_eq_false', Bool.not_eq_true, Bool.not_eq_false, Bool.not_true, Bool.not_false, Int.not_lt, Int.not_le, List.cons.injEq, and_true, beq_iff_eq, beq_eq_false_iff_ne] at hc; try (exfalso; first | contradiction | omega)))
    )
  (apply ret1; (· exact rfl); intro w' hS)
  exact ⟨_, _, rfl, hS.toNew (List.Mem.head _)⟩

theorem c86 (a : Option Addr) (ca : Nat) (l : List Int) (w : World) (hr : Rd w a (bv l)) (hz : a = none → ca = 0) (hm : l.length ≤ 140737488355328) :
    CallsTo Try.prog 86 [.slice a l.length ca] w fun v w' => NewB w w' v l := by
  refine go_in (n := 8) (St.rd1 hr) Try.func86 rfl rfl ?_
  cases a with
  | none =>
    have h0 := hr.none_len rfl
    repeat' (
      first
      | (
        first
        | (apply kp; iterate 2 exact rfl)
        | apply ja | apply jb | apply jg | apply jj | (apply je; exact rfl) | (apply jf; exact rfl) | apply jd | apply jh | apply ji | (apply jc; kernel_rfl) | apply jk | apply jl | apply jm | apply jn | apply jo | (apply jp; exact rfl) | apply jq | apply jr | apply js | apply jt | apply ju | apply jv | apply jw | apply kN | apply kM
        | (apply kf; iterate 2 exact rfl)
        | (apply ko; (· exact rfl); (· repeat (first | exact mH _ _ | apply mT)); iterate 2 exact rfl)
        | (apply ka; (· exact rfl); (· repeat (first | exact mH _ _ | apply mT)); iterate 2 exact rfl)
        | (apply kr; (· exact rfl); (· repeat (first | exact mH _ _ | apply mT)); iterate 3 exact rfl)
        | (apply ks; (· exact rfl); (· repeat (first | exact mH _ _ | apply mT)); iterate 2 exact rfl)
        | (apply kn; iterate 2 exact rfl)
        | (apply ke; iterate 2 exact rfl)
        | (apply kx; iterate 2 exact rfl)
        | (apply kc; iterate 2 exact rfl)
        | (apply kb; iterate 2 exact rfl)
        | (apply kg; iterate 2 exact rfl)
        | (apply kG; iterate 3 exact rfl)
        | (apply kB; (iterate 2 exact rfl); intro _)
        | (apply kA; exact rfl; intro _)
        | (apply kL; (iterate 3 exact rfl); (· repeat (first | exact BS.nil _ | (apply BS.int; exact rfl) | (apply BS.ptr; exact rfl) | (apply BS.slice; exact rfl) | (apply BS.agg; iterate 2 exact rfl))); intro _)
        | (apply kT; (iterate 2 exact rfl); (· repeat (first | exact sH _ _ _ | apply sT)); iterate 2 exact rfl)
        | (apply kS; (iterate 2 exact rfl); (· repeat (first | exact sH _ _ _ | apply sT)); exact rfl)
        | (apply kh; (iterate 2 exact rfl); (first | decide | omega); exact rfl)
        | (apply kl; (iterate 2 exact rfl); (first | decide | omega); exact rfl)
        )
      | ((first | (apply kR; (· exact rfl); (· exact rfl)) | (apply kQ; (· exact rfl))); all_goals (intro hc; try simp only [decide_eq_true_eq, decide_eq_false_iff_not, Bool.not_eq_true', Bool.not_eq_false', Bool.not_eq_true, Bool.not_eq_false, Bool.not_true, Bool.not_false, Int.not_lt, Int.not_le, List.cons.injEq, and_true, beq_iff_eq, beq_eq_false_iff_ne] at hc; try (exfalso; first | contradiction | omega)))
      )
    (apply ret1; (· exact rfl); intro w' hS)
    have hl : l = [] := List.eq_nil_of_length_eq_zero h0
    subst hl
    exact ⟨_, _, rfl, ⟨hS.toKeep, World.ownsRow_nil _ _ _ _⟩⟩
  | some ad =>
    repeat' (
      first
      | (
        first
        | (apply kp; iterate 2 exact rfl)
        | apply ja | apply jb | apply jg | apply jj | (apply je; exact rfl) | (apply jf; exact rfl) | apply jd | apply jh | apply ji | (apply jc; kernel_rfl) | apply jk | apply jl | apply jm | apply jn | apply jo | (apply jp; exact rfl) | apply jq | apply jr | apply js | apply jt | apply ju | apply jv | apply jw | apply kN | apply kM
        | (apply kf; iterate 2 exact rfl)
        | (apply ko; (· exact rfl); (· repeat (first | exact mH _ _ | apply mT)); iterate 2 exact rfl)
        | (apply ka; (· exact rfl); (· repeat (first | exact mH _ _ | apply mT)); iterate 2 exact rfl)
        | (apply kr; (· exact rfl); (· repeat (first | exact mH _ _ | apply mT)); iterate 3 exact rfl)
        | (apply ks; (· exact rfl); (· repeat (first | exact mH _ _ | apply mT)); iterate 2 exact rfl)
        | (apply kn; iterate 2 exact rfl)
        | (apply ke; iterate 2 exact rfl)
        | (apply kx; iterate 2 exact rfl)
        | (apply kc; iterate 2 exact rfl)
        | (apply kb; iterate 2 exact rfl)
        | (apply kg; iterate 2 exact rfl)
        | (apply kG; iterate 3 exact rfl)
        | (apply kB; (iterate 2 exact rfl); intro _)
        | (apply kA; exact rfl; intro _)
        | (apply kL; (iterate 3 exact rfl); (· repeat (first | exact BS.nil _ | (apply BS.int; exact rfl) | (apply BS.ptr; exact rfl) | (apply BS.slice; exact rfl) | (apply BS.agg; iterate 2 exact rfl))); intro _)
        | (apply kT; (iterate 2 exact rfl); (· repeat (first | exact sH _ _ _ | apply sT)); iterate 2 exact rfl)
        | (apply kS; (iterate 2 exact rfl); (· repeat (first | exact sH _ _ _ | apply sT)); exact rfl)
        | (apply kh; (iterate 2 exact rfl); (first | decide | omega); exact rfl)
        | (apply kl; (iterate 2 exact rfl); (first | decide | omega); exact rfl)
        )
      | ((first | (apply kR; (· exact rfl); (· exact rfl)) | (apply kQ; (· exact rfl))); all_goals (intro hc; try simp only [decide_eq_true_eq, decide_eq_false_iff_not, Bool.not_eq_true', Bool.not_eq_false', Bool.not_eq_true, Bool.not_eq_false, Bool.not_true, Bool.not_false, Int.not_lt, Int.not_le, List.cons.injEq, and_true, beq_iff_eq, beq_eq_false_iff_ne] at hc; try (exfalso; first | contradiction | omega)))
      )
    refine LR.own_osl (k := 0) (sz := 1) (E := 5) (cs := []) (Sel.head _ _ _) (by simp) (by unfold maxLen; omega) ?_
    refine LR.append (xs := []) (news := bv l) rfl rfl (fun a' c' => Sel.head _ _ _) (fun w' hw' => hw'.rd_of (List.Mem.tail _ (List.Mem.head _))) (fun hx => ⟨hr.none_len hx, hz hx⟩) (by simp) (bv_one l) (by omega) (by unfold maxLen; omega) rfl ?_
    intro a' c'
    repeat' (
      first
      | (
        first
        | (apply kp; iterate 2 exact rfl)
        | apply ja | apply jb | apply jg | apply jj | (apply je; exact rfl) | (apply jf; exact rfl) | apply jd | apply jh | apply ji | (apply jc; kernel_rfl) | apply jk | apply jl | apply jm | apply jn | apply jo | (apply jp; exact rfl) | apply jq | apply jr | apply js | apply jt | apply ju | apply jv | apply jw | apply kN | apply kM
        | (apply kf; iterate 2 exact rfl)
        | (apply ko; (· exact rfl); (· repeat (first | exact mH _ _ | apply mT)); iterate 2 exact rfl)
        | (apply ka; (· exact rfl); (· repeat (first | exact mH _ _ | apply mT)); iterate 2 exact rfl)
        | (apply kr; (· exact rfl); (· repeat (first | exact mH _ _ | apply mT)); iterate 3 exact rfl)
        | (apply ks; (· exact rfl); (· repeat (first | exact mH _ _ | apply mT)); iterate 2 exact rfl)
        | (apply kn; iterate 2 exact rfl)
        | (apply ke; iterate 2 exact rfl)
        | (apply kx; iterate 2 exact rfl)
        | (apply kc; iterate 2 exact rfl)
        | (apply kb; iterate 2 exact rfl)
        | (apply kg; iterate 2 exact rfl)
        | (apply kG; iterate 3 exact rfl)
        | (apply kB; (iterate 2 exact rfl); intro _)
        | (apply kA; exact rfl; intro _)
        | (apply kL; (iterate 3 exact rfl); (· repeat (first | exact BS.nil _ | (apply BS.int; exact rfl) | (apply BS.ptr; exact rfl) | (apply BS.slice; exact rfl) | (apply BS.agg; iterate 2 exact rfl))); intro _)
        | (apply kT; (iterate 2 exact rfl); (· repeat (first | exact sH _ _ _ | apply sT)); iterate 2 exact rfl)
        | (apply kS; (iterate 2 exact rfl); (· repeat (first | exact sH _ _ _ | apply sT)); exact rfl)
        | (apply kh; (iterate 2 exact rfl); (first | decide | omega); exact rfl)
        | (apply kl; (iterate 2 exact rfl); (first | decide | omega); exact rfl)
        )
      | ((first | (apply kR; (· exact rfl); (· exact rfl)) | (apply kQ; (· exact rfl))); all_goals (intro hc; try simp only [decide_eq_true_eq, decide_eq_false_iff_not, Bool.not_eq_true', Bool.not_eq_false', Bool.not_eq_true, Bool.not_eq_false, Bool.not_true, Bool.not_false, Int.not_lt, Int.not_le, List.cons.injEq, and_true, beq_iff_eq, beq_eq_false_iff_ne] at hc; try (exfalso; first | contradiction | omega)))
      )
    (apply ret1; (· exact rfl); intro w' hS)
    simp only [Nat.zero_add, List.nil_append] at hS
    exact ⟨a', c', by show Value.slice a' (0 + l.length) c' = _; rw [Nat.zero_add], hS.toNew (List.Mem.head _)⟩

/-! ### the writer -/
def wrF (bw : Nat) (a : Option Addr) : Nat → Prop := fun k => k = bw ∨ ∃ ad, a = some ad ∧ k = ad.block
def wrP (T : Nat) (ex : List Value) (bw : Nat) (a : Option Addr) (c : Nat) (l : List Int) : World → Prop := fun w =>
  w.heap[bw]? = some (.cells (.slice a l.length c :: ex).toArray T (0, 0)) ∧ w.ownsRow 0 5 1 (.slice a l.length c) l.length (bv l) ∧ ∀ ad, a = some ad → ad.block ≠ bw
/-- The writer at bw has l. -/
def wrA (T : Nat) (ex : List Value) (bw : Nat) (a : Option Addr) (c : Nat) (l : List Int) : Asrt := .ex (wrF bw a) (wrP T ex bw a c l)
def wr1 (T : Nat) (ex : List Value) (bw : Nat) (a : Option Addr) (c : Nat) (l : List Int) : Asrt := .own bw (.cells (.slice a l.length c :: ex).toArray T (0, 0))
def wr2 (a : Option Addr) (c : Nat) (l : List Int) : Asrt := osl (.slice a l.length c) 5 1 l.length (bv l)

theorem wrA_dep {T : Nat} {ex : List Value} (bw : Nat) (a : Option Addr) (c : Nat) (l : List Int) : (wrA T ex bw a c l).dep := by
  intro w w' hk ⟨h1, h2, h3⟩
  refine ⟨by rw [hk bw (.inl rfl)]; exact h1, ?_, h3⟩
  refine osl.dep _ _ _ _ _ w w' (fun k hk2 => hk k ?_) h2
  simp only [osl, Asrt.foot] at hk2
  cases a with
  | none => simp [Value.ownBlock] at hk2
  | some ad => simp [Value.ownBlock] at hk2; exact .inr ⟨ad, rfl, hk2.symm⟩

theorem wr_live {T : Nat} {ex : List Value} {w : World} {bw : Nat} {a : Option Addr} {c : Nat} {l : List Int} (h : wrP T ex bw a c l w) : ∀ k, wrF bw a k → k < w.heap.size := by
  rintro k (rfl | ⟨ad, rfl, rfl⟩)
  · exact (Array.getElem?_eq_some_iff.1 h.1).1
  · exact (h.2.1.lt _ rfl).2

theorem wr_open {T : Nat} {ex : List Value} {w0 w : World} {F : Nat → Prop} {R : List Asrt} {bw : Nat} {a : Option Addr} {c : Nat} {l : List Int} (h : St w0 F (wrA T ex bw a c l :: R) w) : St w0 F (wr1 T ex bw a c l :: wr2 a c l :: R) w := by
  have hh : wrP T ex bw a c l w := h.holds _ (List.Mem.head _)
  refine h.split rfl hh.1 hh.2.1 (fun k hk => .inl hk) (fun k hk => ?_) (fun k hk hk2 => ?_) (Asrt.dep_own _ _) (osl.dep _ _ _ _ _)
  · cases a with
    | none => simp [wr2, osl, Asrt.foot, Value.ownBlock] at hk
    | some ad => simp [wr2, osl, Asrt.foot, Value.ownBlock] at hk; exact .inr ⟨ad, rfl, hk.symm⟩
  · have hk' : k = bw := hk
    subst hk'
    cases a with
    | none => simp [wr2, osl, Asrt.foot, Value.ownBlock] at hk2
    | some ad => simp [wr2, osl, Asrt.foot, Value.ownBlock] at hk2; exact hh.2.2 ad rfl hk2
theorem wr_shut {T : Nat} {ex : List Value} {w0 w : World} {F : Nat → Prop} {R : List Asrt} {bw : Nat} {a : Option Addr} {c : Nat} {l : List Int} (h : St w0 F (wr1 T ex bw a c l :: wr2 a c l :: R) w) : St w0 F (wrA T ex bw a c l :: R) w := by
  refine h.merge rfl rfl ⟨h.holds _ (List.Mem.head _), h.holds _ (List.Mem.tail _ (List.Mem.head _)), fun ad ha hb => ?_⟩ (fun k hk => ?_) (wrA_dep _ _ _ _)
  · obtain ⟨d1, _⟩ := List.pairwise_cons.1 h.dis
    exact d1 (wr2 a c l) (by simp) rfl bw rfl (by subst ha; simp [wr2, osl, Asrt.foot, Value.ownBlock, hb])
  · rcases hk with hk | ⟨ad, rfl, rfl⟩
    · exact .inl hk
    · exact .inr (by simp [wr2, osl, Asrt.foot, Value.ownBlock])
theorem wr_start {T : Nat} {ex : List Value} {w : World} {bw : Nat} {a : Option Addr} {c : Nat} {l : List Int} (h : wrP T ex bw a c l w) : St w (wrF bw a) [wr1 T ex bw a c l, wr2 a c l] w :=
  wr_open (St.one (a := wrA T ex bw a c l) h (wr_live h) (wrA_dep _ _ _ _))
theorem wr_end {T : Nat} {ex : List Value} {w w' : World} {R : List Asrt} {bw : Nat} {a a' : Option Addr} {c c' : Nat} {l l' : List Int} (h : St w (wrF bw a) (wr1 T ex bw a' c' l' :: wr2 a' c' l' :: R) w') : Step (wrA T ex bw a c l) (wrA T ex bw a' c' l') w w' :=
  St.step (R := R) (wr_shut h) rfl
theorem wr_same {T : Nat} {ex : List Value} {w w' : World} {R : List Asrt} {bw : Nat} {a : Option Addr} {c : Nat} {l : List Int} (h : St w (wrF bw a) (wr1 T ex bw a c l :: wr2 a c l :: R) w') : Step (wrA T ex bw a c l) (wrA T ex bw a c l) w w' := wr_end h

theorem wr_hold {T : Nat} {ex : List Value} {w0 w : World} {F : Nat → Prop} {R : List Asrt} {bw : Nat} {a : Option Addr} {c : Nat} {l : List Int} (h : St w0 F (wr1 T ex bw a c l :: wr2 a c l :: R) w) : wrP T ex bw a c l w :=
  (wr_shut h).holds _ (List.Mem.head _)
theorem wr_did {T : Nat} {ex : List Value} {w0 w w' : World} {F : Nat → Prop} {R : List Asrt} {bw : Nat} {a a' : Option Addr} {c c' : Nat} {l l' : List Int} (h : St w0 F (wr1 T ex bw a c l :: wr2 a c l :: R) w) (st : Step (wrA T ex bw a c l) (wrA T ex bw a' c' l') w w') :
    St w0 F (wr1 T ex bw a' c' l' :: wr2 a' c' l' :: R) w' := wr_open ((wr_shut h).did (Sel.head _ _ _) rfl st (wrA_dep _ _ _ _))
theorem wr_start_rd {T : Nat} {ex : List Value} {w : World} {bw : Nat} {a b : Option Addr} {c : Nat} {l : List Int} {xs : List Value} (h : wrP T ex bw a c l w) (hb : Rd w b xs) (hd : ∀ k, rdFoot b xs k → ¬ wrF bw a k) : St w (wrF bw a) [wr1 T ex bw a c l, wr2 a c l, rdA b xs] w :=
  wr_open ((St.one (a := wrA T ex bw a c l) h (wr_live h) (wrA_dep _ _ _ _)).addRd hb hd |>.swap)
/-- A new writer with nothing. -/
theorem wr_new {T : Nat} {ex : List Value} {w0 w : World} {F : Nat → Prop} {R : List Asrt} {bw : Nat} (h : St w0 F (.own bw (.cells (.slice none 0 0 :: ex).toArray T (0, 0)) :: R) w) : St w0 F (wr1 T ex bw none 0 [] :: wr2 none 0 [] :: R) w := by
  have h2 : St w0 F (wr2 none 0 [] :: .own bw (.cells (.slice none 0 0 :: ex).toArray T (0, 0)) :: R) w :=
    h.push (Grew.refl w) (World.ownsRow_nil w 0 5 1) (fun k hk => by simp [wr2, osl, Asrt.foot, Value.ownBlock] at hk) (osl.dep _ _ _ _ _)
  exact h2.swap

theorem c88 (bw : Nat) (v : Value) (w : World) (h : w.heap[bw]? = some (.cells [v, .bool true].toArray 118 (0, 0))) : CallsTo Try.prog 88 [.pointer (some ⟨bw, 0, none⟩)] w fun u w' => u = .bool false ∧ Grew w w' := by
  refine go_in (n := 12) (St.rd1 (a := some ⟨bw, 0, none⟩) (xs := [v, .bool true]) (fun j u hj => ⟨_, rfl, by rw [addr_add, cell_own h]; simpa using hj⟩)) Try.func88 rfl rfl ?_
  repeat' (
    first
    | (
      first
      | (apply kp; iterate 2 exact rfl)
      | apply ja | apply jb | apply jg | apply jj | (apply je; exact rfl) | (apply jf; exact rfl) | apply jd | apply jh | apply ji | (apply jc; kernel_rfl) | apply jk | apply jl | apply jm | apply jn | apply jo | (apply jp; exact rfl) | apply jq | apply jr | apply js | apply jt | apply ju | apply jv | apply jw | apply kN | apply kM
      | (apply kf; iterate 2 exact rfl)
      | (apply ko; (· exact rfl); (· repeat (first | exact mH _ _ | apply mT)); iterate 2 exact rfl)
      | (apply ka; (· exact rfl); (· repeat (first | exact mH _ _ | apply mT)); iterate 2 exact rfl)
      | (apply kr; (· exact rfl); (· repeat (first | exact mH _ _ | apply mT)); iterate 3 exact rfl)
      | (apply ks; (· exact rfl); (· repeat (first | exact mH _ _ | apply mT)); iterate 2 exact rfl)
      | (apply kn; iterate 2 exact rfl)
      | (apply ke; iterate 2 exact rfl)
      | (apply kx; iterate 2 exact rfl)
      | (apply kc; iterate 2 exact rfl)
      | (apply kb; iterate 2 exact rfl)
      | (apply kg; iterate 2 exact rfl)
      | (apply kG; iterate 3 exact rfl)
      | (apply kB; (iterate 2 exact rfl); intro _)
      | (apply kA; exact rfl; intro _)
      | (apply kL; (iterate 3 exact rfl); (· repeat (first | exact BS.nil _ | (apply BS.int; exact rfl) | (apply BS.ptr; exact rfl) | (apply BS.slice; exact rfl) | (apply BS.agg; iterate 2 exact rfl))); intro _)
      | (apply kT; (iterate 2 exact rfl); (· repeat (first | exact sH _ _ _ | apply sT)); iterate 2 exact rfl)
      | (apply kS; (iterate 2 exact rfl); (· repeat (first | exact sH _ _ _ | apply sT)); exact rfl)
      | (apply kh; (iterate 2 exact rfl); (first | decide | omega); exact rfl)
      | (apply kl; (iterate 2 exact rfl); (first | decide | omega); exact rfl)
      )
    | (apply LR.ev; (· apply Ev.load_rd; (· exact rfl); (· repeat (first | exact mH _ _ | apply mT)); (· exact rfl)); (· exact rfl))
    | ((first | (apply kR; (· exact rfl); (· exact rfl)) | (apply kQ; (· exact rfl))); all_goals (intro hc; try simp only [decide_eq_true_eq, decide_eq_false_iff_not, Bool.not_eq_true', Bool.not_eq_false', Bool.not_eq_true, Bool.not_eq_false, Bool.not_true, Bool.not_false, Int.not_lt, Int.not_le, List.cons.injEq, and_true, beq_iff_eq, beq_eq_false_iff_ne] at hc; try (exfalso; first | contradiction | omega)))
    )
  all_goals (
    (apply ret1; (· exact rfl); intro w' hS)
    exact ⟨rfl, hS.toKeep⟩)
end Go.Proofs.Ytomlgnncncjmaaa
