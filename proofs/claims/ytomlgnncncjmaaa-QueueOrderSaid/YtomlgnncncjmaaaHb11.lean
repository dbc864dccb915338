/-
  Short names for the steps of a walk; operations that only compute, by one function. Conditions: none; nothing here speaks of one program.
-/
import Derived.Test.YtomlgnncncjmaaaHb10
namespace Go.Hb

theorem mH {α : Type} (a : α) (l : List α) : a ∈ a :: l := List.Mem.head l
theorem mT {α : Type} {a : α} (b : α) {l : List α} (h : a ∈ l) : a ∈ b :: l := List.Mem.tail b h
theorem sH (a a' : Asrt) (L : List Asrt) : Sel (a :: L) a a' (a' :: L) := Sel.head a a' L
theorem sT {L L' : List Asrt} {a a' : Asrt} (x : Asrt) (h : Sel L a a' L') : Sel (x :: L) a a' (x :: L') := Sel.tail x h

section
variable {w0 w : World} {F : Nat → Prop} {R : List Asrt} {a b0 b1 b2 b3 b4 b5 b6 : Asrt}
theorem St.g0 (h : St w0 F (a :: R) w) : a.holds w := h.holds _ (mH _ _)
theorem St.g1 (h : St w0 F (b0 :: a :: R) w) : a.holds w := h.holds _ (mT _ (mH _ _))
theorem St.g2 (h : St w0 F (b0 :: b1 :: a :: R) w) : a.holds w := h.holds _ (mT _ (mT _ (mH _ _)))
theorem St.g3 (h : St w0 F (b0 :: b1 :: b2 :: a :: R) w) : a.holds w := h.holds _ (mT _ (mT _ (mT _ (mH _ _))))
theorem St.g4 (h : St w0 F (b0 :: b1 :: b2 :: b3 :: a :: R) w) : a.holds w := h.holds _ (mT _ (mT _ (mT _ (mT _ (mH _ _)))))
theorem St.g5 (h : St w0 F (b0 :: b1 :: b2 :: b3 :: b4 :: a :: R) w) : a.holds w := h.holds _ (mT _ (mT _ (mT _ (mT _ (mT _ (mH _ _))))))
theorem St.g6 (h : St w0 F (b0 :: b1 :: b2 :: b3 :: b4 :: b5 :: a :: R) w) : a.holds w := h.holds _ (mT _ (mT _ (mT _ (mT _ (mT _ (mT _ (mH _ _)))))))
theorem St.g7 (h : St w0 F (b0 :: b1 :: b2 :: b3 :: b4 :: b5 :: b6 :: a :: R) w) : a.holds w := h.holds _ (mT _ (mT _ (mT _ (mT _ (mT _ (mT _ (mT _ (mH _ _))))))))
end
/-- A value, looked at. -/
def lookV : Value → Option Value
  | .bool b => some (.bool b)
  | .int k n => some (.int k n)
  | .pointer a => some (.pointer a)
  | .slice a l c => some (.slice a l c)
  | .map r => some (.map r)
  | .func g a b => some (.func g a b)
  | .nilFunc => some .nilFunc
  | .agg cs => some (.agg cs)
  | .tuple cs => some (.tuple cs)
  | _ => none
theorem lookV_eq {v u : Value} (h : lookV v = some u) : v = u := by cases v <;> simp [lookV] at h <;> exact h

def sameK : (k k' : IntKind) → Option (PLift (k = k'))
  | .i8, .i8 => some ⟨rfl⟩ | .i16, .i16 => some ⟨rfl⟩ | .i32, .i32 => some ⟨rfl⟩ | .i64, .i64 => some ⟨rfl⟩
  | .u8, .u8 => some ⟨rfl⟩ | .u16, .u16 => some ⟨rfl⟩ | .u32, .u32 => some ⟨rfl⟩ | .u64, .u64 => some ⟨rfl⟩
  | _, _ => none
def cmpV (op : BinOp) (k : IntKind) (a b : Int) : Option Value :=
  match op with
  | .eql => some (.bool (decide (a = b)))
  | .neq => some (.bool (!decide (a = b)))
  | .lss => some (.bool (decide (a < b)))
  | .leq => some (.bool (decide (a ≤ b)))
  | .gtr => some (.bool (decide (b < a)))
  | .geq => some (.bool (decide (b ≤ a)))
  | .and => some (.int k (andI k a b))
  | .or => some (.int k (orI k a b))
  | .xor => some (.int k (xorI k a b))
  | .andNot => some (.int k (andNotI k a b))
  | _ => none
def binV (op : BinOp) : Value → Value → Option Value
  | .int k a, .int k' b => match sameK k k' with | some _ => cmpV op k a b | none => none
  | _, _ => none
/-- What an operation yields that only computes. -/
def evV (f : Frm) : Op → Option Value
  | .move x => lookV (f.ev x)
  | .assign x => lookV (f.ev x)
  | .pick c a b => match f.ev c with | .bool true => lookV (f.ev a) | .bool false => lookV (f.ev b) | _ => none
  | .binOp op _ x y _ => binV op (f.ev x) (f.ev y)
  | .unOp .not _ x => match f.ev x with | .bool b => some (.bool (!b)) | _ => none
  | .nilCheck x => match f.ev x with | .pointer (some a) => some (.pointer (some a)) | _ => none
  | .extract x i => match f.ev x with | .tuple cs => (cs.toList[i]?).bind lookV | _ => none
  | .makeFunc fn xs ys => some (.func fn (xs.toList.map f.ev).toArray (ys.toList.map f.ev).toArray)
  | _ => none

section
variable {P : Program} {C : World → Prop} {f : Frm} {T T' T'' : TypeId} {x y z : Operand} {v : Value}
theorem binV_sound {op : BinOp} (h : binV op (f.ev x) (f.ev y) = some v) : Ev P C f (.binOp op T' x y T'') T v := by
  cases hx : f.ev x <;> cases hy : f.ev y <;> simp only [hx, hy, binV, reduceCtorEq] at h
  rename_i k a k' b
  split at h
  · rename_i e _
    have e := e.down
    subst e
    cases op <;> simp only [cmpV, Option.some.injEq, reduceCtorEq] at h <;> subst h
    · exact Ev.and hx hy
    · exact Ev.or hx hy
    · exact Ev.xor hx hy
    · exact Ev.andNot hx hy
    · exact Ev.eql hx hy
    · exact Ev.neq hx hy
    · exact Ev.lss hx hy
    · exact Ev.leq hx hy
    · exact Ev.gtr hx hy
    · exact Ev.geq hx hy
  · cases h
theorem evV_sound {op : Op} (h : evV f op = some v) : Ev P C f op T v := by
  cases op with
  | move x => exact Ev.moveV (lookV_eq h)
  | assign x => exact Ev.assignV (lookV_eq h)
  | pick c a b =>
    simp only [evV] at h
    split at h
    · rename_i hc; exact lookV_eq h ▸ Ev.pick_t hc
    · rename_i hc; exact lookV_eq h ▸ Ev.pick_f hc
    · cases h
  | binOp op t x y t' => exact binV_sound h
  | unOp op t x =>
    cases op with
    | not =>
      simp only [evV] at h
      split at h
      · rename_i hc; cases h; exact Ev.not hc
      · cases h
    | _ => cases h
  | nilCheck x =>
    simp only [evV] at h
    split at h
    · rename_i hc; cases h; exact Ev.nilCheck hc
    · cases h
  | extract x i =>
    simp only [evV] at h
    split at h
    · rename_i cs hc
      obtain ⟨l⟩ := cs
      obtain ⟨u, hu, hl⟩ := Option.bind_eq_some_iff.1 h
      exact lookV_eq hl ▸ Ev.extract hc hu
    · cases h
  | makeFunc fn xs ys =>
    cases h
    exact Ev.makeFunc (xs := xs.toList) (ys := ys.toList)
  | _ => cases h
end

/-! ### tests for sameness, by type -/
class EqOf (P : Program) (T : TypeId) (e : outParam (Value → Value → Option Bool)) : Prop where
  eq : ∀ {C : World → Prop} {f : Frm} {T1 T2 : TypeId} {x y : Operand} {b : Bool}, e (f.ev x) (f.ev y) = some b → Ev P C f (.binOp .eql T x y T2) T1 (.bool b)
  ne : ∀ {C : World → Prop} {f : Frm} {T1 T2 : TypeId} {x y : Operand} {b : Bool}, e (f.ev x) (f.ev y) = some b → Ev P C f (.binOp .neq T x y T2) T1 (.bool (!b))
def eqBool : Value → Value → Option Bool
  | .bool a, .bool b => some (a == b)
  | _, _ => none
def eqPtr : Value → Value → Option Bool
  | .pointer a, .pointer none => some a.isNone
  | _, _ => none
def eqSl : Value → Value → Option Bool
  | .slice a _ _, .slice none 0 0 => some a.isNone
  | _, _ => none
def eq2V : Value → Value → Option Bool
  | .agg ⟨[.int .i64 a, .int .i64 b]⟩, .agg ⟨[.int .i64 a', .int .i64 b']⟩ => some (decide ([a, b] = [a', b']))
  | _, _ => none
def eq4V : Value → Value → Option Bool
  | .agg ⟨[.int .i64 a, .int .i64 b, .int .i64 c, .int .i64 d]⟩, .agg ⟨[.int .i64 a', .int .i64 b', .int .i64 c', .int .i64 d']⟩ => some (decide ([a, b, c, d] = [a', b', c', d']))
  | _, _ => none
theorem eqBool_inv {v u : Value} {b : Bool} (h : eqBool v u = some b) : ∃ x y, v = .bool x ∧ u = .bool y ∧ b = (x == y) := by
  unfold eqBool at h; split at h
  · cases h; exact ⟨_, _, rfl, rfl, rfl⟩
  · cases h
theorem eqPtr_inv {v u : Value} {b : Bool} (h : eqPtr v u = some b) : ∃ x, v = .pointer x ∧ u = .pointer none ∧ b = x.isNone := by
  unfold eqPtr at h; split at h
  · cases h; exact ⟨_, rfl, rfl, rfl⟩
  · cases h
theorem eqSl_inv {v u : Value} {b : Bool} (h : eqSl v u = some b) : ∃ x l c, v = .slice x l c ∧ u = .slice none 0 0 ∧ b = x.isNone := by
  unfold eqSl at h; split at h
  · cases h; exact ⟨_, _, _, rfl, rfl, rfl⟩
  · cases h
theorem eq2V_inv {v u : Value} {r : Bool} (h : eq2V v u = some r) : ∃ a b a' b', v = .agg [.int .i64 a, .int .i64 b].toArray ∧ u = .agg [.int .i64 a', .int .i64 b'].toArray ∧ r = decide ([a, b] = [a', b']) := by
  unfold eq2V at h; split at h
  · cases h; exact ⟨_, _, _, _, rfl, rfl, rfl⟩
  · cases h
theorem eq4V_inv {v u : Value} {r : Bool} (h : eq4V v u = some r) : ∃ a b c d a' b' c' d', v = .agg [.int .i64 a, .int .i64 b, .int .i64 c, .int .i64 d].toArray ∧ u = .agg [.int .i64 a', .int .i64 b', .int .i64 c', .int .i64 d'].toArray ∧ r = decide ([a, b, c, d] = [a', b', c', d']) := by
  unfold eq4V at h; split at h
  · cases h; exact ⟨_, _, _, _, _, _, _, _, rfl, rfl, rfl⟩
  · cases h
instance {P : Program} {T : TypeId} [h : Bools P T] : EqOf P T eqBool where
  eq := fun hb => by obtain ⟨_, _, h1, h2, rfl⟩ := eqBool_inv hb; exact Ev.eql_bool h1 h2
  ne := fun hb => by obtain ⟨_, _, h1, h2, rfl⟩ := eqBool_inv hb; exact Ev.neq_bool h1 h2
instance {P : Program} {T : TypeId} [h : PtrTo P T] : EqOf P T eqPtr where
  eq := fun hb => by obtain ⟨_, h1, h2, rfl⟩ := eqPtr_inv hb; exact Ev.ptr_nil h1 h2
  ne := fun hb => by obtain ⟨_, h1, h2, rfl⟩ := eqPtr_inv hb; exact Ev.ptr_not_nil h1 h2
theorem Ev.slice_not_nil {P : Program} {C : World → Prop} {f : Frm} {T T' T'' : TypeId} {x y : Operand} {E : TypeId} {sz by_ : Nat} [h : SliceOf P T' E sz by_] {a : Option Addr} {l c : Nat} (hx : f.ev x = .slice a l c) (hy : f.ev y = .slice none 0 0) : Ev P C f (.binOp .neq T' x y T'') T (.bool (!a.isNone)) :=
  ev_neq_of (fun w => by rw [hx, hy]; rfl) (by rw [hx, hy]; rfl) (fun w => by rw [hx, hy]; exact run_equalIn_slc w _ a l c h.und)
instance {P : Program} {T E : TypeId} {sz by_ : Nat} [h : SliceOf P T E sz by_] : EqOf P T eqSl where
  eq := fun hb => by obtain ⟨_, _, _, h1, h2, rfl⟩ := eqSl_inv hb; exact Ev.slice_nil h1 h2
  ne := fun hb => by obtain ⟨_, _, _, h1, h2, rfl⟩ := eqSl_inv hb; exact Ev.slice_not_nil h1 h2
instance {P : Program} {T : TypeId} [h : Eqs P T 2] : EqOf P T eq2V where
  eq := fun hb => by obtain ⟨_, _, _, _, h1, h2, rfl⟩ := eq2V_inv hb; exact Ev.eq2 h1 h2
  ne := fun hb => by obtain ⟨_, _, _, _, h1, h2, rfl⟩ := eq2V_inv hb; exact Ev.ne2 h1 h2
instance {P : Program} {T : TypeId} [h : Eqs P T 4] : EqOf P T eq4V where
  eq := fun hb => by obtain ⟨_, _, _, _, _, _, _, _, h1, h2, rfl⟩ := eq4V_inv hb; exact Ev.eq4 h1 h2
  ne := fun hb => by obtain ⟨_, _, _, _, _, _, _, _, h1, h2, rfl⟩ := eq4V_inv hb; exact Ev.ne4 h1 h2

/-! ### cells of a value -/
def cellV : Value → Option (List Value)
  | .bool b => some [.bool b]
  | .int k n => some [.int k n]
  | .pointer a => some [.pointer a]
  | .slice a l c => some [.slice a l c]
  | .map r => some [.map r]
  | .func g a b => some [.func g a b]
  | .agg ⟨l⟩ => some l
  | _ => none
theorem cell_of {v : Value} {cs : List Value} (h : cellV v = some cs) : v.cells = cs.toArray := by
  cases v <;> simp only [cellV, Option.some.injEq, reduceCtorEq] at h
  all_goals try (subst h; rfl)
/-- A list, all its cells laid open. -/
def nfL : List Value → Option (List Value)
  | [] => some []
  | a :: r => match lookV a with
    | some a' => (match nfL r with | some r' => some (a' :: r') | none => none)
    | none => none
theorem nfL_eq : ∀ {l r : List Value}, nfL l = some r → l = r
  | [], r, h => by simpa [nfL] using h
  | a :: l, r, h => by
    simp only [nfL] at h
    split at h
    · rename_i a' ha
      split at h
      · rename_i r' hr; cases h; rw [nfL_eq hr, lookV_eq ha]
      · cases h
    · cases h
def fillN (places : List (Nat × Nat)) : List Value → List (Nat × Value) → Option (List Value)
  | zero, [] => some zero
  | zero, q :: r => match cellV q.2 with
    | some cs => (match (Nat.blt q.1 places.length && Nat.beq cs.length (places.getD q.1 (0, 0)).2 && Nat.ble ((places.getD q.1 (0, 0)).1 + cs.length) zero.length) with
      | true => (match nfL (zero.take (places.getD q.1 (0, 0)).1 ++ cs ++ zero.drop ((places.getD q.1 (0, 0)).1 + cs.length)) with
        | some z => fillN places z r
        | none => none)
      | false => none)
    | none => none
theorem fillN_eq {places : List (Nat × Nat)} : ∀ {parts : List (Nat × Value)} {zero cs : List Value}, fillN places zero parts = some cs → wfParts places zero.length parts = true ∧ fillL places zero parts = cs
  | [], zero, cs, h => by simp only [fillN, Option.some.injEq] at h; exact ⟨rfl, h⟩
  | q :: r, zero, cs, h => by
    simp only [fillN] at h
    split at h
    · rename_i c hc
      have hcl := congrArg Array.toList (cell_of hc)
      split at h
      · rename_i hw
        split at h
        · rename_i z hz
          have hz := nfL_eq hz
          simp only [Bool.and_eq_true] at hw
          obtain ⟨h1, h2⟩ := fillN_eq h
          have hlen : z.length = zero.length := by
            rw [← hz]
            have := Nat.le_of_ble_eq_true hw.2
            simp only [List.length_append, List.length_take, List.length_drop]; omega
          refine ⟨?_, ?_⟩
          · simp only [wfParts, hcl, hw.1.1, hw.1.2, hw.2, Bool.true_and, hlen ▸ h1]
          · simp only [fillL, hcl, hz, h2]
        · cases h
      · cases h
    · cases h
def noV : Value → Bool → Bool
  | .bool c, b => !(c == b)
  | .tuple _, _ => true
  | _, _ => false

section
variable {m : Bool} {P : Program} {n : Nat} {ops rest : List Oper} {Q : Post} {f : Frm} {C : World → Prop} {op : Op} {T T' T'' : TypeId} {p : String} {af : Array Edge} {d : Nat} {v : Value} {x y : Operand} {w0 : World} {F : Nat → Prop} {L L' : List Asrt}
theorem kp (h : evV f op = some v) (hd : Nat.blt d n = true) (k : LR m P n ops rest Q (upd f d v) C) : LR m P n ops (⟨some d, op, T, p, af, none⟩ :: rest) Q f C := LR.ev (evV_sound h) hd k
theorem kf {i off b o : Nat} [h : Fld P T' i off] (hx : f.ev x = .pointer (some ⟨b, o, none⟩)) (hd : Nat.blt d n = true) (k : LR m P n ops rest Q (upd f d (.pointer (some ⟨b, o + off, none⟩))) C) : LR m P n ops (⟨some d, .fieldAddr T' x i, T, p, af, none⟩ :: rest) Q f C := LR.ev (Ev.fieldAddr hx) hd k
theorem ko {b o : Nat} {cs : List Value} {E : TypeId} {fr : Nat × Nat} [h : One P T] (hx : f.ev x = .pointer (some ⟨b, o, none⟩)) (hm : Asrt.own b (.cells cs.toArray E fr) ∈ L) (hc : cs[o]? = some v) (hd : Nat.blt d n = true) (k : LR m P n ops rest Q (upd f d v) (St w0 F L)) :
    LR m P n ops (⟨some d, .load T x, T', p, af, none⟩ :: rest) Q f (St w0 F L) := LR.ev (Ev.load_own hx hm hc) hd k
theorem ka {b o q : Nat} {cs : List Value} {E : TypeId} {fr : Nat × Nat} [h : Agg P T q] (hx : f.ev x = .pointer (some ⟨b, o, none⟩)) (hm : Asrt.own b (.cells cs.toArray E fr) ∈ L) (hl : Nat.ble (o + q) cs.length = true) (hd : Nat.blt d n = true) (k : LR m P n ops rest Q (upd f d (.agg ((cs.drop o).take q).toArray)) (St w0 F L)) :
    LR m P n ops (⟨some d, .load T x, T', p, af, none⟩ :: rest) Q f (St w0 F L) := LR.ev (Ev.load_agg hx hm hl) hd k
theorem kn {E : TypeId} {sz by_ l c : Nat} {a : Option Addr} [h : SliceOf P T' E sz by_] (hx : f.ev x = .slice a l c) (hd : Nat.blt d n = true) (k : LR m P n ops rest Q (upd f d (.int .i64 l)) C) : LR m P n ops (⟨some d, .call ⟨.builtin .len, [x].toArray, [T'].toArray⟩, T, p, af, none⟩ :: rest) Q f C := LR.ev (Ev.len hx) hd k
theorem ke {e : Value → Value → Option Bool} {b : Bool} [h : EqOf P T' e] (hb : e (f.ev x) (f.ev y) = some b) (hd : Nat.blt d n = true) (k : LR m P n ops rest Q (upd f d (.bool b)) C) : LR m P n ops (⟨some d, .binOp .eql T' x y T'', T, p, af, none⟩ :: rest) Q f C := LR.ev (h.eq hb) hd k
theorem kx {e : Value → Value → Option Bool} {b : Bool} [h : EqOf P T' e] (hb : e (f.ev x) (f.ev y) = some b) (hd : Nat.blt d n = true) (k : LR m P n ops rest Q (upd f d (.bool (!b))) C) : LR m P n ops (⟨some d, .binOp .neq T' x y T'', T, p, af, none⟩ :: rest) Q f C := LR.ev (h.ne hb) hd k
theorem kc {k k' : IntKind} {a : Int} [hi : ToInt P T' T'' k] (hx : f.ev x = .int k' a) (hd : Nat.blt d n = true) (kk : LR m P n ops rest Q (upd f d (.int k (k.wrap a))) C) : LR m P n ops (⟨some d, .convert T' T'' x, T, p, af, none⟩ :: rest) Q f C := LR.ev (Ev.conv hx) hd kk
theorem kb {parts : List (Nat × Operand)} {zero cs : List Value} {places : List (Nat × Nat)} [h : Build P T' zero places] (hw : fillN places zero (parts.map fun q => (q.1, f.ev q.2)) = some cs) (hd : Nat.blt d n = true)
    (k : LR m P n ops rest Q (upd f d (.agg cs.toArray)) C) : LR m P n ops (⟨some d, .build T' parts.toArray, T, p, af, none⟩ :: rest) Q f C := by
  obtain ⟨h1, rfl⟩ := fillN_eq hw
  exact LR.ev (Ev.build h1) hd k
theorem Ev.buildN {parts : List (Nat × Operand)} {zero cs : List Value} {places : List (Nat × Nat)} [h : Build P T' zero places] (hw : fillN places zero (parts.map fun q => (q.1, f.ev q.2)) = some cs) : Ev P C f (.build T' parts.toArray) T (.agg cs.toArray) := by
  obtain ⟨h1, rfl⟩ := fillN_eq hw
  exact Ev.build h1
theorem Ev.load_rdq {b o q : Nat} {xs : List Value} [h : One P T] (hx : f.ev x = .pointer (some ⟨b, q, none⟩)) (hm : rdA (some ⟨b, o, none⟩) xs ∈ L) (ho : Nat.ble o q = true) (hc : xs[q - o]? = some v) : Ev P (St w0 F L) f (.load T x) T' v :=
  Ev.load hx fun w hw => by
    have := (hw.rd_of hm).cell hc
    rwa [show o + (q - o) = q by have := Nat.le_of_ble_eq_true ho; omega] at this
theorem Ev.load_ardq {b o q k : Nat} {xs : List Value} [h : Agg P T k] (hx : f.ev x = .pointer (some ⟨b, q, none⟩)) (hm : rdA (some ⟨b, o, none⟩) xs ∈ L) (ho : (Nat.ble o q && Nat.ble (q - o + k) xs.length) = true) : Ev P (St w0 F L) f (.load T x) T' (.agg ((xs.drop (q - o)).take k).toArray) := by
  simp only [Bool.and_eq_true] at ho
  have h1 := Nat.le_of_ble_eq_true ho.1
  have h2 := Nat.le_of_ble_eq_true ho.2
  refine Ev.load_agg_at hx (by simp; omega) fun w hw j v hj => ?_
  rw [List.getElem?_take] at hj
  split at hj
  · rw [List.getElem?_drop] at hj
    have := (hw.rd_of hm).cell hj
    rw [addr_add]
    rwa [show o + (q - o + j) = q + j by omega] at this
  · cases hj
theorem kr {b o q : Nat} {xs : List Value} [h : One P T] (hx : f.ev x = .pointer (some ⟨b, q, none⟩)) (hm : rdA (some ⟨b, o, none⟩) xs ∈ L) (ho : Nat.ble o q = true) (hc : xs[q - o]? = some v) (hd : Nat.blt d n = true) (k : LR m P n ops rest Q (upd f d v) (St w0 F L)) :
    LR m P n ops (⟨some d, .load T x, T', p, af, none⟩ :: rest) Q f (St w0 F L) := LR.ev (Ev.load_rdq hx hm ho hc) hd k
theorem ks {b o q k : Nat} {xs : List Value} [h : Agg P T k] (hx : f.ev x = .pointer (some ⟨b, q, none⟩)) (hm : rdA (some ⟨b, o, none⟩) xs ∈ L) (ho : (Nat.ble o q && Nat.ble (q - o + k) xs.length) = true) (hd : Nat.blt d n = true) (kk : LR m P n ops rest Q (upd f d (.agg ((xs.drop (q - o)).take k).toArray)) (St w0 F L)) :
    LR m P n ops (⟨some d, .load T x, T', p, af, none⟩ :: rest) Q f (St w0 F L) := LR.ev (Ev.load_ardq hx hm ho) hd kk
theorem kh {q q' : IntKind} {a b : Int} (hx : f.ev x = .int q a) (hy : f.ev y = .int q' b) (h : 0 ≤ b) (hd : Nat.blt d n = true) (k : LR m P n ops rest Q (upd f d (.int q (a.fdiv (2 ^ (min b.toNat q.bits))))) C) : LR m P n ops (⟨some d, .binOp .shr T' x y T'', T, p, af, none⟩ :: rest) Q f C := LR.ev (Ev.shr hx hy h) hd k
theorem kl {q q' : IntKind} {a b : Int} (hx : f.ev x = .int q a) (hy : f.ev y = .int q' b) (h : 0 ≤ b) (hd : Nat.blt d n = true) (k : LR m P n ops rest Q (upd f d (.int q (q.wrap (a * 2 ^ (min b.toNat q.bits))))) C) : LR m P n ops (⟨some d, .binOp .shl T' x y T'', T, p, af, none⟩ :: rest) Q f C := LR.ev (Ev.shl hx hy h) hd k
theorem kg {dst : Option Tmp} {j dj : Nat} {b : Bool} (hj : (ops[j]?).bind (·.dst) = some dj) (hb : f dj = .bool b) (k : LR m P n ops (⟨dst, op, T, p, af, none⟩ :: rest) Q f C) : LR m P n ops (⟨dst, op, T, p, af, some (j, b)⟩ :: rest) Q f C := LR.guard_yes hj hb k
theorem kG {j dj : Nat} {b : Bool} (hj : (ops[j]?).bind (·.dst) = some dj) (hb : noV (f dj) b = true) (hd : Nat.blt d n = true) (k : LR m P n ops rest Q (upd f d undef) C) : LR m P n ops (⟨some d, op, T, p, af, some (j, b)⟩ :: rest) Q f C :=
  LR.skip_of hj (by cases hx : f dj <;> rw [hx] at hb <;> simp [noV] at hb ⊢; exact fun e => hb e) hd k
theorem kB {cs : List Value} (hv : cellV (f.ev x) = some cs) (hd : Nat.blt d n = true) (k : ∀ b, LR false P n ops rest Q (upd f d (.pointer (some ⟨b, 0, none⟩))) (St w0 F (.own b (.cells cs.toArray T (0, 0)) :: L))) :
    LR false P n ops (⟨some d, .box T x, T', p, af, none⟩ :: rest) Q f (St w0 F L) := LR.box (cell_of hv) hd k
theorem kA {cs : List Value} [h : ZeroOf P T cs] (hd : Nat.blt d n = true) (k : ∀ b, LR false P n ops rest Q (upd f d (.pointer (some ⟨b, 0, none⟩))) (St w0 F (.own b (.cells cs.toArray T (0, 0)) :: L))) :
    LR false P n ops (⟨some d, .alloc T, T', p, af, none⟩ :: rest) Q f (St w0 F L) := LR.alloc hd k
theorem kS {b o q : Nat} {cs vs : List Value} {E : TypeId} [h : Sz P T q] (hx : f.ev x = .pointer (some ⟨b, o, none⟩)) (hv : cellV (f.ev y) = some vs)
    (hs : Sel L (.own b (.cells cs.toArray E (0, 0))) (.own b (.cells (splice cs o vs).toArray E (0, 0))) L')
    (h1 : (vs.all Value.oneCell' && Nat.beq vs.length q && Nat.ble (o + vs.length) cs.length) = true)
    (k : LR false P n ops rest Q f (St w0 F L')) : LR false P n ops (⟨none, .store T x y, T', p, af, none⟩ :: rest) Q f (St w0 F L) := by
  simp only [Bool.and_eq_true] at h1
  exact LR.store hx (cell_of hv) hs h1.1.1 h1.1.2 h1.2 k
theorem kT {b o q : Nat} {cs vs cs' : List Value} {E : TypeId} [h : Sz P T q] (hx : f.ev x = .pointer (some ⟨b, o, none⟩)) (hv : cellV (f.ev y) = some vs)
    (hs : Sel L (.own b (.cells cs.toArray E (0, 0))) (.own b (.cells cs'.toArray E (0, 0))) L')
    (hn : nfL (splice cs o vs) = some cs') (h1 : (vs.all Value.oneCell' && Nat.beq vs.length q && Nat.ble (o + vs.length) cs.length) = true)
    (k : LR false P n ops rest Q f (St w0 F L')) : LR false P n ops (⟨none, .store T x y, T', p, af, none⟩ :: rest) Q f (St w0 F L) := by
  cases nfL_eq hn
  exact kS hx hv hs h1 k
theorem kL {E : TypeId} {sz by_ len : Nat} [h : SliceOf P T E sz by_] {parts : List (Nat × Operand)} {cs : List Value} (hd : Nat.blt d n = true) (hlen : Nat.ble (len * sz) 100000 = true)
    (hp : parts.map (·.1) = List.range len) (hb : BS f sz parts cs)
    (k : ∀ b, LR false P n ops rest Q (upd f d (.slice (some ⟨b, 0, none⟩) len len)) (St w0 F (.own b (.cells cs.toArray E (0, 0)) :: L))) :
    LR false P n ops (⟨some d, .buildSlice T len parts.toArray, T', p, af, none⟩ :: rest) Q f (St w0 F L) := LR.buildSliceB hd hlen hp hb k
theorem kN {y : Code} (h : CW P n y Q f C) : LR m P n ops [] (thn P n y Q) f C := LR.nil_thn h
theorem kM (h : At Q .normal f C) : LR m P n ops [] Q f C := LR.nil h
/-- A condition, parted. -/
theorem kQ {c : Operand} {s t : Code} {b : Bool} (hb : f.ev c = .bool b) (ht : b = true → CW P n s Q f C) (hf : b = false → CW P n t Q f C) : CW P n (.cond c s t) Q f C := CW.cond hb ht hf
theorem kR {op' : Op} {dst : Option Tmp} {j dj : Nat} {b c : Bool} (hj : (ops[j]?).bind (·.dst) = some dj) (hb : f dj = .bool c)
    (yes : c = true → LR m P n ops (⟨dst, op', T, p, af, some (j, b)⟩ :: rest) Q (upd f dj (.bool true)) C)
    (no : c = false → LR m P n ops (⟨dst, op', T, p, af, some (j, b)⟩ :: rest) Q (upd f dj (.bool false)) C) :
    LR m P n ops (⟨dst, op', T, p, af, some (j, b)⟩ :: rest) Q f C := LR.guard_split hj hb yes no
/-- A quiet call. -/
theorem kq {g : FuncId} {xs : List Operand} {ts : Array TypeId} [own : Own P g] (hd : Nat.blt d n = true)
    (h : ∀ w, C w → CallsTo P g (xs.map f.ev) w fun u w' => u = v ∧ C w') (k : LR m P n ops rest Q (upd f d v) C) :
    LR m P n ops (⟨some d, .call ⟨.value (.func g), xs.toArray, ts⟩, T, p, af, none⟩ :: rest) Q f C := LR.qcall hd h k
/-- A call. -/
theorem kC {g : FuncId} {xs : List Operand} {ts : Array TypeId} [own : Own P g] (hd : Nat.blt d n = true)
    (h : ∀ w, C w → CallsTo P g (xs.map f.ev) w fun v w' => LW P n ops rest Q (upd f d v) (fun u => u = w')) :
    LR false P n ops (⟨some d, .call ⟨.value (.func g), xs.toArray, ts⟩, T, p, af, none⟩ :: rest) Q f C := LR.call hd h
end

/-! ### control -/
section
variable {P : Program} {n : Nat} {Q : Post} {f : Frm} {C : World → Prop}
theorem ja {x y : Code} (h : CW P n x (thn P n y Q) f C) : CW P n (.seq x y) Q f C := CW.seq h
theorem jb {id : Nat} {l : List Oper} (h : LR false P n l l Q f C) : CW P n (.region id l.toArray false) Q f C := CW.reg h
theorem jc {id : Nat} {l : List Oper} [hm : Mixed P] [hc : Drawn C] (hB : Region.lexB .any l.toArray = true) (h : LR true P n l l Q f C) : CW P n (.region id l.toArray true) Q f C := CW.reg_draw hB h
theorem jd {id : Nat} {c : Code} (h : CW P n c (blk id Q) f C) : CW P n (.block id c) Q f C := CW.block h
theorem je {c : Operand} {x y : Code} (hb : f.ev c = .bool true) (ht : CW P n x Q f C) : CW P n (.cond c x y) Q f C := CW.cond_true hb ht
theorem jf {c : Operand} {x y : Code} (hb : f.ev c = .bool false) (hf : CW P n y Q f C) : CW P n (.cond c x y) Q f C := CW.cond_false hb hf
theorem jg (h : At Q .ret f C) : CW P n .ret Q f C := CW.ret h
theorem jh (h : At Q .normal f C) : CW P n .skip Q f C := CW.skip h
theorem ji {id : Nat} (h : At Q (.exit id) f C) : CW P n (.exit id) Q f C := CW.exit h
theorem jj {y : Code} (h : CW P n y Q f C) : At (thn P n y Q) .normal f C := At.thn h
theorem jk {y : Code} (h : At Q .ret f C) : At (thn P n y Q) .ret f C := h
theorem jl {y : Code} {id : Nat} (h : At Q (.exit id) f C) : At (thn P n y Q) (.exit id) f C := h
theorem jm {id : Nat} (h : At Q .normal f C) : At (blk id Q) .normal f C := h
theorem jn {id : Nat} (h : At Q .ret f C) : At (blk id Q) .ret f C := h
theorem jo {id : Nat} (h : At Q .normal f C) : At (blk id Q) (.exit id) f C := At.blk_here h
theorem jp {id j : Nat} (hj : Nat.beq j id = false) (h : At Q (.exit j) f C) : At (blk id Q) (.exit j) f C := At.blk_other hj h
theorem jq {l : Nat} (h : At Q .normal f C) : CW P n (.label l) Q f C := CW.label h
theorem jr {c : Code} (h : CW P n c (noG Q) f C) : CW P n (.scope c) Q f C := CW.scope h
theorem js (h : At Q .normal f C) : At (noG Q) .normal f C := h
theorem jt (h : At Q .ret f C) : At (noG Q) .ret f C := h
theorem ju {id : Nat} (h : At Q (.exit id) f C) : At (noG Q) (.exit id) f C := h
end
section
variable {α : Type} {M : List Nat} {f g : Frm} {I : α → Prop} {vs : α → List (Nat × Value)} {D : α → World → Prop} {μ : α → Nat} {i : α} {Q : Post} {C : World → Prop}
theorem jv (h : At Q .ret g C) : At (again M f I vs D μ i Q) .ret g C := h
theorem jw {id : Nat} (h : At Q (.exit id) g C) : At (again M f I vs D μ i Q) (.exit id) g C := h
end

/-! ### operations of a drawn region that only read -/
section
variable {P : Program} {n : Nat} {ops : List Oper} {S : World → Prop} {f : Frm} {K : Frm → Prop} {r : List Nat} {i j dj d : Nat} {op : Op} {T : TypeId} {p : String} {af : Array Edge} {v : Value} {b : Bool}
theorem yp (hi : ops[i]? = some ⟨some d, op, T, p, af, none⟩) (h : evV f op = some v) (hd : Nat.blt d n = true) (k : QL P n ops S K r (upd f d v)) : QL P n ops S K (i :: r) f := QL.ev hi (evV_sound h) hd k
theorem yq (hi : ops[i]? = some ⟨some d, op, T, p, af, some (j, b)⟩) (hj : (ops[j]?).bind (·.dst) = some dj) (hb : f dj = .bool b) (h : evV f op = some v) (hd : Nat.blt d n = true) (k : QL P n ops S K r (upd f d v)) : QL P n ops S K (i :: r) f := QL.evg hi hj hb (evV_sound h) hd k
theorem yn (hi : ops[i]? = some ⟨some d, op, T, p, af, some (j, b)⟩) (hj : (ops[j]?).bind (·.dst) = some dj) (hb : noV (f dj) b = true) (hd : Nat.blt d n = true) (k : QL P n ops S K r (upd f d undef)) : QL P n ops S K (i :: r) f :=
  QL.skip_of hi hj (fun b' e => by rw [e] at hb; intro e2; subst e2; simp [noV] at hb) hd k
end
end Go.Hb
