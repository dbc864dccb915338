/-
  What each kind of operation yields; memory: new variables, loads, stores. Conditions: none; facts on one program's types come in as classes.
-/
import Derived.Test.YtomlgnncncjmaaaHb3
namespace Go.Hb

/-! ### facts on types -/
class One (P : Program) (T : TypeId) : Prop where
  agg : ∀ w, (isAgg T).run P w = .ok false w
  size : ∀ w, (sizeOf T).run P w = .ok 1 w
class Agg (P : Program) (T : TypeId) (n : outParam Nat) : Prop where
  agg : ∀ w, (isAgg T).run P w = .ok true w
  size : ∀ w, (sizeOf T).run P w = .ok n w
class ZeroOf (P : Program) (T : TypeId) (cs : outParam (List Value)) : Prop where
  zero : ∃ v, (∀ w, (zeroValue T).run P w = .ok v w) ∧ v.cells = cs.toArray
class Fld (P : Program) (T : TypeId) (i : Nat) (off : outParam Nat) : Prop where
  at_ : ∀ b o w, (Instr.fieldAt T (.pointer (some ⟨b, o, none⟩)) i).run P w = .ok (.pointer (some ⟨b, o + off, none⟩)) w
class SliceOf (P : Program) (T : TypeId) (E : outParam TypeId) (sz : outParam Nat) (bytes : outParam Nat) : Prop where
  und : P.underlying T = some (.slice E)
  inf : (P.info? E).map (fun i => (i.size, i.bytes)) = some (sz, bytes)
  pos : 0 < sz
  zero : ∃ z, (P.info? E).bind (·.zero) = some z ∧ z.cells.size = sz
class ArrOf (P : Program) (T : TypeId) (len : outParam Nat) (E : outParam TypeId) (sz : outParam Nat) : Prop where
  und : P.underlying T = some (.array len E)
  size : ∀ w, (sizeOf E).run P w = .ok sz w
class Build (P : Program) (T : TypeId) (zero : outParam (List Value)) (places : outParam (List (Nat × Nat))) : Prop where
  run : ∀ w (parts : Array (Nat × Value)) cells, Instr.fill (fun i => places.toArray[i]?) zero.toArray parts.toList = some cells → (Instr.build T parts).run P w = .ok (.agg cells) w
class Eqs (P : Program) (T : TypeId) (n : outParam Nat) : Prop where
  eq : ∀ (x y : Operand) (xs ys : List Int) w, xs.length = n → ys.length = n →
    (do eqGuard .eql T x y (.agg (xs.map (Value.int .i64)).toArray) (.agg (ys.map (Value.int .i64)).toArray); binOp .eql T (.agg (xs.map (Value.int .i64)).toArray) (.agg (ys.map (Value.int .i64)).toArray)).run P w = .ok (.bool (decide (xs = ys))) w
  ne : ∀ (x y : Operand) (xs ys : List Int) w, xs.length = n → ys.length = n →
    (do eqGuard .neq T x y (.agg (xs.map (Value.int .i64)).toArray) (.agg (ys.map (Value.int .i64)).toArray); binOp .neq T (.agg (xs.map (Value.int .i64)).toArray) (.agg (ys.map (Value.int .i64)).toArray)).run P w = .ok (.bool (!decide (xs = ys))) w
class Bools (P : Program) (T : TypeId) : Prop where
  und : P.underlying T = some .bool
class ToInt (P : Program) (S D : TypeId) (k : outParam IntKind) : Prop where
  src : ∃ d, P.underlying S = some d
  dst : P.underlying D = some (.int k)
class IntT (P : Program) (T : TypeId) (k : outParam IntKind) : Prop where
  und : P.underlying T = some (.int k)
instance (P : Program) (S D : TypeId) (k' k : IntKind) [a : IntT P S k'] [b : IntT P D k] : ToInt P S D k := ⟨⟨_, a.und⟩, b.und⟩
class PtrTo (P : Program) (T : TypeId) : Prop where
  und : ∃ E, P.underlying T = some (.pointer E)

section
variable {P : Program} {C : World → Prop} {f : Frm} {T T' T'' : TypeId} {x y z : Operand} {v : Value}

theorem Ev.move : Ev P C f (.move x) T (f.ev x) := fun w _ d p af g => by simp [execOp]
theorem Ev.assign : Ev P C f (.assign x) T (f.ev x) := fun w _ d p af g => by simp [execOp]
theorem Ev.moveV (h : f.ev x = v) : Ev P C f (.move x) T v := h ▸ Ev.move
theorem Ev.assignV (h : f.ev x = v) : Ev P C f (.assign x) T v := h ▸ Ev.assign
theorem is_int {a : Value} {k : IntKind} {i : Int} (h : a = .int k i) : a = .int k i := h
theorem is_bool {a : Value} {b : Bool} (h : a = .bool b) : a = .bool b := h
theorem is_ptr {a : Value} {b : Option Addr} (h : a = .pointer b) : a = .pointer b := h
theorem is_slice {a : Value} {b : Option Addr} {l c : Nat} (h : a = .slice b l c) : a = .slice b l c := h
theorem is_agg {a : Value} {c : Array Value} (h : a = .agg c) : a = .agg c := h
theorem Ev.pick_t (h : f.ev x = .bool true) : Ev P C f (.pick x y z) T (f.ev y) := fun w _ d p af g => by simp [execOp, h, asBool]
theorem Ev.pick_f (h : f.ev x = .bool false) : Ev P C f (.pick x y z) T (f.ev z) := fun w _ d p af g => by simp [execOp, h, asBool]
theorem Ev.pick_tV (h : f.ev x = .bool true) (hv : f.ev y = v) : Ev P C f (.pick x y z) T v := hv ▸ Ev.pick_t h
theorem Ev.pick_fV (h : f.ev x = .bool false) (hv : f.ev z = v) : Ev P C f (.pick x y z) T v := hv ▸ Ev.pick_f h
theorem Ev.nilCheck {a : Addr} (h : f.ev x = .pointer (some a)) : Ev P C f (.nilCheck x) T (.pointer (some a)) := fun w _ d p af g => by simp [execOp, h]
theorem Ev.extract {vs : List Value} {i : Nat} (h : f.ev x = .tuple vs.toArray) (hv : vs[i]? = some v) : Ev P C f (.extract x i) T v := fun w _ d p af g => by
  simp [execOp, h, Instr.extract, hv]
theorem Ev.not {b : Bool} (h : f.ev x = .bool b) : Ev P C f (.unOp .not T' x) T (.bool (!b)) := fun w _ d p af g => by simp [execOp, h, Op.unary]
theorem Ev.makeFunc {fn : Fn} {xs ys : List Operand} : Ev P C f (.makeFunc fn xs.toArray ys.toArray) T (.func fn (xs.map f.ev).toArray (ys.map f.ev).toArray) := fun w _ d p af g => by
  simp [execOp, Instr.makeFunc]

/-! integers -/
theorem Ev.eql {k : IntKind} {a b : Int} (hx : f.ev x = .int k a) (hy : f.ev y = .int k b) : Ev P C f (.binOp .eql T' x y T'') T (.bool (decide (a = b))) := fun w _ d p af g => by
  simp [execOp, hx, hy, eqGuard, binOp, Op.intCmp]; rfl
theorem Ev.neq {k : IntKind} {a b : Int} (hx : f.ev x = .int k a) (hy : f.ev y = .int k b) : Ev P C f (.binOp .neq T' x y T'') T (.bool (!decide (a = b))) := fun w _ d p af g => by
  simp [execOp, hx, hy, eqGuard, binOp, Op.intCmp]; rfl
theorem Ev.lss {k : IntKind} {a b : Int} (hx : f.ev x = .int k a) (hy : f.ev y = .int k b) : Ev P C f (.binOp .lss T' x y T'') T (.bool (decide (a < b))) := fun w _ d p af g => by
  simp [execOp, hx, hy, eqGuard, binOp, Op.intCmp]
theorem Ev.leq {k : IntKind} {a b : Int} (hx : f.ev x = .int k a) (hy : f.ev y = .int k b) : Ev P C f (.binOp .leq T' x y T'') T (.bool (decide (a ≤ b))) := fun w _ d p af g => by
  simp [execOp, hx, hy, eqGuard, binOp, Op.intCmp]
theorem Ev.gtr {k : IntKind} {a b : Int} (hx : f.ev x = .int k a) (hy : f.ev y = .int k b) : Ev P C f (.binOp .gtr T' x y T'') T (.bool (decide (b < a))) := fun w _ d p af g => by
  simp [execOp, hx, hy, eqGuard, binOp, Op.intCmp]
theorem Ev.geq {k : IntKind} {a b : Int} (hx : f.ev x = .int k a) (hy : f.ev y = .int k b) : Ev P C f (.binOp .geq T' x y T'') T (.bool (decide (b ≤ a))) := fun w _ d p af g => by
  simp [execOp, hx, hy, eqGuard, binOp, Op.intCmp]
theorem Ev.addW {k : IntKind} {a b : Int} (hx : f.ev x = .int k a) (hy : f.ev y = .int k b) : Ev P C f (.binOp .add T' x y T'') T (.int k (k.wrap (a + b))) := fun w _ d p af g => by
  simp [execOp, hx, hy, eqGuard, binOp, Op.intArith]
theorem Ev.subW {k : IntKind} {a b : Int} (hx : f.ev x = .int k a) (hy : f.ev y = .int k b) : Ev P C f (.binOp .sub T' x y T'') T (.int k (k.wrap (a - b))) := fun w _ d p af g => by
  simp [execOp, hx, hy, eqGuard, binOp, Op.intArith]
theorem Ev.mulW {k : IntKind} {a b : Int} (hx : f.ev x = .int k a) (hy : f.ev y = .int k b) : Ev P C f (.binOp .mul T' x y T'') T (.int k (k.wrap (a * b))) := fun w _ d p af g => by
  simp [execOp, hx, hy, eqGuard, binOp, Op.intArith]
theorem wrap_i64 {a : Int} (h1 : -9223372036854775808 ≤ a) (h2 : a ≤ 9223372036854775807) : IntKind.i64.wrap a = a := IntWalk.i64_in _ ⟨h1, h2⟩
theorem Ev.add {a b : Int} (hx : f.ev x = .int .i64 a) (hy : f.ev y = .int .i64 b) (h1 : -9223372036854775808 ≤ a + b) (h2 : a + b ≤ 9223372036854775807) : Ev P C f (.binOp .add T' x y T'') T (.int .i64 (a + b)) := by
  have := Ev.addW (P := P) (C := C) (T := T) (T' := T') (T'' := T'') hx hy; rwa [wrap_i64 h1 h2] at this
theorem Ev.sub {a b : Int} (hx : f.ev x = .int .i64 a) (hy : f.ev y = .int .i64 b) (h1 : -9223372036854775808 ≤ a - b) (h2 : a - b ≤ 9223372036854775807) : Ev P C f (.binOp .sub T' x y T'') T (.int .i64 (a - b)) := by
  have := Ev.subW (P := P) (C := C) (T := T) (T' := T') (T'' := T'') hx hy; rwa [wrap_i64 h1 h2] at this
theorem Ev.mul {a b : Int} (hx : f.ev x = .int .i64 a) (hy : f.ev y = .int .i64 b) (h1 : -9223372036854775808 ≤ a * b) (h2 : a * b ≤ 9223372036854775807) : Ev P C f (.binOp .mul T' x y T'') T (.int .i64 (a * b)) := by
  have := Ev.mulW (P := P) (C := C) (T := T) (T' := T') (T'' := T'') hx hy; rwa [wrap_i64 h1 h2] at this
theorem Ev.rem {k : IntKind} {a b : Int} (hx : f.ev x = .int k a) (hy : f.ev y = .int k b) (h : b ≠ 0) : Ev P C f (.binOp .rem T' x y T'') T (.int k (a.tmod b)) := fun w _ d p af g => by
  simp [execOp, hx, hy, eqGuard, binOp, Op.intDiv, h]
theorem Ev.quo {k : IntKind} {a b : Int} (hx : f.ev x = .int k a) (hy : f.ev y = .int k b) (h : b ≠ 0) : Ev P C f (.binOp .quo T' x y T'') T (.int k (k.wrap (a.tdiv b))) := fun w _ d p af g => by
  simp [execOp, hx, hy, eqGuard, binOp, Op.intDiv, h]
theorem Ev.shr {k k' : IntKind} {a b : Int} (hx : f.ev x = .int k a) (hy : f.ev y = .int k' b) (h : 0 ≤ b) : Ev P C f (.binOp .shr T' x y T'') T (.int k (a.fdiv (2 ^ (min b.toNat k.bits)))) := fun w _ d p af g => by
  simp [execOp, hx, hy, eqGuard, binOp, Op.shift, show ¬ b < 0 by omega]
theorem Ev.shl {k k' : IntKind} {a b : Int} (hx : f.ev x = .int k a) (hy : f.ev y = .int k' b) (h : 0 ≤ b) : Ev P C f (.binOp .shl T' x y T'') T (.int k (k.wrap (a * 2 ^ (min b.toNat k.bits)))) := fun w _ d p af g => by
  simp [execOp, hx, hy, eqGuard, binOp, Op.shift, show ¬ b < 0 by omega]
def andI (k : IntKind) (a b : Int) : Int := k.wrap ((BitVec.ofInt k.bits a &&& BitVec.ofInt k.bits b).toNat)
def orI (k : IntKind) (a b : Int) : Int := k.wrap ((BitVec.ofInt k.bits a ||| BitVec.ofInt k.bits b).toNat)
def xorI (k : IntKind) (a b : Int) : Int := k.wrap ((BitVec.ofInt k.bits a ^^^ BitVec.ofInt k.bits b).toNat)
def andNotI (k : IntKind) (a b : Int) : Int := k.wrap ((BitVec.ofInt k.bits a &&& ~~~ BitVec.ofInt k.bits b).toNat)
theorem Ev.and {k : IntKind} {a b : Int} (hx : f.ev x = .int k a) (hy : f.ev y = .int k b) : Ev P C f (.binOp .and T' x y T'') T (.int k (andI k a b)) := fun w _ d p af g => by
  simp [execOp, hx, hy, eqGuard, binOp, Op.intBits, andI]
theorem Ev.or {k : IntKind} {a b : Int} (hx : f.ev x = .int k a) (hy : f.ev y = .int k b) : Ev P C f (.binOp .or T' x y T'') T (.int k (orI k a b)) := fun w _ d p af g => by
  simp [execOp, hx, hy, eqGuard, binOp, Op.intBits, orI]
theorem Ev.xor {k : IntKind} {a b : Int} (hx : f.ev x = .int k a) (hy : f.ev y = .int k b) : Ev P C f (.binOp .xor T' x y T'') T (.int k (xorI k a b)) := fun w _ d p af g => by
  simp [execOp, hx, hy, eqGuard, binOp, Op.intBits, xorI]
theorem Ev.andNot {k : IntKind} {a b : Int} (hx : f.ev x = .int k a) (hy : f.ev y = .int k b) : Ev P C f (.binOp .andNot T' x y T'') T (.int k (andNotI k a b)) := fun w _ d p af g => by
  simp [execOp, hx, hy, eqGuard, binOp, Op.intBits, andNotI]
theorem Ev.conv {k k' : IntKind} {a : Int} [hi : ToInt P T' T'' k] (hx : f.ev x = .int k' a) : Ev P C f (.convert T' T'' x) T (.int k (k.wrap a)) := fun w _ d p af g => by
  obtain ⟨d', hd'⟩ := hi.src
  simp [execOp, hx, convert, run_underlying hd', run_underlying hi.dst, Conv.intToInt]

/-! truth values, pointers, slices, structs of ints -/
theorem run_eq_of {w : World} {t : TypeId} {a b : Value} {r : Bool} (h : (Op.equalIn (9999 + 1) t a b).run P w = .ok r w) : (Op.equal t a b).run P w = .ok r w := h
theorem ev_eql_of {r : Bool} (hg : ∀ w, (eqGuard .eql T' x y (f.ev x) (f.ev y)).run P w = .ok () w) (hb : binOp .eql T' (f.ev x) (f.ev y) = (do pure (.bool (← Op.equal T' (f.ev x) (f.ev y)))))
    (h : ∀ w, (Op.equalIn (9999 + 1) T' (f.ev x) (f.ev y)).run P w = .ok r w) : Ev P C f (.binOp .eql T' x y T'') T (.bool r) := fun w _ d p af g => by
  have := run_eq_of (h w)
  simp only [execOp, hb, Sem.run_bind, hg, Result.andThen_ok, this, Sem.run_pure]
theorem ev_neq_of {r : Bool} (hg : ∀ w, (eqGuard .neq T' x y (f.ev x) (f.ev y)).run P w = .ok () w) (hb : binOp .neq T' (f.ev x) (f.ev y) = (do pure (.bool (!(← Op.equal T' (f.ev x) (f.ev y))))))
    (h : ∀ w, (Op.equalIn (9999 + 1) T' (f.ev x) (f.ev y)).run P w = .ok r w) : Ev P C f (.binOp .neq T' x y T'') T (.bool (!r)) := fun w _ d p af g => by
  have := run_eq_of (h w)
  simp only [execOp, hb, Sem.run_bind, hg, Result.andThen_ok, this, Sem.run_pure]
theorem Ev.eql_bool [h : Bools P T'] {a b : Bool} (hx : f.ev x = .bool a) (hy : f.ev y = .bool b) : Ev P C f (.binOp .eql T' x y T'') T (.bool (a == b)) :=
  ev_eql_of (fun w => by rw [hx, hy]; rfl) (by rw [hx, hy]; rfl) (fun w => by rw [hx, hy]; exact run_equalIn_bool w _ T' a b h.und)
theorem Ev.neq_bool [h : Bools P T'] {a b : Bool} (hx : f.ev x = .bool a) (hy : f.ev y = .bool b) : Ev P C f (.binOp .neq T' x y T'') T (.bool (!(a == b))) :=
  ev_neq_of (fun w => by rw [hx, hy]; rfl) (by rw [hx, hy]; rfl) (fun w => by rw [hx, hy]; exact run_equalIn_bool w _ T' a b h.und)
theorem run_equalIn_ptr {E : TypeId} {t : TypeId} (w : World) (d : Nat) (a : Option Addr) (h : P.underlying t = some (.pointer E)) : (Op.equalIn (d + 1) t (.pointer a) (.pointer none)).run P w = .ok a.isNone w := by
  cases a <;> simp [Op.equalIn, run_underlying h]
theorem run_equalIn_slc {E : TypeId} {t : TypeId} (w : World) (d : Nat) (a : Option Addr) (l c : Nat) (h : P.underlying t = some (.slice E)) : (Op.equalIn (d + 1) t (.slice a l c) (.slice none 0 0)).run P w = .ok a.isNone w := by
  cases a <;> simp [Op.equalIn, run_underlying h]
theorem Ev.ptr_nil [h : PtrTo P T'] {a : Option Addr} (hx : f.ev x = .pointer a) (hy : f.ev y = .pointer none) : Ev P C f (.binOp .eql T' x y T'') T (.bool a.isNone) := by
  obtain ⟨E, hE⟩ := h.und
  exact ev_eql_of (fun w => by rw [hx, hy]; rfl) (by rw [hx, hy]; rfl) (fun w => by rw [hx, hy]; exact run_equalIn_ptr w _ a hE)
theorem Ev.ptr_not_nil [h : PtrTo P T'] {a : Option Addr} (hx : f.ev x = .pointer a) (hy : f.ev y = .pointer none) : Ev P C f (.binOp .neq T' x y T'') T (.bool (!a.isNone)) := by
  obtain ⟨E, hE⟩ := h.und
  exact ev_neq_of (fun w => by rw [hx, hy]; rfl) (by rw [hx, hy]; rfl) (fun w => by rw [hx, hy]; exact run_equalIn_ptr w _ a hE)
theorem Ev.slice_nil {E : TypeId} {sz by_ : Nat} [h : SliceOf P T' E sz by_] {a : Option Addr} {l c : Nat} (hx : f.ev x = .slice a l c) (hy : f.ev y = .slice none 0 0) : Ev P C f (.binOp .eql T' x y T'') T (.bool a.isNone) :=
  ev_eql_of (fun w => by rw [hx, hy]; rfl) (by rw [hx, hy]; rfl) (fun w => by rw [hx, hy]; exact run_equalIn_slc w _ a l c h.und)
theorem Ev.structs {n : Nat} [h : Eqs P T' n] {xs ys : List Int} (hx : f.ev x = .agg (xs.map (Value.int .i64)).toArray) (hy : f.ev y = .agg (ys.map (Value.int .i64)).toArray) (h1 : xs.length = n) (h2 : ys.length = n) :
    Ev P C f (.binOp .eql T' x y T'') T (.bool (decide (xs = ys))) := fun w _ d p af g => by
  have := h.eq x y xs ys w h1 h2
  simp only [execOp, hx, hy]
  rw [Sem.run_bind, this]
  rfl
theorem Ev.structs_ne {n : Nat} [h : Eqs P T' n] {xs ys : List Int} (hx : f.ev x = .agg (xs.map (Value.int .i64)).toArray) (hy : f.ev y = .agg (ys.map (Value.int .i64)).toArray) (h1 : xs.length = n) (h2 : ys.length = n) :
    Ev P C f (.binOp .neq T' x y T'') T (.bool (!decide (xs = ys))) := fun w _ d p af g => by
  have := h.ne x y xs ys w h1 h2
  simp only [execOp, hx, hy]
  rw [Sem.run_bind, this]
  rfl
/-! structs of two, of four ints, as they stand -/
theorem Ev.eq2 [h : Eqs P T' 2] {a b a' b' : Int} (hx : f.ev x = .agg [.int .i64 a, .int .i64 b].toArray) (hy : f.ev y = .agg [.int .i64 a', .int .i64 b'].toArray) : Ev P C f (.binOp .eql T' x y T'') T (.bool (decide ([a, b] = [a', b']))) :=
  Ev.structs (xs := [a, b]) (ys := [a', b']) hx hy rfl rfl
theorem Ev.ne2 [h : Eqs P T' 2] {a b a' b' : Int} (hx : f.ev x = .agg [.int .i64 a, .int .i64 b].toArray) (hy : f.ev y = .agg [.int .i64 a', .int .i64 b'].toArray) : Ev P C f (.binOp .neq T' x y T'') T (.bool (!decide ([a, b] = [a', b']))) :=
  Ev.structs_ne (xs := [a, b]) (ys := [a', b']) hx hy rfl rfl
theorem Ev.eq4 [h : Eqs P T' 4] {a b c d a' b' c' d' : Int} (hx : f.ev x = .agg [.int .i64 a, .int .i64 b, .int .i64 c, .int .i64 d].toArray) (hy : f.ev y = .agg [.int .i64 a', .int .i64 b', .int .i64 c', .int .i64 d'].toArray) : Ev P C f (.binOp .eql T' x y T'') T (.bool (decide ([a, b, c, d] = [a', b', c', d']))) :=
  Ev.structs (xs := [a, b, c, d]) (ys := [a', b', c', d']) hx hy rfl rfl
theorem Ev.ne4 [h : Eqs P T' 4] {a b c d a' b' c' d' : Int} (hx : f.ev x = .agg [.int .i64 a, .int .i64 b, .int .i64 c, .int .i64 d].toArray) (hy : f.ev y = .agg [.int .i64 a', .int .i64 b', .int .i64 c', .int .i64 d'].toArray) : Ev P C f (.binOp .neq T' x y T'') T (.bool (!decide ([a, b, c, d] = [a', b', c', d']))) :=
  Ev.structs_ne (xs := [a, b, c, d]) (ys := [a', b', c', d']) hx hy rfl rfl

/-! addresses -/
theorem Ev.fieldAddr {i off b o : Nat} [h : Fld P T' i off] (hx : f.ev x = .pointer (some ⟨b, o, none⟩)) : Ev P C f (.fieldAddr T' x i) T (.pointer (some ⟨b, o + off, none⟩)) := fun w _ d p af g => by
  simp only [execOp, hx]
  rw [Sem.run_bind, h.at_]
  rfl
theorem addr_add (b o n : Nat) : (⟨b, o, none⟩ : Addr).add n = ⟨b, o + n, none⟩ := by
  unfold Addr.add; split
  · rename_i h; subst h; rfl
  · rfl
theorem Ev.indexAddr {E : TypeId} {sz by_ b o l c : Nat} {k : IntKind} {i : Int} [h : SliceOf P T' E sz by_] (hx : f.ev x = .slice (some ⟨b, o, none⟩) l c) (hy : f.ev y = .int k i) (h0 : 0 ≤ i) (h1 : i < l) :
    Ev P C f (.indexAddr T' x y) T (.pointer (some ⟨b, o + i.toNat * sz, none⟩)) := fun w _ d p af g => by
  have hinf := h.inf
  cases hi : P.info? E with
  | none => simp [hi] at hinf
  | some inf =>
    simp only [hi, Option.map_some, Option.some.injEq, Prod.mk.injEq] at hinf
    simp [execOp, hx, hy, Instr.indexAt, asIntOf, run_underlying h.und, h0, h1, sizeOf, typeInfo, hi, hinf.1, addr_add]
theorem Ev.indexArr {E : TypeId} {len sz b o : Nat} {k : IntKind} {i : Int} [h : ArrOf P T' len E sz] (hx : f.ev x = .pointer (some ⟨b, o, none⟩)) (hy : f.ev y = .int k i) (h0 : 0 ≤ i) (h1 : i < len) :
    Ev P C f (.indexAddr T' x y) T (.pointer (some ⟨b, o + i.toNat * sz, none⟩)) := fun w _ d p af g => by
  simp [execOp, hx, hy, Instr.indexAt, asIntOf, run_underlying h.und, h0, h1, h.size, Instr.sureAddr, addr_add]
theorem Ev.len {E : TypeId} {sz by_ l c : Nat} {a : Option Addr} [h : SliceOf P T' E sz by_] (hx : f.ev x = .slice a l c) : Ev P C f (.call ⟨.builtin .len, [x].toArray, [T'].toArray⟩) T (.int .i64 l) := fun w _ d p af g => by
  simp [execOp, resolve, invoke, builtin, Builtin.len_, hx, run_underlying h.und, goInt]

end

theorem fold_set (off : Nat) : ∀ (vc : List Value) (j : Nat) (cs : Array Value), off + j + vc.length ≤ cs.size →
    ((vc.zipIdx j).foldl (fun cs (q : Value × Nat) => cs.setIfInBounds (off + q.2) q.1) cs).toList = cs.toList.take (off + j) ++ vc ++ cs.toList.drop (off + j + vc.length)
  | [], j, cs, _ => by simp
  | v :: r, j, cs, h => by
    simp only [List.length_cons] at h
    simp only [List.zipIdx_cons, List.foldl_cons]
    rw [fold_set off r (j + 1) _ (by simp; omega)]
    simp only [Array.toList_setIfInBounds, List.length_cons]
    apply List.ext_getElem?
    intro i
    simp only [List.getElem?_append, List.length_append, List.length_take, List.length_set, Array.length_toList, List.getElem?_take, List.getElem?_set, List.getElem?_drop]
    by_cases h1 : i < off + j
    · have e1 : i < min (off + (j + 1)) cs.size := by omega
      have e2 : i < min (off + j) cs.size := by omega
      have e3 : ¬ off + j = i := by omega
      simp [e1, e2, e3, show i < off + (j + 1) by omega, h1, show i < min (off + (j + 1)) cs.size + r.length by omega, show i < min (off + j) cs.size + (r.length + 1) by omega]
    · by_cases h2 : i = off + j
      · subst h2
        have e1 : off + j < min (off + (j + 1)) cs.size := by omega
        have e2 : ¬ off + j < min (off + j) cs.size := by omega
        have e3 : off + j - min (off + j) cs.size = 0 := by omega
        simp [e1, e2, e3, show off + j < off + (j + 1) by omega, show off + j < min (off + (j + 1)) cs.size + r.length by omega, show off + j < min (off + j) cs.size + (r.length + 1) by omega, show off + j < cs.size by omega]
      · have e1 : ¬ i < min (off + (j + 1)) cs.size := by omega
        have e2 : ¬ i < min (off + j) cs.size := by omega
        by_cases h3 : i < off + j + 1 + r.length
        · have e3 : i < min (off + (j + 1)) cs.size + r.length := by omega
          have e4 : i < min (off + j) cs.size + (r.length + 1) := by omega
          have e5 : i - min (off + j) cs.size = (i - min (off + (j + 1)) cs.size) + 1 := by omega
          simp [e1, e2, e3, e4, e5]
        · have e3 : ¬ i < min (off + (j + 1)) cs.size + r.length := by omega
          have e4 : ¬ i < min (off + j) cs.size + (r.length + 1) := by omega
          have e5 : ¬ off + j = off + (j + 1) + r.length + (i - (min (off + (j + 1)) cs.size + r.length)) := by omega
          have e6 : off + (j + 1) + r.length + (i - (min (off + (j + 1)) cs.size + r.length)) = off + j + (r.length + 1) + (i - (min (off + j) cs.size + (r.length + 1))) := by omega
          simp only [e3, if_false, e6, List.length_cons]
          rw [if_neg (by omega), if_neg e4]

theorem fill_full (sz : Nat) : ∀ (vs : List Value) (k : Nat) (cells : Array Value), cells.size = (k + vs.length) * sz → (∀ v ∈ vs, v.cells.size = sz) →
    Instr.fill (fun i => some (i * sz, sz)) cells ((vs.zipIdx k).map fun q => (q.2, q.1)) = some (cells.toList.take (k * sz) ++ vs.flatMap fun v => v.cells.toList).toArray
  | [], k, cells, h, _ => by
    have h' : cells.toList.length ≤ k * sz := by simp at h; simp [h]
    simp [Instr.fill, List.take_of_length_le h']
  | v :: r, k, cells, h, hv => by
    have hs := hv v List.mem_cons_self
    simp only [List.zipIdx_cons, List.map_cons, Instr.fill]
    have hle : k * sz + sz ≤ cells.size := by
      rw [h, List.length_cons, show k + (r.length + 1) = (k + 1) + r.length by omega, Nat.add_mul, Nat.add_mul]; omega
    have hno : ¬ ((v.cells.size ≠ sz || k * sz + v.cells.size > cells.size) = true) := by simp [hs]; omega
    rw [if_neg hno]
    have hf := fold_set (k * sz) v.cells.toList 0 cells (by simp [hs]; omega)
    have hsz : v.cells.toList.length = sz := by simpa using hs
    have ef : Array.foldl (fun cs (x : Value × Nat) => match x with | (c, j) => cs.setIfInBounds (k * sz + j) c) cells v.cells.zipIdx = (v.cells.toList.zipIdx.foldl (fun cs (q : Value × Nat) => cs.setIfInBounds (k * sz + q.2) q.1) cells) := by
      rw [← Array.foldl_toList, Array.toList_zipIdx]
    rw [ef]
    have hsize : (v.cells.toList.zipIdx.foldl (fun cs (q : Value × Nat) => cs.setIfInBounds (k * sz + q.2) q.1) cells).size = cells.size := by
      rw [← Array.length_toList, hf]; simp; omega
    rw [fill_full sz r (k + 1) _ (by rw [hsize, h, List.length_cons]; congr 1; omega) (fun u hu => hv u (List.mem_cons_of_mem _ hu)), hf]
    congr 2
    simp only [Nat.add_zero, List.flatMap_cons]
    rw [show (k + 1) * sz = k * sz + sz by rw [Nat.add_mul]; omega]
    have h1 : (cells.toList.take (k * sz)).length = k * sz := by simp; omega
    have h2 : (cells.toList.take (k * sz) ++ v.cells.toList).length = k * sz + sz := by rw [List.length_append, h1, hsz]
    rw [List.take_append_of_le_length (by omega), List.take_of_length_le (by omega), List.append_assoc]

/-! ### cells of values -/
theorem cells_int {v : Value} {k : IntKind} {a : Int} (h : v = .int k a) : v.cells = [Value.int k a].toArray := by subst h; rfl
theorem cells_bool {v : Value} {a : Bool} (h : v = .bool a) : v.cells = [Value.bool a].toArray := by subst h; rfl
theorem cells_ptr {v : Value} {a : Option Addr} (h : v = .pointer a) : v.cells = [Value.pointer a].toArray := by subst h; rfl
theorem cells_slice {v : Value} {a : Option Addr} {l c : Nat} (h : v = .slice a l c) : v.cells = [Value.slice a l c].toArray := by subst h; rfl
theorem cells_agg {v : Value} {vs : List Value} (h : v = .agg vs.toArray) : v.cells = vs.toArray := by subst h; rfl
theorem cells_map {v : Value} {a : Option Nat} (h : v = .map a) : v.cells = [Value.map a].toArray := by subst h; rfl
theorem cells_func {v : Value} {g : Fn} {a b : Array Value} (h : v = .func g a b) : v.cells = [Value.func g a b].toArray := by subst h; rfl

/-! ### memory -/
theorem run_load_one {P : Program} {T : TypeId} (h : One P T) {w : World} {a : Addr} {v : Value} (hc : w.cell? a = some v) : (loadVar T a).run P w = .ok v w := by
  simp only [loadVar, Sem.run_bind, h.agg, Result.andThen_ok]
  simp [load, Sem.run, hc]
theorem run_load_agg {P : Program} {T : TypeId} {n : Nat} (h : Agg P T n) {w : World} {a : Addr} {cs : List Value} (hl : cs.length = n) (hc : ∀ j v, cs[j]? = some v → w.cell? (a.add j) = some v) : (loadVar T a).run P w = .ok (.agg cs.toArray) w := by
  subst hl
  simp only [loadVar, Sem.run_bind, h.agg, Result.andThen_ok]
  simp [h.size, run_loadCells_list w a cs hc]

/-! ### building a struct -/
def fillL (places : List (Nat × Nat)) (zero : List Value) : List (Nat × Value) → List Value
  | [] => zero
  | q :: r => fillL places (zero.take (places.getD q.1 (0, 0)).1 ++ q.2.cells.toList ++ zero.drop ((places.getD q.1 (0, 0)).1 + q.2.cells.toList.length)) r
def wfParts (places : List (Nat × Nat)) (len : Nat) : List (Nat × Value) → Bool
  | [] => true
  | q :: r => Nat.blt q.1 places.length && Nat.beq q.2.cells.toList.length (places.getD q.1 (0, 0)).2 && Nat.ble ((places.getD q.1 (0, 0)).1 + q.2.cells.toList.length) len && wfParts places len r
theorem fill_struct (places : List (Nat × Nat)) : ∀ (parts : List (Nat × Value)) (zero : List Value), wfParts places zero.length parts = true →
    Instr.fill (fun i => places.toArray[i]?) zero.toArray parts = some (fillL places zero parts).toArray
  | [], zero, _ => rfl
  | q :: r, zero, h => by
    obtain ⟨i, v⟩ := q
    simp only [wfParts, Bool.and_eq_true] at h
    obtain ⟨⟨⟨h1, h2⟩, h3⟩, h4⟩ := h
    have h1' : i < places.length := Nat.le_of_ble_eq_true h1
    have h2' := Nat.eq_of_beq_eq_true h2
    have h3' := Nat.le_of_ble_eq_true h3
    have hp : places.toArray[i]? = some (places.getD i (0, 0)) := by simp [List.getD_eq_getElem?_getD, h1']
    generalize hq : places.getD i (0, 0) = pl at *
    obtain ⟨off, size⟩ := pl
    simp only at h2' h3'
    simp only [Instr.fill, hp]
    have hs : v.cells.size = size := by simpa using h2'
    have hno : ¬ ((v.cells.size ≠ size || off + v.cells.size > zero.toArray.size) = true) := by simp at h3' ⊢; omega
    rw [if_neg hno]
    have hf := fold_set off v.cells.toList 0 zero.toArray (by simpa using h3')
    have ef : Array.foldl (fun cs (x : Value × Nat) => match x with | (c, j) => cs.setIfInBounds (off + j) c) zero.toArray v.cells.zipIdx = (v.cells.toList.zipIdx.foldl (fun cs (q : Value × Nat) => cs.setIfInBounds (off + q.2) q.1) zero.toArray) := by
      rw [← Array.foldl_toList, Array.toList_zipIdx]
    rw [ef]
    have e2 : (v.cells.toList.zipIdx.foldl (fun cs (q : Value × Nat) => cs.setIfInBounds (off + q.2) q.1) zero.toArray) = (zero.take off ++ v.cells.toList ++ zero.drop (off + v.cells.toList.length)).toArray := by
      apply Array.ext'
      rw [hf]; simp
    rw [e2, fill_struct places r]
    · simp only [fillL, hq]
    · have : (zero.take off ++ v.cells.toList ++ zero.drop (off + v.cells.toList.length)).length = zero.length := by simp at h3' ⊢; omega
      rw [this]; exact h4
theorem Ev.build {P : Program} {C : World → Prop} {f : Frm} {T T' : TypeId} {parts : List (Nat × Operand)} {zero : List Value} {places : List (Nat × Nat)} [h : Build P T' zero places]
    (hw : wfParts places zero.length (parts.map fun q => (q.1, f.ev q.2)) = true) : Ev P C f (.build T' parts.toArray) T (.agg (fillL places zero (parts.map fun q => (q.1, f.ev q.2))).toArray) := fun w _ d p af g => by
  have e : (parts.toArray.map fun (i, x) => (i, f.ev x)) = (parts.map fun q => (q.1, f.ev q.2)).toArray := by simp
  have := h.run w (parts.map fun q => (q.1, f.ev q.2)).toArray _ (fill_struct places _ zero hw)
  simp only [execOp, e]
  rw [Sem.run_bind, this]
  rfl

section
variable {P : Program} {f : Frm} {T T' : TypeId} {x y : Operand} {v : Value} {w0 : World} {F : Nat → Prop} {L L' : List Asrt} {C : World → Prop}

theorem Ev.load {a : Addr} [h : One P T] (hx : f.ev x = .pointer (some a)) (hc : ∀ w, C w → w.cell? a = some v) : Ev P C f (.load T x) T' v := fun w hw d p af g => by
  simp only [execOp, hx, Instr.loadAt, Instr.sureAddr, Sem.run_bind, Sem.run_pure, Result.andThen_ok, run_load_one h (hc w hw)]

theorem cell_own {w : World} {b o : Nat} {c : Array Value} {E : TypeId} {fr : Nat × Nat} (h : w.heap[b]? = some (.cells c E fr)) : w.cell? ⟨b, o, none⟩ = c[o]? := by
  simp [World.cell?, h]

/-- A variable of one cell in a block of one's own. -/
theorem Ev.load_own {b o : Nat} {cs : List Value} {E : TypeId} {fr : Nat × Nat} [h : One P T] (hx : f.ev x = .pointer (some ⟨b, o, none⟩)) (hm : Asrt.own b (.cells cs.toArray E fr) ∈ L) (hc : cs[o]? = some v) :
    Ev P (St w0 F L) f (.load T x) T' v := Ev.load hx fun w hw => by rw [cell_own (hw.own_at hm)]; simpa using hc
/-- A struct or an array in a block of one's own. -/
theorem Ev.load_agg {b o n : Nat} {cs : List Value} {E : TypeId} {fr : Nat × Nat} [h : Agg P T n] (hx : f.ev x = .pointer (some ⟨b, o, none⟩)) (hm : Asrt.own b (.cells cs.toArray E fr) ∈ L) (hl : Nat.ble (o + n) cs.length = true) :
    Ev P (St w0 F L) f (.load T x) T' (.agg ((cs.drop o).take n).toArray) := fun w hw d p af g => by
  have hl' := Nat.le_of_ble_eq_true hl
  have hr := run_load_agg (P := P) h (w := w) (a := ⟨b, o, none⟩) (cs := (cs.drop o).take n) (by simp; omega) (fun j v hj => by
    rw [addr_add, cell_own (hw.own_at hm)]
    rw [List.getElem?_take] at hj
    split at hj
    · rw [List.getElem?_drop] at hj; simpa using hj
    · cases hj)
  simp only [execOp, hx, Instr.loadAt, Instr.sureAddr, Sem.run_bind, Sem.run_pure, Result.andThen_ok, hr]
/-- A struct elsewhere. -/
theorem Ev.load_agg_at {a : Addr} {n : Nat} {cs : List Value} [h : Agg P T n] (hx : f.ev x = .pointer (some a)) (hl : cs.length = n) (hc : ∀ w, C w → ∀ j v, cs[j]? = some v → w.cell? (a.add j) = some v) :
    Ev P C f (.load T x) T' (.agg cs.toArray) := fun w hw d p af g => by
  simp only [execOp, hx, Instr.loadAt, Instr.sureAddr, Sem.run_bind, Sem.run_pure, Result.andThen_ok, run_load_agg h hl (hc w hw)]

variable {n : Nat} {ops rest : List Oper} {Q : Post} {p : String} {af : Array Edge} {d : Nat}

theorem LR.box {cs : List Value} (hv : (f.ev x).cells = cs.toArray) (hd : Nat.blt d n = true)
    (k : ∀ b, LR false P n ops rest Q (upd f d (.pointer (some ⟨b, 0, none⟩))) (St w0 F (.own b (.cells cs.toArray T (0, 0)) :: L))) :
    LR false P n ops (⟨some d, .box T x, T', p, af, none⟩ :: rest) Q f (St w0 F L) := by
  intro w hw a ha
  refine wpList_plain rfl fun K hK => ?_
  have hr : (execOp a.eval ⟨some d, .box T x, T', p, af, none⟩).run P w = .ok (.value (.pointer (some ⟨w.heap.size, 0, none⟩))) { w with heap := w.heap.push (.cells cs.toArray T (0, 0)) } := by
    rw [ha.eval]
    simp [execOp, Instr.box, newVar, newRow, newObj, Sem.run, hv]
  simp only [Oper.wp, hr, Oper.upon_value]
  exact hK _ _ (k w.heap.size _ (hw.alloc _) _ (ha.put _ hd))

theorem LR.alloc {cs : List Value} [h : ZeroOf P T cs] (hd : Nat.blt d n = true)
    (k : ∀ b, LR false P n ops rest Q (upd f d (.pointer (some ⟨b, 0, none⟩))) (St w0 F (.own b (.cells cs.toArray T (0, 0)) :: L))) :
    LR false P n ops (⟨some d, .alloc T, T', p, af, none⟩ :: rest) Q f (St w0 F L) := by
  intro w hw a ha
  obtain ⟨z, hz, hc⟩ := h.zero
  refine wpList_plain rfl fun K hK => ?_
  have hr : (execOp a.eval ⟨some d, .alloc T, T', p, af, none⟩).run P w = .ok (.value (.pointer (some ⟨w.heap.size, 0, none⟩))) { w with heap := w.heap.push (.cells cs.toArray T (0, 0)) } := by
    simp [execOp, Instr.alloc, hz, newVar, newRow, newObj, Sem.run, hc]
  simp only [Oper.wp, hr, Oper.upon_value]
  exact hK _ _ (k w.heap.size _ (hw.alloc _) _ (ha.put _ hd))

/-- A slice written out, all its elements given. -/
theorem LR.buildSlice {E : TypeId} {sz by_ len : Nat} [h : SliceOf P T E sz by_] {parts : List (Nat × Operand)} (hd : Nat.blt d n = true) (hlen : Nat.ble (len * sz) 100000 = true)
    (hp : parts.map (·.1) = List.range len) (hs : (parts.all fun q => Nat.beq (f.ev q.2).cells.size sz) = true)
    (k : ∀ b, LR false P n ops rest Q (upd f d (.slice (some ⟨b, 0, none⟩) len len)) (St w0 F (.own b (.cells (parts.flatMap fun q => (f.ev q.2).cells.toList).toArray E (0, 0)) :: L))) :
    LR false P n ops (⟨some d, .buildSlice T len parts.toArray, T', p, af, none⟩ :: rest) Q f (St w0 F L) := by
  intro w hw a ha
  refine wpList_plain rfl fun K hK => ?_
  have hinf := h.inf
  obtain ⟨z, hz, hzs⟩ := h.zero
  have hl := Nat.le_of_ble_eq_true hlen
  have e : (parts.toArray.map fun (i, x) => (i, f.ev x)) = (parts.map fun q => (q.1, f.ev q.2)).toArray := by simp
  generalize hcs : (parts.flatMap fun q => (f.ev q.2).cells.toList) = cs at k
  have hf : ∀ c0 : Array Value, c0.size = len * sz → Instr.fill (fun i => some (i * sz, sz)) c0 (parts.map fun q => (q.1, f.ev q.2)) = some cs.toArray := by
    intro c0 h0
    have hlen' : len = parts.length := by have := congrArg List.length hp; simpa using this.symm
    have := fill_full sz (parts.map fun q => f.ev q.2) 0 c0 (by rw [h0, hlen']; simp) (by
      intro v hv
      obtain ⟨q, hq, rfl⟩ := List.mem_map.1 hv
      exact Nat.eq_of_beq_eq_true (List.all_eq_true.1 hs q hq))
    have e2 : ((parts.map fun q => f.ev q.2).zipIdx 0).map (fun q => (q.2, q.1)) = parts.map fun q => (q.1, f.ev q.2) := by
      apply List.ext_getElem
      · simp
      · intro i h1 h2
        simp only [List.getElem_map, List.getElem_zipIdx, Nat.zero_add]
        have h3 : (parts.map (·.1))[i]'(by simpa using h2) = i := by simp only [hp, List.getElem_range]
        simp only [List.getElem_map] at h3
        rw [h3]
    rw [e2] at this
    rw [this, ← hcs]
    simp [List.flatMap_map]
  have hr : (execOp a.eval ⟨some d, .buildSlice T len parts.toArray, T', p, af, none⟩).run P w = .ok (.value (.slice (some ⟨w.heap.size, 0, none⟩) len len)) { w with heap := w.heap.push (.cells cs.toArray E (0, 0)) } := by
    rw [ha.eval]
    cases hi : P.info? E with
    | none => simp [hi] at hinf
    | some inf =>
      simp only [hi, Option.map_some, Option.some.injEq, Prod.mk.injEq] at hinf
      simp only [hi, Option.bind_some] at hz
      have hs : sz > 0 := h.pos
      have hno : ¬ (len * sz > 2 ^ 24) := by omega
      simp only [execOp, e, Instr.buildSlice, run_underlying h.und, sizeOf, typeInfo, hi, Sem.run_bind, Sem.run_pure, Result.andThen_ok, program, Sem.run, hinf.1, hno, if_false]
      by_cases h0 : len * sz = 0
      · simp only [h0, if_true, Sem.run_bind, Sem.run_pure, Result.andThen_ok]
        rw [hf _ (by simp [h0])]
        simp [newRow, newObj, Sem.run]
      · simp only [h0, if_false, zeroValue, typeInfo, hi, hz, program, Sem.run_bind, Sem.run_pure, Result.andThen_ok, Sem.run]
        rw [hf _ (by simp)]
        simp [newRow, newObj, Sem.run]
  simp only [Oper.wp, hr, Oper.upon_value]
  exact hK _ _ (k w.heap.size _ (hw.alloc _) _ (ha.put _ hd))
/-- What the parts of a slice written out come to. -/
inductive BS (f : Frm) : Nat → List (Nat × Operand) → List Value → Prop
  | nil (sz : Nat) : BS f sz [] []
  | cons {sz i : Nat} {x : Operand} {ps : List (Nat × Operand)} {vs cs : List Value} (h : (f.ev x).cells = vs.toArray) (hs : vs.length = sz) (r : BS f sz ps cs) : BS f sz ((i, x) :: ps) (vs ++ cs)
theorem BS.int {i : Nat} {x : Operand} {ps : List (Nat × Operand)} {cs : List Value} {k : IntKind} {a : Int} (h : f.ev x = .int k a) (r : BS f 1 ps cs) : BS f 1 ((i, x) :: ps) (.int k a :: cs) := BS.cons (vs := [.int k a]) (by rw [h]; rfl) rfl r
theorem BS.ptr {i : Nat} {x : Operand} {ps : List (Nat × Operand)} {cs : List Value} {a : Option Addr} (h : f.ev x = .pointer a) (r : BS f 1 ps cs) : BS f 1 ((i, x) :: ps) (.pointer a :: cs) := BS.cons (vs := [.pointer a]) (by rw [h]; rfl) rfl r
theorem BS.slice {i : Nat} {x : Operand} {ps : List (Nat × Operand)} {cs : List Value} {a : Option Addr} {l c : Nat} (h : f.ev x = .slice a l c) (r : BS f 1 ps cs) : BS f 1 ((i, x) :: ps) (.slice a l c :: cs) := BS.cons (vs := [.slice a l c]) (by rw [h]; rfl) rfl r
theorem BS.agg {sz i : Nat} {x : Operand} {ps : List (Nat × Operand)} {vs cs : List Value} (h : f.ev x = .agg vs.toArray) (hs : vs.length = sz) (r : BS f sz ps cs) : BS f sz ((i, x) :: ps) (vs ++ cs) := BS.cons (vs := vs) (by rw [h]; rfl) hs r
theorem BS.out {sz : Nat} {ps : List (Nat × Operand)} {cs : List Value} (h : BS f sz ps cs) : ps.flatMap (fun q => (f.ev q.2).cells.toList) = cs ∧ (ps.all fun q => Nat.beq (f.ev q.2).cells.size sz) = true := by
  induction h with
  | nil => exact ⟨rfl, rfl⟩
  | cons h hs r ih =>
    refine ⟨by rw [List.flatMap_cons, ih.1, h], ?_⟩
    rw [List.all_cons, ih.2, h]
    simp [hs]
theorem LR.buildSliceB {E : TypeId} {sz by_ len : Nat} [h : SliceOf P T E sz by_] {parts : List (Nat × Operand)} {cs : List Value} (hd : Nat.blt d n = true) (hlen : Nat.ble (len * sz) 100000 = true)
    (hp : parts.map (·.1) = List.range len) (hb : BS f sz parts cs)
    (k : ∀ b, LR false P n ops rest Q (upd f d (.slice (some ⟨b, 0, none⟩) len len)) (St w0 F (.own b (.cells cs.toArray E (0, 0)) :: L))) :
    LR false P n ops (⟨some d, .buildSlice T len parts.toArray, T', p, af, none⟩ :: rest) Q f (St w0 F L) := by
  obtain ⟨h1, h2⟩ := hb.out
  exact LR.buildSlice hd hlen hp h2 (by rw [h1]; exact k)
end
end Go.Hb
