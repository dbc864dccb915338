/-
  Maps with whole numbers as keys: made, filled, asked. Conditions: none; nothing here speaks of one program.
-/
import Derived.Test.YtomlgnncncjmaaaHb8
import Derived.MapKept
namespace Go.Hb

class MapOf (P : Program) (T : TypeId) (q : outParam IntKind) (z : outParam Value) : Prop where
  ex : ∃ k e, P.underlying T = some (.map k e) ∧ P.underlying k = some (.int q) ∧ ∀ w, (zeroValue e).run P w = .ok z w

def ents (q : IntKind) : Nat → List (Int × Value) → List MapEntry
  | _, [] => []
  | n, x :: r => ⟨.int q x.1, x.2, n⟩ :: ents q (n + 1) r
theorem ents_snoc (q : IntKind) : ∀ (l : List (Int × Value)) (n : Nat) (x : Int × Value), ents q n (l ++ [x]) = ents q n l ++ [⟨.int q x.1, x.2, n + l.length⟩]
  | [], n, x => by simp [ents]
  | y :: r, n, x => by simp [ents, ents_snoc q r (n + 1) x]; omega
def mapObj (q : IntKind) (l : List (Int × Value)) : Obj := .map (ents q 0 l).toArray l.length
def findI (key : Int) : List (Int × Value) → Nat → Option (Nat × Value)
  | [], _ => none
  | x :: r, n => if key = x.1 then some (n, x.2) else findI key r (n + 1)
theorem findNow_ents (q : IntKind) (key : Int) : ∀ (l : List (Int × Value)) (m n : Nat), Instr.findNow (.int q) (.int q key) (ents q m l) n = some (findI key l n)
  | [], m, n => by simp [ents, Instr.findNow, findI]
  | x :: r, m, n => by
    have e : Instr.sameNow (.int q) (.int q key) (.int q x.1) = some (decide (key = x.1)) := by
      simp only [Instr.sameNow]
      congr 1
    simp only [ents, Instr.findNow, e, findI]
    by_cases h : key = x.1
    · simp [h]
    · simp [h, findNow_ents q key r (m + 1) (n + 1)]

theorem Keep.setObj (w : World) (r : Nat) (o : Obj) {F : Nat → Prop} (hF : F r) : Keep F w { w with heap := w.heap.setIfInBounds r o } :=
  ⟨rfl, rfl, rfl, by simp, fun k _ hk => by
    have : k ≠ r := fun e => hk (e ▸ hF)
    simp [Ne.symm this], fun _ h => (by cases h), fun _ h => (by cases h), fun _ h => (by cases h), List.Pairwise.nil, fun _ h => (by cases h)⟩

section
variable {P : Program} {n m : Nat} {f : Frm} {fn : Func} {K : Value → World → Prop} {w0 : World} {F : Nat → Prop} {L : List Asrt} {t u : Tmp} {T : TypeId} {b : Nat} {cs : List Value} {E : TypeId} {fr : Nat × Nat}
theorem load_own_all (h : Agg P T m) {w : World} (hb : w.heap[b]? = some (.cells cs.toArray E fr)) (hl : cs.length = m) : (loadVar T ⟨b, 0, none⟩).run P w = .ok (.agg cs.toArray) w :=
  run_load_agg h hl fun j v hj => by rw [addr_add, cell_own hb]; simpa using hj
theorem ret1c (hr : fn.results = #[.cell t T]) (h : Agg P T m) (hp : f t = .pointer (some ⟨b, 0, none⟩)) (hm : Asrt.own b (.cells cs.toArray E fr) ∈ L) (hl : Nat.beq cs.length m = true) (hk : ∀ w, St w0 F L w → K (.agg cs.toArray) w) :
    At (finK P fn n K) .ret f (St w0 F L) := by
  intro w hw a ha
  refine bodyPost_ret (v := .agg cs.toArray) ?_ ha.1 ⟨_, rfl, hk w hw⟩
  have hld := load_own_all (P := P) h (hw.own_at hm) (Nat.eq_of_beq_eq_true hl)
  have hp' : a.tmps.getD t undef = .pointer (some ⟨b, 0, none⟩) := by rw [ha.2.2]; exact hp
  simp [results, hr, hp', asAddr, hld, -Array.getD_eq_getD_getElem?]
theorem ret2c (hr : fn.results = #[.cell t T, .tmp u]) (h : Agg P T m) (hp : f t = .pointer (some ⟨b, 0, none⟩)) (hm : Asrt.own b (.cells cs.toArray E fr) ∈ L) (hl : Nat.beq cs.length m = true) (hk : ∀ w, St w0 F L w → K (.tuple [.agg cs.toArray, f u].toArray) w) :
    At (finK P fn n K) .ret f (St w0 F L) := by
  intro w hw a ha
  refine bodyPost_ret (v := .tuple #[.agg cs.toArray, f u]) ?_ ha.1 ⟨_, rfl, hk w hw⟩
  have hld := load_own_all (P := P) h (hw.own_at hm) (Nat.eq_of_beq_eq_true hl)
  have hp' : a.tmps.getD t undef = .pointer (some ⟨b, 0, none⟩) := by rw [ha.2.2]; exact hp
  have hu' : a.tmps.getD u undef = f u := ha.2.2 u
  simp [results, hr, hp', hu', asAddr, hld, -Array.getD_eq_getD_getElem?]
end
section
variable {P : Program} {f : Frm} {T T' : TypeId} {x y z : Operand} {v zv : Value} {w0 : World} {F : Nat → Prop} {L L' : List Asrt}
variable {n : Nat} {ops rest : List Oper} {Q : Post} {p : String} {af : Array Edge} {d : Nat} {q : IntKind}
theorem LR.makeMap [h : MapOf P T q zv] (hd : Nat.blt d n = true) (k : ∀ b, LR false P n ops rest Q (upd f d (.map (some b))) (St w0 F (.own b (mapObj q []) :: L))) :
    LR false P n ops (⟨some d, .makeMap T none, T', p, af, none⟩ :: rest) Q f (St w0 F L) := by
  intro w hw a ha
  refine wpList_plain rfl fun K hK => ?_
  have hr : (execOp a.eval ⟨some d, .makeMap T none, T', p, af, none⟩).run P w = .ok (.value (.map (some w.heap.size))) { w with heap := w.heap.push (mapObj q []) } := by
    simp [execOp, Instr.makeMap, newObj, Sem.run, mapObj, ents]
  simp only [Oper.wp, hr, Oper.upon_value]
  exact hK _ _ (k w.heap.size _ (hw.alloc _) _ (ha.put _ hd))

theorem LR.insert {b : Nat} {l : List (Int × Value)} {key : Int} [h : MapOf P T q zv] (hx : f.ev x = .map (some b)) (hy : f.ev y = .int q key) (hz : f.ev z = v)
    (hs : Sel L (.own b (mapObj q l)) (.own b (mapObj q (l ++ [(key, v)]))) L') (hnew : (findI key l 0).isNone = true)
    (k : LR false P n ops rest Q f (St w0 F L')) : LR false P n ops (⟨none, .insert T x y z, T', p, af, none⟩ :: rest) Q f (St w0 F L) := by
  intro w hw a ha
  refine wpList_plain rfl fun K hK => ?_
  obtain ⟨kt, et, ht, hk, _⟩ := h.ex
  have hb : w.heap[b]? = some (.map (ents q 0 l).toArray l.length) := hw.own_at hs.mem
  have hfind : (Instr.findKey kt (.int q key) (ents q 0 l)).run P w = .ok none w := by
    refine MapKept.run_findKey hk ?_
    rw [findNow_ents]
    cases hf : findI key l 0 with
    | none => rfl
    | some r => rw [hf] at hnew; cases hnew
  have hr : (execOp a.eval ⟨none, .insert T x y z, T', p, af, none⟩).run P w = .ok .skip { w with heap := w.heap.setIfInBounds b (mapObj q (l ++ [(key, v)])) } := by
    rw [ha.eval]
    have e : Obj.map ((ents q 0 l).toArray.push ⟨.int q key, v, l.length⟩) (l.length + 1) = mapObj q (l ++ [(key, v)]) := by
      simp [mapObj, ents_snoc]
    simp only [execOp, hx, hy, hz, Instr.mapUpdate, Sem.run_bind, run_underlying ht, Result.andThen_ok, MapKept.run_getObj_map hb, MapKept.run_checkKey (k := .int q key) hk (by rfl) _ 9999, hfind, MapKept.run_setObj_map _ hb, e, Sem.run_pure]
  simp only [Oper.wp, hr, Oper.upon_skip]
  have hsz : b < w.heap.size := (Array.getElem?_eq_some_iff.1 hb).1
  refine hK _ _ (k _ ?_ _ (ha.put_none undef))
  exact hw.turn hs rfl (Keep.setObj w b _ rfl) (by show (w.heap.setIfInBounds b _)[b]? = _; simp [hsz]) (fun k hk => .inl hk) (Asrt.dep_own _ _)

theorem Ev.lookup_ok {b : Nat} {l : List (Int × Value)} {key : Int} {r : Option (Nat × Value)} [h : MapOf P T q zv] (hx : f.ev x = .map (some b)) (hy : f.ev y = .int q key) (hm : .own b (mapObj q l) ∈ L) (hr : findI key l 0 = r) :
    Ev P (St w0 F L) f (.lookup T x y true) T' (.tuple [(r.map Prod.snd).getD zv, .bool r.isSome].toArray) := fun w hw d p af g => by
  obtain ⟨kt, et, ht, hk, hz⟩ := h.ex
  have hb : w.heap[b]? = some (.map (ents q 0 l).toArray l.length) := hw.own_at hm
  have hfind : (Instr.findKey kt (.int q key) (ents q 0 l)).run P w = .ok r w := by
    refine MapKept.run_findKey hk ?_
    rw [findNow_ents, hr]
  cases r with
  | none => simp [execOp, hx, hy, Instr.lookup, run_underlying ht, MapKept.run_getObj_map hb, MapKept.run_checkKey (k := .int q key) hk (by rfl) _ 9999, hfind, hz, Result.andThen]
  | some s => simp [execOp, hx, hy, Instr.lookup, run_underlying ht, MapKept.run_getObj_map hb, MapKept.run_checkKey (k := .int q key) hk (by rfl) _ 9999, hfind, Result.andThen]
end
end Go.Hb
