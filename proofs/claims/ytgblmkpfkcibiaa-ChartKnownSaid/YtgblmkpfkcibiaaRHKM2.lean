/-
  What is learnt: copies; the reference's Learn.
-/
import Derived.Test.YtgblmkpfkcibiaaRHKM1
import Derived.DeepKeys5
import Derived.WideKeyRuns
import Derived.Deep.AppendSrc
import Derived.Shelf.Sort.Plain
import Derived.Ground.Names2Prog
import Derived.Shelf.Slices.CompactI
import Derived.Shelf.Slices.In.SortNone
import Derived.Test.YtgblmkpfkcibiaaProg
import Derived.Sort.OwnSortedInts
import Derived.Lib.SliceRun

set_option linter.unusedSimpArgs false
set_option linter.unusedVariables false
namespace Go.Hb

def Finds {κ : Type} (P : Program) (kt : TypeId) (enc : κ → Value) (l : List (κ × Value)) (es : List MapEntry) (a : κ) (w : World) : Prop :=
  ((Instr.findKey kt (enc a) es).run P w = .ok none w ∧ ∀ p ∈ l, p.1 ≠ a) ∨ ∃ j u, (Instr.findKey kt (enc a) es).run P w = .ok (some (j, u)) w ∧ l[j]? = some (a, u)
class KMap (P : Program) (T : TypeId) {κ : Type} (enc : κ → Value) (ok : κ → Prop) (z : outParam Value) : Prop where
  ex : ∃ kt et, P.underlying T = some (.map kt et) ∧ (∀ em a w, ok a → (Instr.checkKey em 10000 kt (enc a)).run P w = .ok () w) ∧
    (∀ (l : List (κ × Value)) (es : List MapEntry) a w, es.map (fun e => (e.key, e.val)) = l.map (fun p => (enc p.1, p.2)) → (∀ p ∈ l, ok p.1) → ok a → Finds P kt enc l es a w) ∧ ∀ w, (zeroValue et).run P w = .ok z w
def kmH {κ : Type} (enc : κ → Value) (b : Nat) (l : List (κ × Value)) (w : World) : Prop := ∃ es clock, w.heap[b]? = some (.map es clock) ∧ es.toList.map (fun e => (e.key, e.val)) = l.map (fun p => (enc p.1, p.2))
def kmap {κ : Type} (enc : κ → Value) (b : Nat) (l : List (κ × Value)) : Asrt := .ex (fun j => j = b) (kmH enc b l)
section
variable {κ : Type} {enc : κ → Value} {ok : κ → Prop}
theorem kmap.dep (b : Nat) (l : List (κ × Value)) : (kmap enc b l).dep := by
  intro w w' hk h
  obtain ⟨es, clock, hb, he⟩ := h
  exact ⟨es, clock, by rw [hk b rfl]; exact hb, he⟩
theorem kmap.live {b : Nat} {l : List (κ × Value)} {w : World} (h : kmH enc b l w) : ∀ j, (kmap enc b l).foot j → j < w.heap.size := by
  rintro j rfl
  obtain ⟨es, clock, hb, _⟩ := h
  exact (Array.getElem?_eq_some_iff.1 hb).1
variable {P : Program} {f : Frm} {T T' : TypeId} {x y z : Operand} {v zv : Value} {w0 : World} {F : Nat → Prop} {L L' : List Asrt}
variable {C : World → Prop} {n : Nat} {ops rest : List Oper} {Q : Post} {p : String} {af : Array Edge} {d : Nat}
theorem LR.makeMapK [h : KMap P T enc ok zv] (hd : Nat.blt d n = true) (k : ∀ b, LR false P n ops rest Q (upd f d (.map (some b))) (St w0 F (kmap enc b [] :: L))) :
    LR false P n ops (⟨some d, .makeMap T none, T', p, af, none⟩ :: rest) Q f (St w0 F L) := by
  intro w hw a ha
  refine wpList_plain rfl fun K hK => ?_
  have hr : (execOp a.eval ⟨some d, .makeMap T none, T', p, af, none⟩).run P w = .ok (.value (.map (some w.heap.size))) { w with heap := w.heap.push (.map #[] 0) } := by
    simp [execOp, Instr.makeMap, newObj, Sem.run]
  simp only [Oper.wp, hr, Oper.upon_value]
  refine hK _ _ (k w.heap.size _ ?_ _ (ha.put _ hd))
  have h1 := hw.alloc (.map #[] 0)
  refine h1.turn (Sel.head _ _ _) rfl (St.refl _ _) ?_ (fun k hk => .inl hk) (kmap.dep _ _)
  exact ⟨#[], 0, h1.own_at (List.Mem.head _), rfl⟩
theorem Ev.lookup_no {b : Nat} {l : List (κ × Value)} {a : κ} [h : KMap P T enc ok zv] (hx : f.ev x = .map (some b)) (hy : f.ev y = enc a) (hm : ∀ w, C w → kmH enc b l w) (hl : ∀ p ∈ l, ok p.1) (ha : ok a) (hno : ∀ p ∈ l, p.1 ≠ a) :
    Ev P C f (.lookup T x y true) T' (.tuple [zv, .bool false].toArray) := fun w hw d p af g => by
  obtain ⟨kt, et, ht, K, hf, hz⟩ := h.ex
  obtain ⟨es, clock, hb, he⟩ : kmH enc b l w := hm w hw
  have hlx := fun em => K em a w ha
  rcases hf l es.toList a w he hl ha with ⟨h1, _⟩ | ⟨j, u, h1, h2⟩
  · simp [execOp, hx, hy, Instr.lookup, run_underlying ht, MapKept.run_getObj_map hb, hlx, h1, hz, Result.andThen]
  · exact absurd rfl (hno _ (List.mem_of_getElem? h2))
theorem Ev.lookup_yes {b : Nat} {l : List (κ × Value)} {a : κ} {u : Value} [h : KMap P T enc ok zv] (hx : f.ev x = .map (some b)) (hy : f.ev y = enc a) (hm : ∀ w, C w → kmH enc b l w) (hl : ∀ p ∈ l, ok p.1) (hd : (l.map Prod.fst).Nodup) (ha : (a, u) ∈ l) :
    Ev P C f (.lookup T x y true) T' (.tuple [u, .bool true].toArray) := fun w hw d p af g => by
  obtain ⟨kt, et, ht, K, hf, hz⟩ := h.ex
  obtain ⟨es, clock, hb, he⟩ : kmH enc b l w := hm w hw
  have hlx := fun em => K em a w (hl _ ha)
  rcases hf l es.toList a w he hl (hl _ ha) with ⟨h1, h2⟩ | ⟨j, u', h1, h2⟩
  · exact absurd rfl (h2 _ ha)
  · have hu : u' = u := by
      obtain ⟨i, hi⟩ := List.getElem?_of_mem ha
      have e1 : (l.map Prod.fst)[i]? = some a := by rw [List.getElem?_map, hi]; rfl
      have e2 : (l.map Prod.fst)[j]? = some a := by rw [List.getElem?_map, h2]; rfl
      have hi2 := (List.getElem?_eq_some_iff.1 e1).1
      have := (List.getElem?_inj hi2 hd).1 (e1.trans e2.symm)
      subst this
      rw [hi] at h2
      simpa using h2.symm
    subst hu
    simp [execOp, hx, hy, Instr.lookup, run_underlying ht, MapKept.run_getObj_map hb, hlx, h1, Result.andThen]
theorem LR.insertK {b : Nat} {l : List (κ × Value)} {a : κ} [h : KMap P T enc ok zv] (hx : f.ev x = .map (some b)) (hy : f.ev y = enc a) (hz : f.ev z = v)
    (hs : Sel L (kmap enc b l) (kmap enc b (l ++ [(a, v)])) L') (hl : ∀ p ∈ l, ok p.1) (ha : ok a) (hno : ∀ p ∈ l, p.1 ≠ a)
    (k : LR false P n ops rest Q f (St w0 F L')) : LR false P n ops (⟨none, .mapUpdate T x y z, T', p, af, none⟩ :: rest) Q f (St w0 F L) := by
  intro w hw act hact
  refine wpList_plain rfl fun K' hK => ?_
  obtain ⟨kt, et, ht, K, hf, _⟩ := h.ex
  obtain ⟨es, clock, hb, he⟩ : kmH enc b l w := (hw.holds _ hs.mem)
  have hlx := fun em => K em a w ha
  rcases hf l es.toList a w he hl ha with ⟨h1, _⟩ | ⟨j, u, h1, h2⟩
  · have hr : (execOp act.eval ⟨none, .mapUpdate T x y z, T', p, af, none⟩).run P w = .ok .skip { w with heap := w.heap.setIfInBounds b (.map (es.push ⟨enc a, v, clock⟩) (clock + 1)) } := by
      rw [hact.eval]
      simp only [execOp, hx, hy, hz, Instr.mapUpdate, Sem.run_bind, run_underlying ht, Result.andThen_ok, MapKept.run_getObj_map hb, hlx, h1, MapKept.run_setObj_map _ hb, Sem.run_pure]
    simp only [Oper.wp, hr, Oper.upon_skip]
    have hsz : b < w.heap.size := (Array.getElem?_eq_some_iff.1 hb).1
    refine hK _ _ (k _ ?_ _ (hact.put_none undef))
    exact hw.turn hs rfl (Keep.setObj w b _ rfl) ⟨es.push ⟨enc a, v, clock⟩, clock + 1, by show (w.heap.setIfInBounds b _)[b]? = _; simp [hsz], by simp [he]⟩ (fun k hk => .inl hk) (kmap.dep _ _)
  · exact absurd rfl (hno _ (List.mem_of_getElem? h2))
theorem LR.deleteK [DecidableEq κ] {b : Nat} {l : List (κ × Value)} {a : κ} {K1 : TypeId} [h : KMap P T enc ok zv] (hu : (match P.underlying T with | some (.map k _) => Nat.beq k K1 | _ => false) = true) (hx : f.ev x = .map (some b)) (hy : f.ev y = enc a)
    (hs : Sel L (kmap enc b l) (kmap enc b (l.filter fun p => decide (p.1 ≠ a))) L') (hl : ∀ p ∈ l, ok p.1) (hnd : (l.map Prod.fst).Nodup) (ha : ok a)
    (k : LR false P n ops rest Q f (St w0 F L')) : LR false P n ops (⟨none, .call ⟨.builtin .delete, [x, y].toArray, [T, K1].toArray⟩, T', p, af, none⟩ :: rest) Q f (St w0 F L) := by
  intro w hw act hact
  refine wpList_plain rfl fun K' hK => ?_
  obtain ⟨kt, et, ht, K, hf, _⟩ := h.ex
  obtain ⟨es, clock, hb, he⟩ : kmH enc b l w := (hw.holds _ hs.mem)
  have hlx := fun em => K em a w ha
  have hsz : b < w.heap.size := (Array.getElem?_eq_some_iff.1 hb).1
  have fin : ∀ es', es'.toList.map (fun e => (e.key, e.val)) = (l.filter fun p => decide (p.1 ≠ a)).map (fun p => (enc p.1, p.2)) → (Builtin.delete_ #[T, K1] T' #[.map (some b), enc a]).run P w = .ok (.tuple #[]) { w with heap := w.heap.setIfInBounds b (.map es' clock) } →
      (⟨none, .call ⟨.builtin .delete, [x, y].toArray, [T, K1].toArray⟩, T', p, af, none⟩ : Oper).wp P act w K' (lift n Q) := by
    intro es' he' hr
    have hr' : (execOp act.eval ⟨none, .call ⟨.builtin .delete, [x, y].toArray, [T, K1].toArray⟩, T', p, af, none⟩).run P w = .ok (.value (.tuple #[])) { w with heap := w.heap.setIfInBounds b (.map es' clock) } := by
      rw [hact.eval]
      simp only [execOp, resolve, invoke, builtin, Sem.run_bind, Sem.run_pure, Result.andThen_ok, List.map_toArray, List.map_cons, List.map_nil, hx, hy, hr]
    simp only [Oper.wp, hr', Oper.upon_value]
    refine hK _ _ (k _ ?_ _ (hact.put_none _))
    exact hw.turn hs rfl (Keep.setObj w b _ rfl) ⟨es', clock, by show (w.heap.setIfInBounds b _)[b]? = _; simp [hsz], he'⟩ (fun k hk => .inl hk) (kmap.dep _ _)
  rcases hf l es.toList a w he hl ha with ⟨h1, h2⟩ | ⟨j, u, h1, h2⟩
  · refine fin es ?_ ?_
    · rw [List.filter_eq_self.2 (fun p hp => by simpa using h2 p hp), he]
    · simp [Builtin.delete_, run_underlying ht, MapKept.run_getObj_map hb, hlx, h1, MapKept.run_setObj_map _ hb, Result.andThen]
  · have hlen : es.toList.length = l.length := by have := congrArg List.length he; simpa using this
    have hj : j < l.length := (List.getElem?_eq_some_iff.1 h2).1
    have hjs : j < es.size := by rw [← Array.length_toList, hlen]; exact hj
    refine fin (es.eraseIdxIfInBounds j) ?_ ?_
    · have hsub : (es.eraseIdxIfInBounds j).toList = es.toList.eraseIdx j := by
        unfold Array.eraseIdxIfInBounds
        rw [dif_pos hjs]
        simp
      have hf := ChangeMaps.filter_eq_eraseIdx (fun p : κ × Value => decide (p.1 = a)) l j (a, u) h2 (by simp) (by
        rw [List.nodup_iff_pairwise_ne, List.pairwise_map] at hnd
        exact hnd.imp (fun {p q} hpq ⟨e1, e2⟩ => hpq (by simp at e1 e2; rw [e1, e2])))
      rw [hsub, ChangeMaps.map_eraseIdx, he, ← ChangeMaps.map_eraseIdx, ← hf]
      congr 1
      refine List.filter_congr fun p _ => ?_
      simp
    · simp [Builtin.delete_, run_underlying ht, MapKept.run_getObj_map hb, hlx, h1, MapKept.run_setObj_map _ hb, Result.andThen]
end
end Go.Hb

namespace Go.Hb
section
variable {α : Type} {f : α → List Value} {n : Nat}
theorem rows_get (hf : ∀ x, (f x).length = n) : ∀ (l : List α) (i j : Nat) (v : Value) (h : i < l.length), (f l[i])[j]? = some v → (l.flatMap f)[i * n + j]? = some v
  | x :: r, 0, j, v, h, hj => by
    have hlt : j < (f x).length := (List.getElem?_eq_some_iff.1 hj).1
    rw [List.flatMap_cons, Nat.zero_mul, Nat.zero_add, List.getElem?_append_left hlt]
    exact hj
  | x :: r, i + 1, j, v, h, hj => by
    have ih := rows_get hf r i j v (by simpa using h) hj
    rw [List.flatMap_cons, List.getElem?_append_right (by rw [hf]; rw [Nat.add_mul]; omega), hf, show (i + 1) * n + j - n = i * n + j by rw [Nat.add_mul]; omega]
    exact ih
theorem rows_len (hf : ∀ x, (f x).length = n) : ∀ (l : List α), (l.flatMap f).length = l.length * n
  | [] => by simp
  | x :: r => by rw [List.flatMap_cons, List.length_append, hf, rows_len hf r, List.length_cons, Nat.add_mul]; omega
theorem rd_row (hf : ∀ x, (f x).length = n) {w : World} {b o : Nat} {l : List α} (h : Rd w (some ⟨b, o, none⟩) (l.flatMap f)) {i q : Nat} (hi : i < l.length) (hq : q = i * n) : ∀ j v, (f l[i])[j]? = some v → w.cell? ((⟨b, o + q, none⟩ : Addr).add j) = some v := by
  intro j v hj
  subst hq
  rw [addr_add, Nat.add_assoc]
  exact h.cell (rows_get hf l i j v hi hj)
theorem row_cell (hf : ∀ x, (f x).length = n) {w : World} {b o q i : Nat} {l : List α} {v : Value} (h : Rd w (some ⟨b, o, none⟩) (l.flatMap f)) (hi : i < l.length) (j : Nat) (hj : (f l[i])[j]? = some v) (hq : q = o + i * n + j) : w.cell? ⟨b, q, none⟩ = some v := by
  subst hq
  rw [Nat.add_assoc]
  exact h.cell (rows_get hf l i j v hi hj)
theorem rows_ne (hf : ∀ x, (f x).length = n) (hn : 0 < n) {l : List α} {i : Nat} (h : i < l.length) : l.flatMap f ≠ [] := fun e => by
  have := rows_len hf l
  rw [e] at this
  have h2 : 1 * n ≤ l.length * n := Nat.mul_le_mul_right _ (by omega)
  simp only [List.length_nil] at this
  omega
end
section
variable {w0 w : World} {L : List Asrt} {x : Asrt} {a : Option Addr} {xs : List Value}
theorem St.oldRdF {F : Nat → Prop} (h : St w0 F L w) (hr : Rd w0 a xs) (hF : ∀ k, rdFoot a xs k → ¬ F k) : Rd w a xs :=
  Rd.dep a xs w0 w (fun k hk => h.keep k (hr.live k hk) (hF k hk)) hr
theorem DW.castL {P : Program} {n : Nat} {ops : List Oper} {Q : Post} {done : List Nat} {S : World → Prop} {f : Frm} {w0 : World} {F : Nat → Prop} {L L' : List Asrt} (e : L = L') (h : DW P n ops Q done S f (St w0 F L')) : DW P n ops Q done S f (St w0 F L) := e ▸ h
end
end Go.Hb

namespace Go.Hb
def intK (q : IntKind) (a : Int) : Value := .int q a
def okK (_ : Int) : Prop := True
theorem findNow_l (q : IntKind) (a : Int) : ∀ (es : List MapEntry) (l : List (Int × Value)) (i : Nat), es.map (fun e => (e.key, e.val)) = l.map (fun p => (intK q p.1, p.2)) →
    (Instr.findNow (.int q) (.int q a) es i = some none ∧ ∀ p ∈ l, p.1 ≠ a) ∨ ∃ j u, Instr.findNow (.int q) (.int q a) es i = some (some (i + j, u)) ∧ l[j]? = some (a, u)
  | [], l, i, h => by
    have hl : l = [] := by cases l with | nil => rfl | cons p r => simp at h
    subst hl
    exact .inl ⟨rfl, by simp⟩
  | e :: es, l, i, h => by
    cases l with
    | nil => simp at h
    | cons p r =>
      simp only [List.map_cons, List.cons.injEq, Prod.mk.injEq] at h
      obtain ⟨⟨h1, h2⟩, h3⟩ := h
      have hs : Instr.sameNow (.int q) (.int q a) e.key = some (decide (a = p.1)) := by
        rw [h1]
        simp only [Instr.sameNow, intK]
        congr 1
      by_cases hp : a = p.1
      · refine .inr ⟨0, e.val, ?_, ?_⟩
        · rw [Instr.findNow, hs, decide_eq_true hp]; rfl
        · simp [hp, h2]
      · rcases findNow_l q a es r (i + 1) h3 with ⟨h4, h5⟩ | ⟨j, u, h4, h5⟩
        · refine .inl ⟨by simp [Instr.findNow, hs, hp, h4], fun x hm => ?_⟩
          rcases List.mem_cons.1 hm with rfl | hm
          · exact fun e => hp e.symm
          · exact h5 x hm
        · refine .inr ⟨j + 1, u, ?_, by simpa using h5⟩
          rw [show i + (j + 1) = i + 1 + j by omega]
          simp [Instr.findNow, hs, hp, h4]
theorem KMap.ofInt {P : Program} {T kt et : TypeId} {q : IntKind} {z : Value} (hT : P.underlying T = some (.map kt et)) (hk : P.underlying kt = some (.int q)) (hz : ∀ w, (zeroValue et).run P w = .ok z w) : KMap P T (intK q) okK z := by
  refine ⟨kt, et, hT, fun em a w _ => MapKept.run_checkKey (k := .int q a) hk (by rfl) em 9999, fun l es a w he _ _ => ?_, hz⟩
  rcases findNow_l q a es l 0 he with ⟨h1, h2⟩ | ⟨j, u, h1, h2⟩
  · exact .inl ⟨MapKept.run_findKey hk h1, h2⟩
  · rw [Nat.zero_add] at h1
    exact .inr ⟨j, u, MapKept.run_findKey hk h1, h2⟩
section
variable {P : Program} {ops : List Oper} {z : Nat} {Z D : List Nat}
structure Gate (ops : List Oper) (z : Nat) (Z D : List Nat) : Prop where
  mem : Z.contains z = true
  zlt : ∀ j, Z.contains j = true → j < ops.length
  deps : ∀ (j : Nat) (o : Oper), ops[j]? = some o → Z.contains j = false → ∀ e ∈ o.after, Region.binds .any e = true → Z.contains e.on = false ∧ e.on < j
  others : ∀ (j : Nat) (o : Oper), ops[j]? = some o → Z.contains j = true → j ≠ z → ∃ e ∈ o.after, Region.binds .any e = true ∧ Z.contains e.on = true
  zdeps : ∀ (o : Oper), ops[z]? = some o → ∀ e ∈ o.after, Region.binds .any e = true → Z.contains e.on = false
  all : ∀ i, i < ops.length → Z.contains i = false → D.contains i = false → ∃ (j : Nat) (o : Oper), ops[j]? = some o ∧ (j = z ∨ (Z.contains j = false ∧ i < j)) ∧ ∃ e ∈ o.after, Region.binds .any e = true ∧ e.on = i
def gateB (ops : List Oper) (z : Nat) (Z D A : List Nat) : Bool :=
  Z.contains z && Z.all (fun j => Nat.blt j ops.length) && ((List.range ops.length).all fun j => match ops[j]? with
    | some o =>
      (Z.contains j || o.after.all fun e => !Region.binds .any e || (!Z.contains e.on && Nat.blt e.on j)) &&
      (!Z.contains j || Nat.beq j z || o.after.any fun e => Region.binds .any e && Z.contains e.on) &&
      (!Nat.beq j z || o.after.all fun e => !Region.binds .any e || !Z.contains e.on) &&
      (Z.contains j || D.contains j || ((List.range ops.length).any fun k => (Nat.beq k z || (!Z.contains k && Nat.blt j k)) && match ops[k]? with | some o => o.after.any fun e => Region.binds .any e && Nat.beq e.on j | none => false)) &&
      ((D ++ A).contains j == !Z.contains j)
    | none => false) && (D ++ A).all (fun j => Nat.blt j ops.length) && Nat.ble ((D ++ A).length + Z.length) ops.length && Nat.ble ops.length ((D ++ A).length + Z.length)
theorem gateB_sound {A : List Nat} (h : gateB ops z Z D A = true) : Gate ops z Z D ∧ (∀ j, j < ops.length → ((D ++ A).contains j = !Z.contains j)) ∧ (∀ j ∈ D ++ A, j < ops.length) ∧ (D ++ A).length + Z.length = ops.length := by
  unfold gateB at h
  simp only [Bool.and_eq_true] at h
  obtain ⟨⟨⟨⟨⟨h1, h2⟩, h3⟩, h4⟩, h5⟩, h6⟩ := h
  have h5' := Nat.le_of_ble_eq_true h5
  have h6' := Nat.le_of_ble_eq_true h6
  have key : ∀ j o, ops[j]? = some o → _ := fun j o ho => by
    have hj : j < ops.length := (List.getElem?_eq_some_iff.1 ho).1
    have := List.all_eq_true.1 h3 j (List.mem_range.2 hj)
    rw [ho] at this
    simp only [Bool.and_eq_true] at this
    exact this
  refine ⟨⟨h1, fun j hj => ?_, fun j o ho hz e he hb => ?_, fun j o ho hz hne => ?_, fun o ho e he hb => ?_, fun i hi hz hd => ?_⟩, fun j hj => ?_, fun j hj => ?_, by omega⟩
  · have := List.all_eq_true.1 h2 j (by simpa using hj)
    simpa using this
  · have := (key j o ho).1.1.1.1
    rw [hz, Bool.false_or] at this
    have := (Array.all_eq_true_iff_forall_mem.1 this) e he
    simp only [hb, Bool.not_true, Bool.false_or, Bool.and_eq_true, Bool.not_eq_true'] at this
    exact ⟨this.1, by simpa using this.2⟩
  · have := (key j o ho).1.1.1.2
    rw [hz] at this
    simp only [Bool.not_true, Bool.false_or, Bool.or_eq_true] at this
    rcases this with h | h
    · exact absurd (Nat.eq_of_beq_eq_true h) hne
    · obtain ⟨i, hi, h⟩ := Array.any_eq_true.1 h
      simp only [Bool.and_eq_true] at h
      exact ⟨_, Array.getElem_mem hi, h.1, h.2⟩
  · have := (key z o ho).1.1.2
    rw [show Nat.beq z z = true from Nat.beq_refl z] at this
    simp only [Bool.not_true, Bool.false_or] at this
    have := (Array.all_eq_true_iff_forall_mem.1 this) e he
    simp only [hb, Bool.not_true, Bool.false_or, Bool.not_eq_true'] at this
    exact this
  · have := (key i ops[i] (by simp [hi])).1.2
    rw [hz, hd] at this
    simp only [Bool.false_or] at this
    obtain ⟨k, _, hk⟩ := List.any_eq_true.1 this
    simp only [Bool.and_eq_true, Bool.or_eq_true] at hk
    obtain ⟨hk1, hk2⟩ := hk
    split at hk2
    · rename_i o ho
      obtain ⟨m, hm, hx⟩ := Array.any_eq_true.1 hk2
      simp only [Bool.and_eq_true] at hx
      refine ⟨k, o, ho, ?_, _, Array.getElem_mem hm, hx.1, Nat.eq_of_beq_eq_true hx.2⟩
      rcases hk1 with h | h
      · exact .inl (Nat.eq_of_beq_eq_true h)
      · simp only [Bool.not_eq_true'] at h
        exact .inr ⟨h.1, by simpa using h.2⟩
    · cases hk2
  · have := (key j ops[j] (by simp [hj])).2
    exact beq_iff_eq.1 this
  · have := List.all_eq_true.1 h4 j hj
    simpa using this
def orZ (listed : Array Bool) (Z : List Nat) : Array Bool := Z.foldl (fun l i => l.setIfInBounds i true) listed
theorem orZ_size : ∀ (Z : List Nat) (listed : Array Bool), (orZ listed Z).size = listed.size
  | [], _ => rfl
  | i :: r, l => by unfold orZ; rw [List.foldl_cons]; have := orZ_size r (l.setIfInBounds i true); unfold orZ at this; rw [this]; simp
theorem orZ_get {b : Bool} : ∀ (Z : List Nat) (listed : Array Bool) (j : Nat), j < listed.size → (orZ listed Z).getD j b = (listed.getD j b || Z.contains j)
  | [], l, j, _ => by simp [orZ]
  | i :: r, l, j, hj => by
    unfold orZ
    rw [List.foldl_cons]
    have := orZ_get (b := b) r (l.setIfInBounds i true) j (by simpa using hj)
    unfold orZ at this
    rw [this]
    by_cases h : i = j
    · subst h
      simp [hj]
    · rw [getD_set_ne b h]
      have : (i :: r).contains j = r.contains j := by
        rw [List.contains_cons, show (j == i) = false by simpa using fun e => h e.symm, Bool.false_or]
      rw [this]
theorem lst_orZ (ops : List Oper) (D Z : List Nat) : lst ops (D ++ Z) = orZ (lst ops D) Z := by unfold lst orZ; rw [List.foldl_append]
theorem lst_size (ops : List Oper) (D : List Nat) : (lst ops D).size = ops.length := by
  have := orZ_size D (Array.replicate ops.length false)
  unfold orZ at this
  unfold lst
  rw [this]; simp
theorem lst_get (ops : List Oper) (D : List Nat) {j : Nat} {b : Bool} (hj : j < ops.length) : (lst ops D).getD j b = D.contains j := by
  have := orZ_get (b := b) D (Array.replicate ops.length false) j (by simpa using hj)
  unfold orZ at this
  unfold lst
  rw [this]
  simp [hj]
def ClosedZ (ops : List Oper) (Z : List Nat) (listed : Array Bool) : Prop := ∀ (j : Nat) (o : Oper), ops[j]? = some o → Z.contains j = false → listed.getD j false = true → ∀ e ∈ o.after, Region.binds .any e = true → listed.getD e.on false = true
variable {Q Q' : Exit → Act → World → Prop} {S S' : World → Prop}
theorem gate_ready (hg : Gate ops z Z D) {listed : Array Bool} (hsz : listed.size = ops.length) {i : Nat} (hi : Z.contains i = false) : i ∈ Region.ready .any ops.toArray listed ↔ i ∈ Region.ready .any ops.toArray (orZ listed Z) := by
  rw [mem_ready, mem_ready]
  constructor
  · rintro ⟨h1, o, ho, h2⟩
    have hlt : i < listed.size := by rw [hsz]; simpa using (Array.getElem?_eq_some_iff.1 ho).1
    refine ⟨by rw [orZ_get Z listed i hlt, h1, hi]; rfl, o, ho, fun e he hb => ?_⟩
    have hd := hg.deps i o (by simpa using ho) hi e he hb
    rw [orZ_get Z listed e.on (by omega), h2 e he hb]; rfl
  · rintro ⟨h1, o, ho, h2⟩
    have hlt : i < listed.size := by rw [hsz]; simpa using (Array.getElem?_eq_some_iff.1 ho).1
    rw [orZ_get Z listed i hlt, hi, Bool.or_false] at h1
    refine ⟨h1, o, ho, fun e he hb => ?_⟩
    have hd := hg.deps i o (by simpa using ho) hi e he hb
    have := h2 e he hb
    rwa [orZ_get Z listed e.on (by omega), hd.1, Bool.or_false] at this
theorem gate_only (hg : Gate ops z Z D) {listed : Array Bool} (hsz : listed.size = ops.length) (hZ : ∀ j, Z.contains j = true → listed.getD j false = false) (hD : ∀ j, D.contains j = true → j < ops.length → listed.getD j false = true) (hc : ClosedZ ops Z listed) {i : Nat} (hi : i ∈ Region.ready .any ops.toArray listed) (hiz : Z.contains i = true) :
    i = z ∧ ∀ j, j < ops.length → Z.contains j = false → listed.getD j false = true := by
  obtain ⟨h1, o, ho, h2⟩ := mem_ready.1 hi
  have ho' : ops[i]? = some o := by simpa using ho
  have hz : i = z := Classical.byContradiction fun hne => by
    obtain ⟨e, he, hb, hez⟩ := hg.others i o ho' hiz hne
    have := h2 e he hb
    rw [hZ e.on hez] at this
    cases this
  subst hz
  refine ⟨rfl, ?_⟩
  have key : ∀ d j, ops.length - j ≤ d → j < ops.length → Z.contains j = false → listed.getD j false = true := by
    intro d
    induction d with
    | zero => intro j hd hj; omega
    | succ d ih =>
      intro j hd hj hjz
      cases hdj : D.contains j with
      | true => exact hD j hdj hj
      | false =>
        obtain ⟨k, o', ho2, hk, e, he, hb, rfl⟩ := hg.all j hj hjz hdj
        have hklt : k < ops.length := (List.getElem?_eq_some_iff.1 ho2).1
        rcases hk with rfl | ⟨hk1, hk2⟩
        · rw [ho'] at ho2
          cases ho2
          exact h2 e he hb
        · exact hc k o' ho2 hk1 (ih k (by omega) hklt hk1) e he hb
  exact fun j hj hjz => key ops.length j (by omega) hj hjz
theorem orZ_set (i : Nat) : ∀ (Z : List Nat) (l : Array Bool), (orZ l Z).setIfInBounds i true = orZ (l.setIfInBounds i true) Z
  | [], l => rfl
  | j :: r, l => by
    have ih := orZ_set i r (l.setIfInBounds j true)
    unfold orZ at ih ⊢
    rw [List.foldl_cons, List.foldl_cons, ih]
    by_cases h : j = i
    · subst h; rfl
    · rw [Array.setIfInBounds_comm true true h]
theorem wpAnyH_more {md : Region.Mode} {opsA : Array Oper} : ∀ (fuel : Nat) (listed : Array Bool) (a : Act) (w : World), wpAnyH P md opsA Q S fuel listed a w → wpAnyH P md opsA Q S (fuel + 1) listed a w
  | 0, listed, a, w, h => ⟨fun _ => h.2, by rw [h.1]; simp⟩
  | fuel + 1, _, _, _, h => ⟨h.1, fun i hi => wpOp_mono (fun a' w' h' => ⟨h'.1, wpAnyH_more fuel _ a' w' h'.2⟩) (h.2 i hi)⟩
theorem wpAnyH_add {md : Region.Mode} {opsA : Array Oper} {listed : Array Bool} {a : Act} {w : World} {fuel : Nat} (h : wpAnyH P md opsA Q S fuel listed a w) : ∀ k, wpAnyH P md opsA Q S (k + fuel) listed a w
  | 0 => by rwa [Nat.zero_add]
  | k + 1 => by rw [show k + 1 + fuel = (k + fuel) + 1 by omega]; exact wpAnyH_more _ _ _ _ (wpAnyH_add h k)
theorem gate_end (hg : Gate ops z Z D) {listed : Array Bool} (hsz : listed.size = ops.length) (hr : Region.ready .any ops.toArray (orZ listed Z) = []) : ∀ k j, j < k → j < ops.length → Z.contains j = false → listed.getD j false = true := by
  intro k
  induction k with
  | zero => intro j hj; omega
  | succ k ih =>
    intro j hjk hj hjz
    cases hx : listed.getD j false with
    | true => rfl
    | false =>
      have : j ∈ Region.ready .any ops.toArray (orZ listed Z) := by
        rw [← gate_ready hg hsz hjz, mem_ready]
        have hj' : j < listed.size := hsz ▸ hj
        refine ⟨by simp [hj'] at hx ⊢; exact hx, ops[j], by simp [hj], fun e he hb => ?_⟩
        have hd := hg.deps j ops[j] (by simp [hj]) hjz e he hb
        exact ih e.on (by omega) (by omega) hd.1
      rw [hr] at this; cases this
theorem any_gate (hg : Gate ops z Z D) (hN : ∀ e a w, Q' e a w → e = .normal) (hSS : ∀ w, S' w → S w) {g : Nat}
    (hK : ∀ (listed : Array Bool) a w, listed.size = ops.length → (∀ j, j < ops.length → listed.getD j false = !Z.contains j) → Q' .normal a w → wpAnyH P .any ops.toArray Q S g listed a w) :
    ∀ (fuel : Nat) (listed : Array Bool) (a : Act) (w : World), listed.size = ops.length → (∀ j, Z.contains j = true → listed.getD j false = false) → (∀ j, D.contains j = true → j < ops.length → listed.getD j false = true) → ClosedZ ops Z listed →
    wpAnyH P .any ops.toArray Q' S' fuel (orZ listed Z) a w → wpAnyH P .any ops.toArray Q S (fuel + g) listed a w := by
  have fin : ∀ (listed : Array Bool) (a : Act) (w : World), listed.size = ops.length → (∀ j, Z.contains j = true → listed.getD j false = false) → Region.ready .any ops.toArray (orZ listed Z) = [] → Q' .normal a w → ∀ k, wpAnyH P .any ops.toArray Q S (k + g) listed a w := by
    intro listed a w hsz hZ hr hq k
    refine wpAnyH_add (hK listed a w hsz (fun j hj => ?_) hq) k
    cases hz : Z.contains j with
    | true => exact hZ j hz
    | false => exact gate_end hg hsz hr ops.length j hj hj hz
  intro fuel
  induction fuel with
  | zero => intro listed a w hsz hZ _ _ h; exact fin listed a w hsz hZ h.1 h.2 0
  | succ fuel ih =>
    intro listed a w hsz hZ hD hcl h
    by_cases hr : Region.ready .any ops.toArray (orZ listed Z) = []
    · exact fin listed a w hsz hZ hr (h.1 hr) _
    · obtain ⟨j, hj⟩ := List.exists_mem_of_ne_nil _ hr
      obtain ⟨hj1, oj, hoj, _⟩ := mem_ready.1 hj
      have hjlt : j < ops.length := by simpa using (Array.getElem?_eq_some_iff.1 hoj).1
      rw [orZ_get Z listed j (by omega), Bool.or_eq_false_iff] at hj1
      rw [show fuel + 1 + g = (fuel + g) + 1 by omega]
      refine ⟨fun h0 => ?_, fun i hi => ?_⟩
      · have := (gate_ready hg hsz hj1.2).2 hj
        rw [h0] at this; cases this
      · have hiz : Z.contains i = false := by
          cases hx : Z.contains i with
          | false => rfl
          | true =>
            have := getD_tf ((gate_only hg hsz hZ hD hcl hi hx).2 j hjlt hj1.2)
            rw [this] at hj1
            cases hj1.1
        have hiz2 : ∀ k, Z.contains k = true → i ≠ k := fun k hk e => by rw [e, hk] at hiz; cases hiz
        have hcl2 : ClosedZ ops Z (listed.setIfInBounds i true) := by
          intro k o ho hkz hk e he hb
          by_cases hki : k = i
          · subst hki
            obtain ⟨_, o', ho', hd'⟩ := mem_ready.1 hi
            rw [show ops.toArray[k]? = ops[k]? by simp, ho] at ho'; cases ho'
            exact getD_set_true (hd' e he hb)
          · rw [getD_set_ne false (fun h => hki h.symm)] at hk
            exact getD_set_true (hcl k o ho hkz hk e he hb)
        refine wpOp_only hN (fun a' w' h' => ⟨hSS _ h'.1, ?_⟩) (h.2 i ((gate_ready hg hsz hiz).1 hi))
        have h2 := h'.2
        rw [orZ_set] at h2
        refine ih _ a' w' (by simpa using hsz) (fun k hk => ?_) (fun k hk hkl => getD_set_true (hD k hk hkl)) hcl2 h2
        rw [getD_set_ne false (hiz2 k hk)]
        exact hZ k hk
end
section
variable {P : Program} {n : Nat} {ops : List Oper} {Q : Post} {f : Frm} {C S : World → Prop}
def gpost (P : Program) (n : Nat) (ops : List Oper) (Q : Post) (done : List Nat) (S : World → Prop) : Post := fun e f w => e = .normal ∧ DW P n ops Q done S f (fun u => u = w)
theorem At.gate {done : List Nat} (h : DW P n ops Q done S f C) : At (gpost P n ops Q done S) .normal f C := fun w hw => ⟨rfl, fun u e => e ▸ h w hw⟩
theorem DW.gate (z : Nat) (Z A : List Nat) (S' : World → Prop) {done : List Nat} (hB : gateB ops z Z done A = true) (hcl : ∀ w, S' w → S w)
    (hc : (done.all fun j => match ops[j]? with | some o => o.after.all fun e => !Region.binds .any e || done.contains e.on | none => false) = true)
    (h : DW P n ops (gpost P n ops Q (done ++ A) S) (done ++ Z) S' f C) : DW P n ops Q done S f C := by
  obtain ⟨hg, hda, hlt, hlen⟩ := gateB_sound hB
  intro w hw a ha
  have h1 := h w hw a ha
  rw [lst_orZ] at h1
  have e1 : ops.length - done.length = (ops.length - (done ++ Z).length) + (ops.length - (done ++ A).length) := by
    simp only [List.length_append] at hlen ⊢; omega
  rw [e1]
  refine any_gate (Q' := lift n (only fun f w => gpost P n ops Q (done ++ A) S .normal f w)) hg (fun e a w ⟨_, _, he, _⟩ => he) hcl (fun listed a w hsz hl hq => ?_) _ _ _ _ (lst_size _ _) (fun j hj => ?_) (fun j hj hjl => ?_) (fun j o ho hjz hj e he hb => ?_) h1
  · obtain ⟨f', hf', _, _, hd⟩ := hq
    have e2 : listed = lst ops (done ++ A) := by
      refine Array.ext (by rw [hsz, lst_size]) fun j h1 h2 => ?_
      have hj : j < ops.length := by omega
      have h3 := hl j hj
      have h4 := lst_get ops (done ++ A) (b := false) hj
      rw [hda j hj, ← h3] at h4
      simp only [Array.getD_eq_getD_getElem?, Array.getElem?_eq_getElem h1, Array.getElem?_eq_getElem h2, Option.getD_some] at h4
      exact h4.symm
    rw [e2]
    exact hd w rfl a hf'
  · rw [lst_get ops done (hg.zlt j hj)]
    have := hda j (hg.zlt j hj)
    rw [hj] at this
    cases hx : done.contains j with
    | false => rfl
    | true => rw [List.contains_append, hx] at this; cases this
  · rw [lst_get ops done hjl]; exact hj
  · have hjl : j < ops.length := (List.getElem?_eq_some_iff.1 ho).1
    rw [lst_get ops done hjl] at hj
    have h5 := List.all_eq_true.1 hc j (by simpa using hj)
    rw [ho] at h5
    have h6 := (Array.all_eq_true_iff_forall_mem.1 h5) e he
    simp only [hb, Bool.not_true, Bool.false_or] at h6
    rw [lst_get ops done (by have := (hg.deps j o ho hjz e he hb).2; omega)]
    exact h6
end
theorem CW_fact {P : Program} {n : Nat} {c : Code} {Q : Post} {f : Frm} {C : World → Prop} {φ : Prop} (h : ∀ w, C w → φ) (k : φ → CW P n c Q f C) : CW P n c Q f C := fun w hw => k (h w hw) w hw
section
variable {α : Type} {f : α → List Value} {n : Nat}
theorem flat_set (hf : ∀ x, (f x).length = n) : ∀ (l : List α) (x : α) (k : Nat), k < l.length → (l.set k x).flatMap f = (l.flatMap f).take (k * n) ++ f x ++ (l.flatMap f).drop (k * n + n)
  | y :: r, x, 0, _ => by
    have hy := hf y
    simp only [List.set_cons_zero, List.flatMap_cons, Nat.zero_mul, List.take_zero, List.nil_append, Nat.zero_add]
    rw [List.drop_append, List.drop_of_length_le (l := f y) (by omega), hy, Nat.sub_self]
    rfl
  | y :: r, x, k + 1, h => by
    have hy := hf y
    have ih := flat_set hf r x k (by simpa using h)
    simp only [List.set_cons_succ, List.flatMap_cons]
    have hk : (k + 1) * n = k * n + n := by rw [Nat.add_mul, Nat.one_mul]
    have e1 : (f y ++ r.flatMap f).take ((k + 1) * n) = f y ++ (r.flatMap f).take (k * n) := by
      rw [List.take_append, List.take_of_length_le (l := f y) (by rw [hy]; omega), hy, show (k + 1) * n - n = k * n by omega]
    have e2 : (f y ++ r.flatMap f).drop ((k + 1) * n + n) = (r.flatMap f).drop (k * n + n) := by
      rw [List.drop_append, List.drop_of_length_le (l := f y) (by rw [hy]; omega), hy, show (k + 1) * n + n - n = k * n + n by omega, List.nil_append]
    rw [ih, e1, e2]
    simp
theorem splice_rows (hf : ∀ x, (f x).length = n) (l : List α) (x : α) {k : Nat} (h : k < l.length) : splice (l.flatMap f) (k * n) (f x) = (l.set k x).flatMap f := by
  unfold splice
  rw [flat_set hf l x k h, hf x]
theorem rows_store {P : Program} {T E : TypeId} {m : Nat} (hs : Sz P T m) (hf : ∀ x, (f x).length = m) (h1 : ∀ x, (f x).all Value.oneCell' = true) {b o N c q : Nat} {l : List α} (x : α) {k : Nat} (hk : k < l.length) (hq : q = o + k * m) :
    Stores P T ⟨b, q, none⟩ (.agg (f x).toArray) (osl (.slice (some ⟨b, o, none⟩) N c) E m N (l.flatMap f)) (osl (.slice (some ⟨b, o, none⟩) N c) E m N ((l.set k x).flatMap f)) := by
  subst hq
  have st := Stores.osl (P := P) (T := T) (q := m) (b := b) (o := o) (i := k * m) (n := N) (c := c) (v := .agg (f x).toArray) (vs := f x) (xs := l.flatMap f) (E := E) (sz := m) hs rfl (h1 x) (hf x) (by
    rw [Go.Hb.rows_len hf, hf x]
    have : (k + 1) * m ≤ l.length * m := Nat.mul_le_mul_right _ hk
    rw [Nat.add_mul, Nat.one_mul] at this
    exact this)
  rwa [splice_rows hf l x hk] at st
theorem rows_all_one (h1 : ∀ x, (f x).all Value.oneCell' = true) : ∀ (l : List α), (l.flatMap f).all Value.oneCell' = true
  | [] => rfl
  | x :: r => by rw [List.flatMap_cons, List.all_append, h1 x, rows_all_one h1 r]; rfl
end
end Go.Hb

namespace Go.Proofs.Ytgblmkpfkcibiaa
open Go.Hb
attribute [local irreducible] LR CW At Ev thn blk finK noG again CallsTo DW QL dnext TW DP
set_option maxRecDepth 100000

structure Pln where
  R : List Int
  G : List Gat
structure PlA where
  ra : Option Addr
  rc : Nat
  ga : Option Addr
  gc : Nat
def Gat.cells (g : Gat) : List Value := [.int .i64 g.n, .int .i64 g.a, .int .i64 g.b]
theorem gat_len (g : Gat) : (Gat.cells g).length = 3 := rfl
abbrev gv (G : List Gat) : List Value := G.flatMap Gat.cells
def Pln.cells (p : Pln) (A : PlA) : List Value := [.slice A.ra p.R.length A.rc, .slice A.ga p.G.length A.gc]
def Pln.val (p : Pln) (A : PlA) : Value := .agg (p.cells A).toArray
structure PlR (w : World) (p : Pln) (A : PlA) : Prop where
  r : Rd w A.ra (iv p.R)
  g : Rd w A.ga (gv p.G)
abbrev i64P (c : Int) : Prop := -9223372036854775808 ≤ c ∧ c ≤ 9223372036854775807
structure PlI (p : Pln) : Prop where
  r : ∀ c ∈ p.R, i64P c
  rl : p.R.length * 8 ≤ 140737488351232
  gl : p.G.length * 24 ≤ 140737488351232
theorem pl_in {w : World} {p : Pln} {A : PlA} (h : PlR w p A) : St w NoF [rdA A.ga (gv p.G), rdA A.ra (iv p.R)] w := (St.rd1 h.r).addRd h.g (fun _ _ h => h)

theorem m61 (c : Int) (w : World) (hcr : i64P c) : CallsTo Try.prog 61 [.int .i64 c] w fun v w' => v = .bool (membersC c) ∧ Grew w w' := by
  refine go_in (n := 10) (St.refl _ NoF) Try.func61 rfl rfl ?_
  repeat'(first|refine kv' ?_|apply jJ|refine jE' ?_|refine jp' ?_|(apply jc;kernel_rfl)|refine kg' ?_|refine kG' ?_|refine kB' fun _=>?_|refine kA' fun _=>?_|refine kK' fun _=>?_|refine kU' ?_|(apply kq; (· exact rfl); (· intro w1 h1; exact CallsTo.q (show CallsTo Try.prog 87 [.int .i64 c] w1 _ from q61 c w1 hcr) h1))|((first|refine kR' ?_ ?_|refine kQ' ?_ ?_);all_goals(intro hc;try simp only[hcs]at hc;try(exfalso;first|contradiction|omega))))
  all_goals (
    (apply ret1; (· exact rfl); intro w' hS)
    refine ⟨congrArg Value.bool ?_, hS.toKeep⟩
    unfold membersC
    cases crewOk c <;> simp_all)
theorem m46 (p : Pln) (A : PlA) (w : World) (hr : PlR w p A) (hi : PlI p) : CallsTo Try.prog 46 [p.val A] w fun v w' => v = .bool (p.R.all membersC) ∧ Grew w w' := by
  refine go_in (n := 16) (pl_in hr) Try.func46 rfl rfl ?_
  have hrl := hi.rl
  repeat'(first|refine kv' ?_|apply jJ|refine jE' ?_|refine jp' ?_|(apply jc;kernel_rfl)|refine kg' ?_|refine kG' ?_|refine kB' fun _=>?_|refine kA' fun _=>?_|refine kK' fun _=>?_|refine kU' ?_|((first|refine kR' ?_ ?_|refine kQ' ?_ ?_);all_goals(intro hc;try simp only[hcs]at hc;try(exfalso;first|contradiction|omega))))
  apply CW.loop [2, 4, 8, 9, 10, 11, 12, 13, 14, 15] (fun i : Nat => i ≤ p.R.length ∧ (p.R.take i).all membersC = true) (fun i : Nat => [(8, Value.int .i64 (i : Int))]) (fun _ => St w NoF [rdA A.ra (iv p.R)]) (fun i => p.R.length - i)
  · exact fun w' hw' => ⟨0, ⟨by omega, rfl⟩, ⟨rfl, trivial⟩, hw'.sub subZ⟩
  rintro i g ⟨hil, hall⟩
  by_cases hlt : i < p.R.length
  · obtain ⟨ba, oa, hra⟩ := hr.r.form (fun e => by have := congrArg List.length e; simp only [iv_length, List.length_nil] at this; omega)
    rw [hra]
    have htk : (p.R.take (i + 1)).all membersC = membersC p.R[i] := by
      rw [List.take_add_one, List.getElem?_eq_getElem hlt, List.all_append, hall]; simp
    repeat'(first|refine kv' ?_|apply jJ|refine jE' ?_|refine jp' ?_|(apply jc;kernel_rfl)|refine kg' ?_|refine kG' ?_|refine kB' fun _=>?_|refine kA' fun _=>?_|refine kK' fun _=>?_|refine kU' ?_|(apply idxX;(iterate 2 exact rfl);(iterate 2(first|omega|(dsimp only;omega)));exact rfl)|(apply LR.ev; (· apply Ev.load_rd; (· exact rfl); (· repeat (first | exact mH _ _ | apply mT)); (· exact iv_at (i := i) (by simp) (by omega))); (· exact rfl))|(apply addX;(iterate 2 exact rfl);(iterate 2(first|omega|(dsimp only;omega)));exact rfl)|(apply kq; (· exact rfl); (· intro w1 h1; show CallsTo Try.prog 61 [.int .i64 p.R[i]] w1 _; exact CallsTo.q (m61 p.R[i] w1 (hi.r _ (List.getElem_mem hlt))) h1))|((first|refine kR' ?_ ?_|refine kQ' ?_ ?_);all_goals(intro hc;try simp only[hcs]at hc;try(exfalso;first|contradiction|omega))))
    · (apply ret1; (· exact rfl); intro w' hS)
      refine ⟨congrArg Value.bool ?_, hS.toKeep⟩
      rw [eq_comm, List.all_eq_false]
      exact ⟨p.R[i], List.getElem_mem hlt, by simp_all⟩
    · refine At.again (i + 1) ⟨by omega, by rw [htk]; assumption⟩ ?_ ⟨rfl, trivial⟩ (fun w' hw' => hw') (by omega)
      (repeat (first | exact Out.refl _ _ | exact Out.mix | (apply Out.upd; (· exact rfl)) | (apply Out.updL; (· exact rfl)) | (apply Out.mixs; (· exact rfl))))
  · have hie : i = p.R.length := by omega
    subst hie
    rw [List.take_length] at hall
    repeat'(first|refine kv' ?_|apply jJ|refine jE' ?_|refine jp' ?_|(apply jc;kernel_rfl)|refine kg' ?_|refine kG' ?_|refine kB' fun _=>?_|refine kA' fun _=>?_|refine kK' fun _=>?_|refine kU' ?_|((first|refine kR' ?_ ?_|refine kQ' ?_ ?_);all_goals(intro hc;try simp only[hcs]at hc;try(exfalso;first|contradiction|omega))))
    (apply ret1; (· exact rfl); intro w' hS)
    exact ⟨by rw [hall]; rfl, hS.toKeep⟩
theorem shl1 {k : Nat} (h : k ≤ 8) : IntKind.i64.wrap (1 * 2 ^ (min (k : Int).toNat IntKind.i64.bits)) = 2 ^ k := by
  rcases low9 h with rfl | rfl | rfl | rfl | rfl | rfl | rfl | rfl | rfl <;> decide
theorem shr1 (c : Int) {k : Nat} (h : k ≤ 8) : decide (andI .i64 (c.fdiv (2 ^ (min (k : Int).toNat IntKind.i64.bits))) 1 = 1) = tb c k := by
  have e : min (k : Int).toNat IntKind.i64.bits = k := by show min _ 64 = _; omega
  rw [e, and_one, tb_div c k h]
theorem splice_iv (l : List Int) (i : Nat) (x : Int) (h : i < l.length) : splice (iv l) i [.int .i64 x] = iv (l.set i x) := by
  unfold splice
  simp only [iv, List.length_cons, List.length_nil, List.map_set]
  rw [List.set_eq_take_append_cons_drop, if_pos (by simpa using h)]
  simp
theorem ps0_snoc (i : Nat) : ps0 (i + 1) = ps0 i ++ [2 ^ i] := by unfold ps0; rw [List.range_succ, List.map_append]; rfl
theorem ps0_len (i : Nat) : (ps0 i).length = i := by simp [ps0]
theorem psG_len (ps : List Int) (g : Gat) : (psG ps g).length = ps.length := by simp [psG]
def psI (ps : List Int) (g : Gat) (i : Nat) : List Int := (psG ps g).take i ++ ps.drop i
theorem psI_len (ps : List Int) (g : Gat) {i : Nat} (h : i ≤ ps.length) : (psI ps g i).length = ps.length := by
  unfold psI; rw [List.length_append, List.length_take, List.length_drop, psG_len]; omega
theorem psI_set (ps : List Int) (g : Gat) {i : Nat} (h : i < ps.length) : psI ps g (i + 1) = if tb (bothG ps g) i then (psI ps g i).set i (bothG ps g) else psI ps g i := by
  have hl : i < (psG ps g).length := by rw [psG_len]; exact h
  have hv : (psG ps g)[i] = if tb (bothG ps g) i then bothG ps g else ps.getD i 0 := by simp [psG]
  have hd : ps.getD i 0 = ps[i] := by rw [List.getD_eq_getElem?_getD, List.getElem?_eq_getElem h]; rfl
  unfold psI
  rw [List.take_add_one, List.getElem?_eq_getElem hl, hv, hd, List.drop_eq_getElem_cons h]
  have ht : ((psG ps g).take i).length = i := by rw [List.length_take]; omega
  split
  · rw [List.set_append_right _ _ (by omega), ht, Nat.sub_self, List.append_assoc]
    rfl
  · simp
theorem getD_nat (l : List Int) {i : Nat} (h : i < l.length) : l.getD i 0 = l[i] := by rw [List.getD_eq_getElem?_getD, List.getElem?_eq_getElem h]; rfl
theorem gw_bad {R : List Int} {g : Gat} {r : List Gat} {tw : Int} {ps : List Int} (h : ¬((0 ≤ g.a ∧ g.a < g.b ∧ g.b < R.length) ∧ hasC tw g.n = true)) : gwAll R (g :: r) tw ps = false := by
  unfold gwAll gwOk
  by_cases h1 : 0 ≤ g.a ∧ g.a < g.b ∧ g.b < R.length
  · have h2 : hasC tw g.n = false := by
      cases hx : hasC tw g.n with
      | false => rfl
      | true => exact (h ⟨h1, hx⟩).elim
    rw [h2]
    simp
  · rw [decide_eq_false h1]
    simp
theorem gw_bad2 {R : List Int} {g : Gat} {r : List Gat} {tw : Int} {ps : List Int} {i : Nat} (hi : i < R.length) (h : ¬(hasC (R.getD i 0) g.n = decide ((i : Int) = g.a ∨ (i : Int) = g.b))) : gwAll R (g :: r) tw ps = false := by
  unfold gwAll gwOk
  have : ((List.range R.length).all fun i => hasC (R.getD i 0) g.n == decide ((i : Int) = g.a ∨ (i : Int) = g.b)) = false := by
    rw [List.all_eq_false]
    exact ⟨i, List.mem_range.2 hi, by simpa using h⟩
  rw [this]
  simp
theorem gw_bad3 {R : List Int} {g : Gat} {r : List Gat} {tw : Int} {ps : List Int} (h : tb (ps.getD g.a.toNat 0) g.b.toNat = true) : gwAll R (g :: r) tw ps = false := by
  unfold gwAll gwOk
  rw [h]
  simp
set_option maxHeartbeats 4000000 in
theorem m47 (p : Pln) (A : PlA) (w : World) (hr : PlR w p A) (hi : PlI p) (hl1 : 1 ≤ p.R.length) (hl4 : p.R.length ≤ 4) (hm : p.R.all membersC = true) :
    CallsTo Try.prog 47 [p.val A] w fun v w' => v = .bool (gwAll p.R p.G (twF p.R).1 (ps0 p.R.length)) ∧ Grew w w' := by
  refine go_in (n := 143) (pl_in hr) Try.func47 rfl rfl ?_
  have hgl := hi.gl
  obtain ⟨ba, oa, hra⟩ := hr.r.form (fun e => by have := congrArg List.length e; simp only [iv_length, List.length_nil] at this; omega)
  rw [show p.val A = .agg [.slice A.ra p.R.length A.rc, .slice A.ga p.G.length A.gc].toArray from rfl, hra]
  repeat'(first|refine kv' ?_|apply jJ|refine jE' ?_|refine jp' ?_|(apply jc;kernel_rfl)|refine kg' ?_|refine kG' ?_|refine kB' fun _=>?_|refine kA' fun _=>?_|refine kK' fun _=>?_|refine kU' ?_|((first|refine kR' ?_ ?_|refine kQ' ?_ ?_);all_goals(intro hc;try simp only[hcs]at hc;try(exfalso;first|contradiction|omega))))
  rename_i b1
  apply CW.loop [3, 4, 6, 18, 19, 20, 21, 22, 23, 24, 25, 26, 27, 28, 29, 30] (fun i : Nat => i ≤ p.R.length) (fun i : Nat => [(3, Value.int .i64 ((p.R.take i).foldl twS (0, 0)).1), (4, .int .i64 ((p.R.take i).foldl twS (0, 0)).2), (18, .int .i64 (i : Int))])
    (fun _ => St w NoF [.own b1 (.cells [Value.slice (some ⟨ba, oa, none⟩) p.R.length A.rc, .slice A.ga p.G.length A.gc].toArray 25 (0, 0)), rdA A.ga (gv p.G), rdA (some ⟨ba, oa, none⟩) (iv p.R)]) (fun i => p.R.length - i)
  · exact fun w' hw' => ⟨0, by omega, ⟨rfl, rfl, rfl, trivial⟩, hw'⟩
  intro i g1 hil
  by_cases hlt : i < p.R.length
  · have htk : (p.R.take (i + 1)).foldl twS (0, 0) = twS ((p.R.take i).foldl twS (0, 0)) p.R[i] := by
      rw [List.take_add_one, List.getElem?_eq_getElem hlt, List.foldl_append]; rfl
    repeat'(first|refine kv' ?_|apply jJ|refine jE' ?_|refine jp' ?_|(apply jc;kernel_rfl)|refine kg' ?_|refine kG' ?_|refine kB' fun _=>?_|refine kA' fun _=>?_|refine kK' fun _=>?_|refine kU' ?_|(apply idxX;(iterate 2 exact rfl);(iterate 2(first|omega|(dsimp only;omega)));exact rfl)|(apply LR.ev; (· apply Ev.load_rd; (· exact rfl); (· repeat (first | exact mH _ _ | apply mT)); (· exact iv_at (i := i) (by simp) (by omega))); (· exact rfl))|(apply addX;(iterate 2 exact rfl);(iterate 2(first|omega|(dsimp only;omega)));exact rfl)|((first|refine kR' ?_ ?_|refine kQ' ?_ ?_);all_goals(intro hc;try simp only[hcs]at hc;try(exfalso;first|contradiction|omega))))
    refine At.again (i + 1) (by omega) ?_ ⟨?_, ?_, rfl, trivial⟩ (fun w' hw' => hw') (by omega)
    · (repeat (first | exact Out.refl _ _ | exact Out.mix | (apply Out.upd; (· exact rfl)) | (apply Out.updL; (· exact rfl)) | (apply Out.mixs; (· exact rfl))))
    · rw [htk]; rfl
    · rw [htk]; rfl
  have hie : i = p.R.length := by omega
  subst hie
  rw [List.take_length]
  show CW _ _ _ _ (updL (mix _ _ _) [(3, Value.int .i64 (twF p.R).1), (4, .int .i64 (twF p.R).2), (18, _)]) _
  repeat'(first|refine kv' ?_|apply jJ|refine jE' ?_|refine jp' ?_|(apply jc;kernel_rfl)|refine kg' ?_|refine kG' ?_|refine kB' fun _=>?_|refine kA' fun _=>?_|refine kK' fun _=>?_|refine kU' ?_|((first|refine kR' ?_ ?_|refine kQ' ?_ ?_);all_goals(intro hc;try simp only[hcs]at hc;try(exfalso;first|contradiction|omega))))
  apply CW.loop [7, 8, 34, 35, 36, 37, 38, 39, 40, 41, 42] (fun s : Cst => s.k ≤ p.R.length) (fun s => [(7, .slice s.a (ps0 s.k).length s.c), (34, .int .i64 (s.k : Int))])
    (fun s => St w NoF [ilK s.a s.c (ps0 s.k), .own b1 (.cells [Value.slice (some ⟨ba, oa, none⟩) p.R.length A.rc, .slice A.ga p.G.length A.gc].toArray 25 (0, 0)), rdA A.ga (gv p.G), rdA (some ⟨ba, oa, none⟩) (iv p.R)]) (fun s => p.R.length - s.k)
  · exact fun w' hw' => ⟨⟨0, none, 0⟩, by simp, ⟨rfl, rfl, trivial⟩, hw'.nilsl 3 1⟩
  rintro ⟨k, a2, c2⟩ g2 hk
  simp only at hk ⊢
  by_cases hlt : k < p.R.length
  · have hs8 := shl1 (k := k) (by omega)
    have hlk := ps0_len k
    have hsn := ps0_snoc k
    generalize ps0 k = L at hlk hsn ⊢
    repeat'(first|(apply Go.Hb.kK;(iterate 4 exact rfl);intro bs)|refine kv' ?_|apply jJ|refine jE' ?_|refine jp' ?_|(apply jc;kernel_rfl)|refine kg' ?_|refine kG' ?_|refine kB' fun _=>?_|refine kA' fun _=>?_|refine kK' fun _=>?_|refine kU' ?_|(apply addX;(iterate 2 exact rfl);(iterate 2(first|omega|(dsimp only;omega)));exact rfl)|(apply LR.append (xs := iv L) (news := [Value.int .i64 (IntKind.i64.wrap (1 * 2 ^ (min (k : Int).toNat IntKind.i64.bits)))]) (m := 1); (· exact rfl); (· exact rfl); (· intro a' c'; (repeat (first | exact sH _ _ _ | apply sT))); (· exact fun w' hw' => hw'.rd_of_blk (mH _ _)); (· exact fun hx => by cases hx); (· exact rfl); (· exact rfl); (· omega); (· unfold maxLen; omega); (· exact rfl); (intro a3 c3))|((first|refine kR' ?_ ?_|refine kQ' ?_ ?_);all_goals(intro hc;try simp only[hcs]at hc;try(exfalso;first|contradiction|omega))))
    refine At.again (⟨k + 1, a3, c3⟩ : Cst) (by simp only; omega) ?_ ⟨?_, rfl, trivial⟩ ?_ (by simp only; omega)
    · (repeat (first | exact Out.refl _ _ | exact Out.mix | (apply Out.upd; (· exact rfl)) | (apply Out.updL; (· exact rfl)) | (apply Out.mixs; (· exact rfl))))
    · simp only
      rw [hsn, List.length_append]
      rfl
    · intro w' hw'
      simp only
      rw [hsn, ← hs8]
      have e : ilK a3 c3 (L ++ [IntKind.i64.wrap (1 * 2 ^ (min (k : Int).toNat IntKind.i64.bits))]) = osl (.slice a3 (L.length + 1) c3) 3 1 (L.length + 1) (iv L ++ [Value.int .i64 (IntKind.i64.wrap (1 * 2 ^ (min (k : Int).toNat IntKind.i64.bits)))]) := by simp [ilK, iv]
      rw [e]
      exact hw'.sub subZ
  have hke : k = p.R.length := by omega
  subst hke
  repeat'(first|refine kv' ?_|apply jJ|refine jE' ?_|refine jp' ?_|(apply jc;kernel_rfl)|refine kg' ?_|refine kG' ?_|refine kB' fun _=>?_|refine kA' fun _=>?_|refine kK' fun _=>?_|refine kU' ?_|((first|refine kR' ?_ ?_|refine kQ' ?_ ?_);all_goals(intro hc;try simp only[hcs]at hc;try(exfalso;first|contradiction|omega))))
  have hp0 := ps0_len p.R.length
  refine CW_fact (φ := ∃ bx ox, a2 = some ⟨bx, ox, none⟩) (fun w1 hw1 => (ownsRow_rd (hw1.holds (ilK a2 c2 (ps0 p.R.length)) memZ)).form (fun e => by have := congrArg List.length e; simp only [iv_length, List.length_nil] at this; omega)) ?_
  rintro ⟨bx, ox, rfl⟩
  generalize hps : ps0 p.R.length = P0 at hp0 ⊢
  apply CW.loop [2, 3, 10, 11, 12, 13, 14, 46, 47, 48, 49, 50, 51, 52, 53, 54, 55, 56, 57, 58, 59, 60, 61, 62, 63, 64, 65, 66, 67, 68, 69, 70, 71, 72, 73, 74, 75, 76, 77, 78, 79, 80, 81, 82, 83, 84, 85, 86, 87, 88, 89, 90, 91, 92, 93, 94, 95, 96, 97, 98, 99, 100, 101, 102, 103, 104, 105, 106, 107, 108, 109, 110, 111, 112, 113, 114, 115, 116, 117, 118, 119, 120, 121, 122, 123, 124, 125, 126, 127, 128, 129, 130, 131, 132, 133, 134, 135, 136, 137, 138, 139, 140] (fun s : Nat × Int × List Int => s.1 ≤ p.G.length ∧ s.2.2.length = p.R.length ∧ gwAll p.R p.G (twF p.R).1 P0 = gwAll p.R (p.G.drop s.1) s.2.1 s.2.2) (fun s => [(3, Value.int .i64 s.2.1), (46, .int .i64 (s.1 : Int))])
    (fun s => St w NoF [osl (.slice (some ⟨bx, ox, none⟩) p.R.length c2) 3 1 p.R.length (iv s.2.2), .own b1 (.cells [Value.slice (some ⟨ba, oa, none⟩) p.R.length A.rc, .slice A.ga p.G.length A.gc].toArray 25 (0, 0)), rdA A.ga (gv p.G), rdA (some ⟨ba, oa, none⟩) (iv p.R)]) (fun s => p.G.length - s.1)
  · exact fun w' hw' => ⟨(0, (twF p.R).1, P0), ⟨Nat.zero_le _, hp0, rfl⟩, ⟨rfl, rfl, trivial⟩, by have h2 : St w NoF (osl (.slice (some ⟨bx, ox, none⟩) P0.length c2) 3 1 P0.length (iv P0) :: _) w' := hw'; rw [hp0] at h2; exact h2⟩
  rintro ⟨j, tw, ps⟩ g3 ⟨hj, hpl, hgw⟩
  simp only at hj hpl hgw ⊢
  rw [hgw]
  by_cases hjt : j < p.G.length
  · obtain ⟨bg, og, hga⟩ := hr.g.form (rows_ne gat_len (by omega) hjt)
    rw [hga]
    rw [List.drop_eq_getElem_cons hjt]
    obtain ⟨y, hy⟩ : ∃ y, p.G[j] = y := ⟨_, rfl⟩
    rw [hy]
    by_cases hok : (0 ≤ y.a ∧ y.a < y.b ∧ y.b < p.R.length) ∧ hasC tw y.n = true
    · obtain ⟨⟨ha0, hab, hbl⟩, hht⟩ := hok
      have hn8 : 1 ≤ y.n ∧ y.n ≤ 8 := by
        unfold hasC at hht
        rw [Bool.and_eq_true, decide_eq_true_eq] at hht
        omega
      obtain ⟨n, a, b, rfl⟩ : ∃ n a b : Nat, y = ⟨n, a, b⟩ := ⟨y.n.toNat, y.a.toNat, y.b.toNat, by
        obtain ⟨yn, ya, yb⟩ := y
        simp only at *
        rw [Int.toNat_of_nonneg (by omega), Int.toNat_of_nonneg (by omega), Int.toNat_of_nonneg (by omega)]⟩
      simp only at ha0 hab hbl hht hn8
      repeat'(first|(refine kA' fun bg2 => ?_)|refine kv' ?_|apply jJ|refine jE' ?_|refine jp' ?_|(apply jc;kernel_rfl)|refine kg' ?_|refine kG' ?_|refine kB' fun _=>?_|refine kA' fun _=>?_|refine kK' fun _=>?_|refine kU' ?_|(apply idxX;(iterate 2 exact rfl);(iterate 2(first|omega|(dsimp only;omega)));exact rfl)|(apply LR.ev; (· apply Ev.load_agg_at (cs := [Value.int .i64 (n : Int), .int .i64 (a : Int), .int .i64 (b : Int)]); (· exact rfl); (· exact rfl); (· intro w' hw'; have h9 := rd_row (f := Gat.cells) (l := p.G) (i := j) (q := (j : Int).toNat * 3) gat_len (hw'.rd_of memZ) hjt (by simp); rw [hy] at h9; exact h9)); (· exact rfl))|(apply kq; (· exact rfl); (· intro w1 h1; have hq := CallsTo.q (show CallsTo Try.prog 52 [.int .i64 tw, .int .i64 n] w1 _ from q23 tw n w1) h1; rw [hht] at hq; exact hq))|((first|refine kR' ?_ ?_|refine kQ' ?_ ?_);all_goals(intro hc;try simp only[hcs]at hc;try(exfalso;first|contradiction|omega))))
      apply CW.loop [2, 11, 12, 78, 79, 80, 81, 82, 83, 84, 85, 86, 87, 88, 89, 90, 91, 92, 93, 94, 95, 96, 97, 98] (fun i : Nat => i ≤ p.R.length ∧ ∀ k, k < i → hasC (p.R.getD k 0) n = decide ((k : Int) = a ∨ (k : Int) = b)) (fun i => [(78, .int .i64 (i : Int))])
        (fun _ => St w NoF [.own bg2 (.cells [Value.int .i64 n, .int .i64 a, .int .i64 b].toArray 34 (0, 0)), osl (.slice (some ⟨bx, ox, none⟩) p.R.length c2) 3 1 p.R.length (iv ps), .own b1 (.cells [Value.slice (some ⟨ba, oa, none⟩) p.R.length A.rc, .slice (some ⟨bg, og, none⟩) p.G.length A.gc].toArray 25 (0, 0)), rdA (some ⟨bg, og, none⟩) (gv p.G), rdA (some ⟨ba, oa, none⟩) (iv p.R)]) (fun i => p.R.length - i)
      · exact fun w' hw' => ⟨0, ⟨by omega, fun k hk => by omega⟩, ⟨rfl, trivial⟩, hw'⟩
      rintro i g4 ⟨hil, hev⟩
      by_cases hlt : i < p.R.length
      · repeat'(first|(apply CW.reg_heldC)|refine kv' ?_|apply jJ|refine jE' ?_|refine jp' ?_|(apply jc;kernel_rfl)|refine kg' ?_|refine kG' ?_|refine kB' fun _=>?_|refine kA' fun _=>?_|refine kK' fun _=>?_|refine kU' ?_|(apply idxX;(iterate 2 exact rfl);(iterate 2(first|omega|(dsimp only;omega)));exact rfl)|(apply LR.ev; (· apply Ev.load_rd; (· exact rfl); (· repeat (first | exact mH _ _ | apply mT)); (· exact iv_at (i := i) (by simp) (by omega))); (· exact rfl))|((first|refine kR' ?_ ?_|refine kQ' ?_ ?_);all_goals(intro hc;try simp only[hcs]at hc;try(exfalso;first|contradiction|omega))))
        all_goals (
          apply DW.quiet [0, 1, 2, 4, 5, 6, 7]
          · decide +kernel
          · first | exact fun _ h => h | exact fun _ h => St.sub h subZ
          repeat'(first|refine yv' ?_|refine uv' ?_|refine un' ?_|(refine us' ?_ ?_;all_goals(intro hc;try simp only[hcs]at hc;try(exfalso;first|contradiction|omega)))|apply QL.nil)
          all_goals (show DW _ _ _ _ _ _ _ _))
        all_goals (
          apply DW.loud 3
          · exact rfl
          · decide +kernel
          repeat'(first|refine kg' ?_|refine kG' ?_|apply kM|refine kv' ?_|refine kK' fun _=>?_|refine kU' ?_|refine kB' fun _=>?_|refine kA' fun _=>?_|(apply kq; (· exact rfl); (· intro w1 h1; show CallsTo Try.prog 52 [.int .i64 p.R[i], .int .i64 n] w1 _; exact CallsTo.q (q23 p.R[i] n w1) h1)))
          all_goals (refine At.stage_same (fun _ h => St.sub h subZ) ?_))
        all_goals (
          apply DW.quiet [8, 9, 10, 11, 12, 13, 14]
          · decide +kernel
          · first | exact fun _ h => h | exact fun _ h => St.sub h subZ
          repeat'(first|refine yv' ?_|refine uv' ?_|refine un' ?_|(refine us' ?_ ?_;all_goals(intro hc;try simp only[hcs]at hc;try(exfalso;first|contradiction|omega)))|apply QL.nil)
          all_goals (show DW _ _ _ _ _ _ _ _))
        all_goals (first | (apply DW.done_thn; (· decide +kernel)) | (apply DW.done; (· decide +kernel)))
        repeat'(first|refine kv' ?_|apply jJ|refine jE' ?_|refine jp' ?_|(apply jc;kernel_rfl)|refine kg' ?_|refine kG' ?_|refine kB' fun _=>?_|refine kA' fun _=>?_|refine kK' fun _=>?_|refine kU' ?_|(apply addX;(iterate 2 exact rfl);(iterate 2(first|omega|(dsimp only;omega)));exact rfl)|((first|refine kR' ?_ ?_|refine kQ' ?_ ?_);all_goals(intro hc;try simp only[hcs]at hc;try(exfalso;first|contradiction|omega))))
        all_goals (first
          | ((apply ret1; (· exact rfl); intro w' hS)
             have hne : ¬ (hasC p.R[i] (n : Int) = decide ((i : Int) = a ∨ (i : Int) = b)) := by clear hev hgw hht hS hm; intro e; simp_all
             rw [gw_bad2 hlt (by rw [getD_nat _ hlt]; exact hne)]
             exact ⟨rfl, hS.toKeep⟩)
          | (have hye : hasC p.R[i] (n : Int) = decide ((i : Int) = a ∨ (i : Int) = b) := by clear hev hgw hht hm; simp_all
             refine At.again (i + 1) ⟨by omega, fun k hk => ?_⟩ ?_ ⟨rfl, trivial⟩ (fun w' hw' => hw') (by omega)
             · by_cases hki : k = i
               · subst hki; rw [getD_nat _ hlt]; exact hye
               · exact hev k (by omega)
             · (repeat (first | exact Out.refl _ _ | exact Out.mix | (apply Out.upd; (· exact rfl)) | (apply Out.updL; (· exact rfl)) | (apply Out.mixs; (· exact rfl))))
             ))
      have hie : i = p.R.length := by omega
      subst hie
      have hs1 := shl1 (k := n) (by omega)
      have hst := shr1 (ps.getD a 0) (k := b) (by omega)
      rw [getD_nat _ (by omega)] at hst
      repeat'(first|(apply CW.reg_heldC)|refine kv' ?_|apply jJ|refine jE' ?_|refine jp' ?_|(apply jc;kernel_rfl)|refine kg' ?_|refine kG' ?_|refine kB' fun _=>?_|refine kA' fun _=>?_|refine kK' fun _=>?_|refine kU' ?_|((first|refine kR' ?_ ?_|refine kQ' ?_ ?_);all_goals(intro hc;try simp only[hcs]at hc;try(exfalso;first|contradiction|omega))))
      all_goals (
        apply DW.quiet [0, 1, 2, 3, 4, 5, 6, 7, 8, 9]
        · decide +kernel
        · first | exact fun _ h => h | exact fun _ h => St.sub h subZ
        repeat'(first|refine yv' ?_|(apply QL.ev; (· exact rfl); (· first | (apply Ev.indexAddr; (· exact rfl); (· exact rfl); (· omega); (· omega)) | (apply Ev.load_osl; (· exact rfl); (· (repeat (first | exact mH _ _ | apply mT))); (· exact iv_at (l := ps) (i := a) (by simp) (by omega)))); (· exact rfl))|refine uv' ?_|refine un' ?_|(refine us' ?_ ?_;all_goals(intro hc;try simp only[hcs]at hc;try(exfalso;first|contradiction|omega)))|apply QL.nil)
        all_goals (show DW _ _ _ _ _ _ _ _))
      all_goals (first | (apply DW.done_thn; (· decide +kernel)) | (apply DW.done; (· decide +kernel)))
      rw [hst]
      repeat'(first|refine kv' ?_|apply jJ|refine jE' ?_|refine jp' ?_|(apply jc;kernel_rfl)|refine kg' ?_|refine kG' ?_|refine kB' fun _=>?_|refine kA' fun _=>?_|refine kK' fun _=>?_|refine kU' ?_|(apply idxX;(iterate 2 exact rfl);(iterate 2(first|omega|(dsimp only;omega)));exact rfl)|(apply LR.ev; (· apply Ev.load_osl; (· exact rfl); (· repeat (first | exact mH _ _ | apply mT)); (· first | (refine iv_at (l := ps) (i := a) ?_ ?_; (· simp; done); (· omega)) | (refine iv_at (l := ps) (i := b) ?_ ?_; (· simp; done); (· omega)))); (· exact rfl))|((first|refine kR' ?_ ?_|refine kQ' ?_ ?_);all_goals(intro hc;try simp only[hcs]at hc;try(exfalso;first|contradiction|omega))))
      · (apply ret1; (· exact rfl); intro w' hS)
        rw [gw_bad3 (by show tb (ps.getD (a : Int).toNat 0) (b : Int).toNat = true; rw [Int.toNat_natCast, Int.toNat_natCast, getD_nat _ (by omega)]; assumption)]
        exact ⟨rfl, hS.toKeep⟩
      have htb : tb ps[a] b = false := by assumption
      obtain ⟨gg, hgg⟩ : ∃ gg : Gat, gg = ⟨n, a, b⟩ := ⟨_, rfl⟩
      have hbo : orI .i64 ps[a] ps[b] = bothG ps gg := by
        rw [hgg]
        unfold bothG
        show _ = orI .i64 (ps.getD (a : Int).toNat 0) (ps.getD (b : Int).toNat 0)
        rw [Int.toNat_natCast, Int.toNat_natCast, getD_nat _ (by omega), getD_nat _ (by omega)]
      rw [hbo]
      repeat'(first|refine kv' ?_|apply jJ|refine jE' ?_|refine jp' ?_|(apply jc;kernel_rfl)|refine kg' ?_|refine kG' ?_|refine kB' fun _=>?_|refine kA' fun _=>?_|refine kK' fun _=>?_|refine kU' ?_|((first|refine kR' ?_ ?_|refine kQ' ?_ ?_);all_goals(intro hc;try simp only[hcs]at hc;try(exfalso;first|contradiction|omega))))
      apply CW.loop [14, 127, 128, 129, 130, 131, 132, 133, 134, 135, 136, 137, 138, 139] (fun i : Nat => i ≤ p.R.length) (fun i => [(127, .int .i64 (i : Int))])
        (fun i => St w NoF [.own bg2 (.cells [Value.int .i64 n, .int .i64 a, .int .i64 b].toArray 34 (0, 0)), osl (.slice (some ⟨bx, ox, none⟩) p.R.length c2) 3 1 p.R.length (iv (psI ps gg i)), .own b1 (.cells [Value.slice (some ⟨ba, oa, none⟩) p.R.length A.rc, .slice (some ⟨bg, og, none⟩) p.G.length A.gc].toArray 25 (0, 0)), rdA (some ⟨bg, og, none⟩) (gv p.G), rdA (some ⟨ba, oa, none⟩) (iv p.R)]) (fun i => p.R.length - i)
      · exact fun w' hw' => ⟨0, by omega, ⟨rfl, trivial⟩, by rw [show psI ps gg 0 = ps by unfold psI; simp]; exact hw'⟩
      rintro i g5 hil
      by_cases hlt : i < p.R.length
      · have hsi := shr1 (bothG ps gg) (k := i) (by omega)
        have hset := psI_set ps gg (i := i) (by omega)
        have hpn := psI_len ps gg (i := i) (by omega)
        have hsi2 := decide_eq_true_iff (p := andI .i64 ((bothG ps gg).fdiv (2 ^ (min (i : Int).toNat IntKind.i64.bits))) 1 = 1)
        rw [hsi] at hsi2
        repeat'(first|refine kv' ?_|apply jJ|refine jE' ?_|refine jp' ?_|(apply jc;kernel_rfl)|refine kg' ?_|refine kG' ?_|refine kB' fun _=>?_|refine kA' fun _=>?_|refine kK' fun _=>?_|refine kU' ?_|(apply idxX;(iterate 2 exact rfl);(iterate 2(first|omega|(dsimp only;omega)));exact rfl)|((first|refine kR' ?_ ?_|refine kQ' ?_ ?_);all_goals(intro hc;try simp only[hcs]at hc;try(exfalso;first|contradiction|omega))))
        · have htt : tb (bothG ps gg) i = true := hsi2.2 (by assumption)
          rw [htt, if_pos rfl] at hset
          refine LR.store_obj (v := .int .i64 (bothG ps gg)) (z' := osl (.slice (some ⟨bx, ox, none⟩) p.R.length c2) 3 1 p.R.length (iv ((psI ps gg i).set i (bothG ps gg)))) rfl rfl (Sel.tail _ (Sel.head _ _ _)) rfl ?_ (osl.dep _ _ _ _ _) ?_
          · have st := Stores.osl (P := Try.prog) (T := 3) (q := 1) (b := bx) (o := ox) (i := (i : Int).toNat * 1) (n := p.R.length) (c := c2) (v := .int .i64 (bothG ps gg)) (vs := [.int .i64 (bothG ps gg)]) (xs := iv (psI ps gg i)) (E := 3) (sz := 1) inferInstance rfl rfl rfl (by simp; omega)
            rw [show (i : Int).toNat * 1 = i by omega] at st ⊢
            rwa [splice_iv _ _ _ (by omega)] at st
          repeat'(first|refine kv' ?_|apply jJ|refine jE' ?_|refine jp' ?_|(apply jc;kernel_rfl)|refine kg' ?_|refine kG' ?_|refine kB' fun _=>?_|refine kA' fun _=>?_|refine kK' fun _=>?_|refine kU' ?_|(apply addX;(iterate 2 exact rfl);(iterate 2(first|omega|(dsimp only;omega)));exact rfl)|((first|refine kR' ?_ ?_|refine kQ' ?_ ?_);all_goals(intro hc;try simp only[hcs]at hc;try(exfalso;first|contradiction|omega))))
          refine At.again (i + 1) (by omega) ?_ ⟨rfl, trivial⟩ (fun w' hw' => ?_) (by omega)
          · (repeat (first | exact Out.refl _ _ | exact Out.mix | (apply Out.upd; (· exact rfl)) | (apply Out.updL; (· exact rfl)) | (apply Out.mixs; (· exact rfl))))
          · rw [hset]; exact hw'
        · have htt : tb (bothG ps gg) i = false := by
            cases hx : tb (bothG ps gg) i with
            | false => rfl
            | true => exact absurd (hsi2.1 hx) (by assumption)
          rw [htt, if_neg (by simp)] at hset
          repeat'(first|refine kv' ?_|apply jJ|refine jE' ?_|refine jp' ?_|(apply jc;kernel_rfl)|refine kg' ?_|refine kG' ?_|refine kB' fun _=>?_|refine kA' fun _=>?_|refine kK' fun _=>?_|refine kU' ?_|(apply addX;(iterate 2 exact rfl);(iterate 2(first|omega|(dsimp only;omega)));exact rfl)|((first|refine kR' ?_ ?_|refine kQ' ?_ ?_);all_goals(intro hc;try simp only[hcs]at hc;try(exfalso;first|contradiction|omega))))
          refine At.again (i + 1) (by omega) ?_ ⟨rfl, trivial⟩ (fun w' hw' => ?_) (by omega)
          · (repeat (first | exact Out.refl _ _ | exact Out.mix | (apply Out.upd; (· exact rfl)) | (apply Out.updL; (· exact rfl)) | (apply Out.mixs; (· exact rfl))))
          · rw [hset]; exact hw'
      have hie : i = p.R.length := by omega
      subst hie
      repeat'(first|refine kv' ?_|apply jJ|refine jE' ?_|refine jp' ?_|(apply jc;kernel_rfl)|refine kg' ?_|refine kG' ?_|refine kB' fun _=>?_|refine kA' fun _=>?_|refine kK' fun _=>?_|refine kU' ?_|(apply addX;(iterate 2 exact rfl);(iterate 2(first|omega|(dsimp only;omega)));exact rfl)|((first|refine kR' ?_ ?_|refine kQ' ?_ ?_);all_goals(intro hc;try simp only[hcs]at hc;try(exfalso;first|contradiction|omega))))
      refine At.again (j + 1, twG tw gg, psG ps gg) ⟨by show j + 1 ≤ _; omega, by show (psG ps gg).length = _; rw [psG_len]; exact hpl, ?_⟩ ?_ ⟨?_, rfl, trivial⟩ (fun w' hw' => ?_) (by show p.G.length - (j + 1) < p.G.length - j; omega)
      · rw [← hgg]
        show (gwOk p.R tw ps gg && _) = _
        have hok : gwOk p.R tw ps gg = true := by
          unfold gwOk
          rw [hgg]
          have e1 : ((List.range p.R.length).all fun i => hasC (p.R.getD i 0) n == decide ((i : Int) = a ∨ (i : Int) = b)) = true := by
            rw [List.all_eq_true]
            intro k hk
            rw [beq_iff_eq]
            exact hev k (List.mem_range.1 hk)
          show (decide (0 ≤ (a : Int) ∧ (a : Int) < b ∧ (b : Int) < p.R.length) && (hasC tw n && ((List.range p.R.length).all fun i => hasC (p.R.getD i 0) n == decide ((i : Int) = a ∨ (i : Int) = b)) && !tb (ps.getD (a : Int).toNat 0) (b : Int).toNat)) = true
          rw [e1, hht, decide_eq_true ⟨ha0, hab, hbl⟩, Int.toNat_natCast, Int.toNat_natCast, getD_nat _ (by omega), htb]
          rfl
        rw [hok, Bool.true_and]
      · (repeat (first | exact Out.refl _ _ | exact Out.mix | (apply Out.upd; (· exact rfl)) | (apply Out.updL; (· exact rfl)) | (apply Out.mixs; (· exact rfl))))
      · show Value.int .i64 _ = Value.int .i64 (twG tw gg)
        unfold twG
        rw [hgg]
        show Value.int .i64 (andNotI .i64 tw (IntKind.i64.wrap (1 * 2 ^ (min (n : Int).toNat IntKind.i64.bits)))) = Value.int .i64 (andNotI .i64 tw (2 ^ (n : Int).toNat))
        rw [hs1, Int.toNat_natCast]
      · have e : psI ps gg p.R.length = psG ps gg := by
          unfold psI
          rw [← hpl, List.drop_length, List.append_nil, ← psG_len ps gg, List.take_length]
        rw [e] at hw'
        exact hw'.sub subZ
    · repeat'(first|refine kv' ?_|apply jJ|refine jE' ?_|refine jp' ?_|(apply jc;kernel_rfl)|refine kg' ?_|refine kG' ?_|refine kB' fun _=>?_|refine kA' fun _=>?_|refine kK' fun _=>?_|refine kU' ?_|(apply idxX;(iterate 2 exact rfl);(iterate 2(first|omega|(dsimp only;omega)));exact rfl)|(apply LR.ev; (· apply Ev.load_agg_at (cs := [Value.int .i64 y.n, .int .i64 y.a, .int .i64 y.b]); (· exact rfl); (· exact rfl); (· intro w' hw'; have h9 := rd_row (f := Gat.cells) (l := p.G) (i := j) (q := (j : Int).toNat * 3) gat_len (hw'.rd_of memZ) hjt (by simp); rw [hy] at h9; exact h9)); (· exact rfl))|(apply kq; (· exact rfl); (· intro w1 h1; exact CallsTo.q (show CallsTo Try.prog 52 [.int .i64 tw, .int .i64 y.n] w1 _ from q23 tw y.n w1) h1))|((first|refine kR' ?_ ?_|refine kQ' ?_ ?_);all_goals(intro hc;try simp only[hcs]at hc;try(exfalso;first|contradiction|omega))))
      all_goals (first
        | (exact (hok ⟨⟨by omega, by omega, by omega⟩, by assumption⟩).elim)
        | ((apply ret1; (· exact rfl); intro w' hS)
           rw [gw_bad hok]
           exact ⟨rfl, hS.toKeep⟩))
  · have hje : j = p.G.length := by omega
    subst hje
    rw [List.drop_length]
    repeat'(first|refine kv' ?_|apply jJ|refine jE' ?_|refine jp' ?_|(apply jc;kernel_rfl)|refine kg' ?_|refine kG' ?_|refine kB' fun _=>?_|refine kA' fun _=>?_|refine kK' fun _=>?_|refine kU' ?_|((first|refine kR' ?_ ?_|refine kQ' ?_ ?_);all_goals(intro hc;try simp only[hcs]at hc;try(exfalso;first|contradiction|omega))))
    (apply ret1; (· exact rfl); intro w' hS)
    exact ⟨rfl, hS.toKeep⟩
theorem m13 (p : Pln) (A : PlA) (w : World) (hr : PlR w p A) (hi : PlI p) : CallsTo Try.prog 13 [p.val A] w fun v w' => v = .int .i64 (if chkP p.R p.G then 0 else 230) ∧ Grew w w' := by
  refine go_in (n := 23) (pl_in hr) Try.func13 rfl rfl ?_
  have hrl := hi.rl
  unfold chkP
  by_cases hl : 1 ≤ p.R.length ∧ p.R.length ≤ 4
  · rw [decide_eq_true hl, Bool.true_and]
    cases hm : p.R.all membersC with
    | false =>
      repeat'(first|refine kv' ?_|apply jJ|refine jE' ?_|refine jp' ?_|(apply jc;kernel_rfl)|refine kg' ?_|refine kG' ?_|refine kB' fun _=>?_|refine kA' fun _=>?_|refine kK' fun _=>?_|refine kU' ?_|(apply kq; (· exact rfl); (· intro w1 h1; have hq := CallsTo.q (show CallsTo Try.prog 46 [p.val A] w1 _ from m46 p A w1 ⟨h1.rd_of memZ, h1.rd_of memZ⟩ hi) h1; rw [hm] at hq; exact hq))|((first|refine kR' ?_ ?_|refine kQ' ?_ ?_);all_goals(intro hc;try simp only[hcs]at hc;try(exfalso;first|contradiction|omega))))
      (apply ret1; (· exact rfl); intro w' hS)
      exact ⟨rfl, hS.toKeep⟩
    | true =>
      rw [Bool.true_and]
      repeat'(first|refine kv' ?_|apply jJ|refine jE' ?_|refine jp' ?_|(apply jc;kernel_rfl)|refine kg' ?_|refine kG' ?_|refine kB' fun _=>?_|refine kA' fun _=>?_|refine kK' fun _=>?_|refine kU' ?_|(apply kq; (· exact rfl); (· intro w1 h1; first | (have hq := CallsTo.q (show CallsTo Try.prog 46 [p.val A] w1 _ from m46 p A w1 ⟨h1.rd_of memZ, h1.rd_of memZ⟩ hi) h1; rw [hm] at hq; exact hq) | exact CallsTo.q (show CallsTo Try.prog 47 [p.val A] w1 _ from m47 p A w1 ⟨h1.rd_of memZ, h1.rd_of memZ⟩ hi hl.1 hl.2 hm) h1))|((first|refine kR' ?_ ?_|refine kQ' ?_ ?_);all_goals(intro hc;try simp only[hcs]at hc;try(exfalso;first|contradiction|omega))))
      all_goals (
        (apply ret1; (· exact rfl); intro w' hS)
        refine ⟨congrArg (Value.int .i64) ?_, hS.toKeep⟩
        simp_all)
  · rw [decide_eq_false hl, Bool.false_and, if_neg (by simp)]
    repeat'(first|refine kv' ?_|apply jJ|refine jE' ?_|refine jp' ?_|(apply jc;kernel_rfl)|refine kg' ?_|refine kG' ?_|refine kB' fun _=>?_|refine kA' fun _=>?_|refine kK' fun _=>?_|refine kU' ?_|(apply kq; (· exact rfl); (· intro w1 h1; exact CallsTo.q (show CallsTo Try.prog 46 [p.val A] w1 _ from m46 p A w1 ⟨h1.rd_of memZ, h1.rd_of memZ⟩ hi) h1))|((first|refine kR' ?_ ?_|refine kQ' ?_ ?_);all_goals(intro hc;try simp only[hcs]at hc;try(exfalso;first|contradiction|omega))))
    all_goals (
      (apply ret1; (· exact rfl); intro w' hS)
      exact ⟨rfl, hS.toKeep⟩)
end Go.Proofs.Ytgblmkpfkcibiaa

namespace Go.Hb
section
variable {α : Type} {f : α → Asrt} {w0 w : World} {F : Nat → Prop} {R : List Asrt} {x : α} {l : List α}
end
end Go.Hb

namespace Go.Hb
section
variable {w0 w : World} {F : Nat → Prop} {L L' : List Asrt}
def ownsAt (w : World) (E : TypeId) (sz : Nat) (v : Value) (n : Nat) (xs : List Value) : Prop :=
  xs.length = n * sz ∧ ((v = .slice none 0 0 ∧ n = 0) ∨
   ∃ g o cap cur, v = .slice (some ⟨g, o, none⟩) n cap ∧ w.heap[g]? = some (.cells cur E (0, 0)) ∧ n ≤ cap ∧ cap ≤ maxLen ∧ o + cap * sz ≤ cur.size ∧ (cur.toList.drop o).take (n * sz) = xs)
def odl (v : Value) (E : TypeId) (sz n : Nat) (xs : List Value) : Asrt := .ex (fun k => v.ownBlock = some k) (fun w => ownsAt w E sz v n xs)
theorem odl.dep (v : Value) (E : TypeId) (sz n : Nat) (xs : List Value) : (odl v E sz n xs).dep := by
  intro w w' hk h
  refine ⟨h.1, ?_⟩
  rcases h.2 with hn | ⟨g, o, cap, cur, rfl, hg, r⟩
  · exact .inl hn
  · refine .inr ⟨g, o, cap, cur, rfl, ?_, r⟩
    rw [hk g rfl]; exact hg
end
section
variable {P : Program} {f : Frm} {T T' : TypeId} {s x y : Operand} {v : Value} {w0 : World} {F : Nat → Prop} {L : List Asrt} {C : World → Prop}
variable {n : Nat} {ops rest : List Oper} {Q : Post} {p : String} {af : Array Edge} {d : Nat}
end
section
variable {α : Type} {f : α → Asrt} {w0 w : World} {F : Nat → Prop} {R : List Asrt} {x : α} {l r : List α}
end
theorem splice_take {D vs : List Value} {i N : Nat} (h : i + vs.length ≤ N) (hN : N ≤ D.length) : (splice D i vs).take N = splice (D.take N) i vs := by
  have e2 : splice D i vs = splice (D.take N) i vs ++ D.drop N := by
    have e3 : D = D.take N ++ D.drop N := (List.take_append_drop N D).symm
    have hl : (D.take N).length = N := by simp; omega
    conv => lhs; rw [e3]
    unfold splice
    rw [List.take_append_of_le_length (by omega), List.drop_append_of_le_length (by omega)]
    simp
  have e4 : (splice (D.take N) i vs).length = N := by simp [splice]; omega
  rw [e2, List.take_append_of_le_length (by omega), List.take_of_length_le (by omega)]
theorem splice_drop {D vs : List Value} {o i : Nat} (h : o + i ≤ D.length) : (splice D (o + i) vs).drop o = splice (D.drop o) i vs := by
  unfold splice
  rw [List.append_assoc, List.drop_append, List.drop_take, List.length_take, show o - min (o + i) D.length = 0 by omega, List.drop_zero, show o + i - o = i by omega, List.drop_drop, List.append_assoc, Nat.add_assoc]
theorem Stores.odl {P : Program} {T : TypeId} {q b o i n c : Nat} {v : Value} {vs xs : List Value} {E : TypeId} {sz : Nat} (h : Sz P T q) (hv : v.cells = vs.toArray) (h1 : vs.all Value.oneCell' = true) (hm : vs.length = q) (hb : i + vs.length ≤ xs.length) :
    Stores P T ⟨b, o + i, none⟩ v (odl (.slice (some ⟨b, o, none⟩) n c) E sz n xs) (odl (.slice (some ⟨b, o, none⟩) n c) E sz n (splice xs i vs)) := by
  intro w hw
  have hw' : ownsAt w E sz (.slice (some ⟨b, o, none⟩) n c) n xs := hw
  obtain ⟨hl, hr⟩ := hw'
  rcases hr with ⟨he, _⟩ | ⟨g, o', cap, cur, he, hg, hnc, hcm, hcs, htake⟩
  · cases he
  simp only [Value.slice.injEq, Option.some.injEq, Addr.mk.injEq, and_true, true_and] at he
  obtain ⟨⟨rfl, rfl⟩, rfl⟩ := he
  have hmul : n * sz ≤ c * sz := Nat.mul_le_mul_right _ hnc
  have hg' : w.heap[b]? = some (.cells cur.toList.toArray E (0, 0)) := by simpa using hg
  have hsz : cur.toList.length = cur.size := Array.length_toList
  have hrun := run_storeVar (P := P) h w b (o + i) v vs cur.toList E hv hm hg' (by omega) h1
  refine ⟨_, hrun, ⟨Keep.setRow w b _ _ E hg' rfl, ?_, fun k hk => .inl hk⟩⟩
  refine ⟨by simp [splice]; omega, .inr ⟨b, o, c, (splice cur.toList (o + i) vs).toArray, rfl, setRow_heap w b _ _ E (0, 0) hg', hnc, hcm, ?_, ?_⟩⟩
  · simp [splice]; omega
  · show ((splice cur.toList (o + i) vs).drop o).take (n * sz) = splice xs i vs
    rw [splice_drop (by omega), splice_take (by omega) (by simp; omega), htake]
end Go.Hb

namespace Go.Hb
section
variable {P : Program} {f : Frm} {T T' T'' : TypeId} {x y : Operand} {C : World → Prop} {w0 w : World} {F : Nat → Prop} {L L' : List Asrt}
class MapT (P : Program) (T : TypeId) : Prop where
  ex : ∃ k e, P.underlying T = some (.map k e)
theorem equalIn_map (w : World) (d : Nat) {t k e : TypeId} {r : Option Nat} (h : P.underlying t = some (.map k e)) : (Op.equalIn (d + 1) t (.map r) (.map none)).run P w = .ok r.isNone w := by
  cases r <;> simp [Op.equalIn, run_underlying h]
theorem Ev.map_nil [h : MapT P T'] {r : Option Nat} (hx : f.ev x = .map r) (hy : f.ev y = .map none) : Ev P C f (.binOp .eql T' x y T'') T (.bool r.isNone) :=
  ev_eql_of (fun w => by rw [hx, hy]; rfl) (by rw [hx, hy]; rfl) (fun w => by
    obtain ⟨k, e, hu⟩ := h.ex
    rw [hx, hy]
    exact equalIn_map w _ hu)
end
end Go.Hb

namespace Go.Proofs.Ytgblmkpfkcibiaa
open Go.Hb
attribute [local irreducible] LR CW At Ev thn blk finK noG again CallsTo DW QL dnext TW DP
set_option maxRecDepth 100000

theorem gat_cell {w : World} {b o : Nat} {G : List Gat} {j : Nat} (h : Rd w (some ⟨b, o, none⟩) (gv G)) (hj : j < G.length) (k : Nat) {v : Value} (hv : (Gat.cells G[j])[k]? = some v) {q : Nat} (hq : q = o + (j : Int).toNat * 3 + k) : w.cell? ⟨b, q, none⟩ = some v :=
  row_cell gat_len h hj k hv (by rw [hq, Int.toNat_natCast])
end Go.Proofs.Ytgblmkpfkcibiaa

namespace Go.Proofs.Ytgblmkpfkcibiaa
open Go.Hb
attribute [local irreducible] LR CW At Ev thn blk finK noG again CallsTo DW QL dnext TW DP
set_option maxRecDepth 100000

end Go.Proofs.Ytgblmkpfkcibiaa

namespace Go.Hb

structure PlOk (R : List Int) (G : List Gat) : Prop where
  l1 : 1 ≤ R.length
  l4 : R.length ≤ 4
  mem : R.all membersC = true
  fine : ∀ g ∈ G, Fine R g
  nd : (G.map Gat.n).Nodup
theorem twG_has {tw : Int} {g : Gat} (h1 : 1 ≤ g.n) (h8 : g.n ≤ 8) {n : Int} (h : hasC (twG tw g) n = true) : hasC tw n = true ∧ n ≠ g.n := by
  unfold hasC at *
  rw [Bool.and_eq_true, decide_eq_true_eq] at h
  obtain ⟨hr, hb⟩ := h
  unfold twG at hb
  rw [tb_andNot _ _ (by omega), tb_pow (by omega), Bool.and_eq_true] at hb
  rw [decide_eq_true hr, Bool.true_and]
  refine ⟨hb.1, fun e => ?_⟩
  have h2 := hb.2
  rw [e] at h2
  simp at h2
theorem gwAll_ok {R : List Int} : ∀ {Q : List Gat} {tw : Int} {ps : List Int}, gwAll R Q tw ps = true → (∀ g ∈ Q, Fine R g ∧ hasC tw g.n = true) ∧ (Q.map Gat.n).Nodup
  | [], tw, ps, _ => ⟨fun g hg => (by cases hg), List.nodup_nil⟩
  | g :: r, tw, ps, h => by
    unfold gwAll at h
    rw [Bool.and_eq_true] at h
    obtain ⟨hg, hr⟩ := h
    unfold gwOk at hg
    simp only [Bool.and_eq_true, decide_eq_true_eq, List.all_eq_true, List.mem_range, beq_iff_eq, Bool.not_eq_true'] at hg
    obtain ⟨⟨h1, h2, h3⟩, ⟨h4, h5⟩, h6⟩ := hg
    have hn : 1 ≤ g.n ∧ g.n ≤ 8 := by
      have h7 := h4
      unfold hasC at h7
      rw [Bool.and_eq_true, decide_eq_true_eq] at h7
      omega
    have hfg : Fine R g := ⟨h1, h2, h3, hn.1, hn.2, fun i hi => by rw [h5 i hi, decide_eq_true_eq]⟩
    have ih := gwAll_ok hr
    refine ⟨fun x hx => ?_, ?_⟩
    · rcases List.mem_cons.1 hx with rfl | hx
      · exact ⟨hfg, h4⟩
      · exact ⟨(ih.1 x hx).1, (twG_has hn.1 hn.2 (ih.1 x hx).2).1⟩
    · rw [List.map_cons, List.nodup_cons]
      refine ⟨fun hm => ?_, ih.2⟩
      obtain ⟨x, hx, he⟩ := List.mem_map.1 hm
      exact (twG_has hn.1 hn.2 (ih.1 x hx).2).2 he
theorem pl_ok {R : List Int} {G : List Gat} (h : chkP R G = true) : PlOk R G := by
  unfold chkP at h
  simp only [Bool.and_eq_true, decide_eq_true_eq] at h
  have h2 := gwAll_ok h.2.2
  exact ⟨h.1.1, h.1.2, h.2.1, fun g hg => (h2.1 g hg).1, h2.2⟩
def farG : List Gat → Int → Int → Option Int
  | [], _, _ => none
  | g :: t, n, r => if g.n = n ∧ g.a = r then some g.b else if g.n = n ∧ g.b = r then some g.a else farG t n r
def farT (R : List Int) (G : List Gat) (n r : Int) : Option Int := if chkP R G then farG G n r else none
theorem farG_drop (G : List Gat) (n r : Int) {i : Nat} (h : i < G.length) : farG (G.drop i) n r = if (G[i]'h).n = n ∧ (G[i]'h).a = r then some (G[i]'h).b else if (G[i]'h).n = n ∧ (G[i]'h).b = r then some (G[i]'h).a else farG (G.drop (i + 1)) n r := by
  rw [List.drop_eq_getElem_cons h, farG]
theorem farG_some {n r : Int} : ∀ {G : List Gat}, (farG G n r).isSome = true ↔ ∃ g ∈ G, g.n = n ∧ (g.a = r ∨ g.b = r)
  | [] => by simp [farG]
  | g :: t => by
    have ih := farG_some (n := n) (r := r) (G := t)
    unfold farG
    by_cases h1 : g.n = n ∧ g.a = r
    · rw [if_pos h1]
      simp only [Option.isSome_some, true_iff]
      exact ⟨g, List.mem_cons_self, h1.1, .inl h1.2⟩
    · rw [if_neg h1]
      by_cases h2 : g.n = n ∧ g.b = r
      · rw [if_pos h2]
        simp only [Option.isSome_some, true_iff]
        exact ⟨g, List.mem_cons_self, h2.1, .inr h2.2⟩
      · rw [if_neg h2, ih]
        constructor
        · rintro ⟨x, hx, h⟩; exact ⟨x, List.mem_cons_of_mem _ hx, h⟩
        · rintro ⟨x, hx, hn, h⟩
          rcases List.mem_cons.1 hx with rfl | hx
          · rcases h with h | h
            · exact (h1 ⟨hn, h⟩).elim
            · exact (h2 ⟨hn, h⟩).elim
          · exact ⟨x, hx, hn, h⟩
def gwRaw (G : List Gat) (r : Int) : List Int := (G.filter fun g => decide (g.a = r) || decide (g.b = r)).map Gat.n
def gwsTo (R : List Int) (G : List Gat) (r : Int) : Nat → List Int
  | 0 => []
  | k + 1 => gwsTo R G r k ++ if (farT R G ((k + 1 : Nat) : Int) r).isSome then [((k + 1 : Nat) : Int)] else []
def gwsT (R : List Int) (G : List Gat) (r : Int) : List Int := gwsTo R G r 8
theorem gwsTo_len (R : List Int) (G : List Gat) (r : Int) : ∀ k, (gwsTo R G r k).length ≤ k
  | 0 => by simp [gwsTo]
  | k + 1 => by
    have := gwsTo_len R G r k
    unfold gwsTo
    rw [List.length_append]
    split <;> simp <;> omega
theorem gwsTo_mem {R : List Int} {G : List Gat} {r x : Int} : ∀ {k : Nat}, x ∈ gwsTo R G r k ↔ (1 ≤ x ∧ x ≤ k) ∧ (farT R G x r).isSome = true
  | 0 => by simp [gwsTo]; omega
  | k + 1 => by
    unfold gwsTo
    rw [List.mem_append, gwsTo_mem]
    by_cases hx : x = ((k + 1 : Nat) : Int)
    · rw [hx]
      split
      · rename_i h; exact ⟨fun _ => ⟨by omega, h⟩, fun _ => .inr (List.mem_singleton.2 rfl)⟩
      · rename_i h
        refine ⟨fun h2 => ?_, fun h2 => absurd h2.2 h⟩
        rcases h2 with h2 | h2
        · exact absurd h2.2 h
        · cases h2
    · constructor
      · rintro (⟨h1, h2⟩ | h1)
        · exact ⟨by omega, h2⟩
        · split at h1
          · exact absurd (List.mem_singleton.1 h1) hx
          · cases h1
      · rintro ⟨h1, h2⟩
        exact .inl ⟨by omega, h2⟩
theorem gwsTo_asc (R : List Int) (G : List Gat) (r : Int) : ∀ k, (gwsTo R G r k).Pairwise (· < ·)
  | 0 => List.Pairwise.nil
  | k + 1 => by
    unfold gwsTo
    rw [List.pairwise_append]
    refine ⟨gwsTo_asc R G r k, by split <;> simp, fun a ha b hb => ?_⟩
    have h1 := (gwsTo_mem.1 ha).1
    split at hb
    · rw [List.mem_singleton] at hb; omega
    · cases hb
theorem asc_extM : ∀ {l m : List Int}, l.Pairwise (· < ·) → m.Pairwise (· < ·) → (∀ x, x ∈ l ↔ x ∈ m) → l = m
  | [], [], _, _, _ => rfl
  | [], y :: m, _, _, h => absurd ((h y).2 List.mem_cons_self) (by simp)
  | x :: l, [], _, _, h => absurd ((h x).1 List.mem_cons_self) (by simp)
  | x :: l, y :: m, hl, hm, h => by
    rw [List.pairwise_cons] at hl hm
    have e : x = y := by
      rcases List.mem_cons.1 ((h x).1 List.mem_cons_self) with e | hx
      · exact e
      · rcases List.mem_cons.1 ((h y).2 List.mem_cons_self) with e | hy
        · exact e.symm
        · have := hm.1 x hx; have := hl.1 y hy; omega
    subst e
    rw [asc_extM hl.2 hm.2 fun z => ?_]
    constructor
    · intro hz
      rcases List.mem_cons.1 ((h z).1 (List.mem_cons_of_mem _ hz)) with e | h2
      · have := hl.1 z hz; omega
      · exact h2
    · intro hz
      rcases List.mem_cons.1 ((h z).2 (List.mem_cons_of_mem _ hz)) with e | h2
      · have := hm.1 z hz; omega
      · exact h2
theorem gws_sort {R : List Int} {G : List Gat} (r : Int) (h : chkP R G = true) : (gwRaw G r).mergeSort (fun x y => decide (x ≤ y)) = gwsT R G r := by
  have hok := pl_ok h
  have hnd : (gwRaw G r).Nodup := by
    unfold gwRaw
    exact hok.nd.sublist ((List.filter_sublist).map Gat.n)
  have hp := List.mergeSort_perm (gwRaw G r) (fun x y => decide (x ≤ y))
  have hs : ((gwRaw G r).mergeSort (fun x y => decide (x ≤ y))).Pairwise (fun a b => decide (a ≤ b) = true) :=
    List.pairwise_mergeSort (fun a b c h1 h2 => by simp only [decide_eq_true_eq] at *; omega) (fun a b => by simp only [Bool.or_eq_true, decide_eq_true_eq]; omega) _
  have hnd2 : ((gwRaw G r).mergeSort (fun x y => decide (x ≤ y))).Nodup := hp.nodup_iff.2 hnd
  refine asc_extM ?_ (gwsTo_asc R G r 8) fun x => ?_
  · have h3 := List.Pairwise.and hs hnd2
    exact h3.imp fun {a b} h => by
      have h1 := h.1
      have h2 := h.2
      simp only [decide_eq_true_eq] at h1
      omega
  · rw [hp.mem_iff]
    unfold gwsT
    rw [gwsTo_mem]
    unfold farT
    rw [if_pos h, farG_some]
    unfold gwRaw
    rw [List.mem_map]
    constructor
    · rintro ⟨g, hg, rfl⟩
      obtain ⟨h1, h2⟩ := List.mem_filter.1 hg
      have hf := hok.fine g h1
      refine ⟨⟨hf.n1, by have := hf.n8; omega⟩, g, h1, rfl, by simpa using h2⟩
    · rintro ⟨_, g, hg, rfl, h2⟩
      exact ⟨g, List.mem_filter.2 ⟨hg, by simpa using h2⟩, rfl⟩
theorem gwsTo_bad {R : List Int} {G : List Gat} (r : Int) (h : chkP R G = false) : gwsT R G r = [] := by
  refine List.eq_nil_iff_forall_not_mem.2 fun x hx => ?_
  unfold gwsT at hx
  rw [gwsTo_mem] at hx
  unfold farT at hx
  rw [h] at hx
  simp at hx
def sidesTo (R : List Int) (n : Int) : Nat → List Int
  | 0 => []
  | k + 1 => sidesTo R n k ++ if hasC (R.getD k 0) n then [(k : Int)] else []
def sidesT (R : List Int) (G : List Gat) (n : Int) : List Int := if chkP R G then sidesTo R n R.length else []
theorem sidesTo_len (R : List Int) (n : Int) : ∀ k, (sidesTo R n k).length ≤ k
  | 0 => by simp [sidesTo]
  | k + 1 => by
    have := sidesTo_len R n k
    unfold sidesTo
    rw [List.length_append]
    split <;> simp <;> omega
end Go.Hb

namespace Go.Proofs.Ytgblmkpfkcibiaa
open Go.Hb
attribute [local irreducible] LR CW At Ev thn blk finK noG again CallsTo
set_option maxRecDepth 100000

def pcs (ps : List Plc) : List Value := ps.flatMap Plc.cells
theorem pcs_length (ps : List Plc) : (pcs ps).length = ps.length * 4 := by
  induction ps with
  | nil => rfl
  | cons p r ih => simp only [pcs, List.flatMap_cons, List.length_append, List.length_cons] at ih ⊢; rw [ih]; simp [Plc.cells]; omega
def incr : Int → List Plc → Bool
  | _, [] => true
  | last, p :: r => decide (last < p.ring) && incr p.ring r
def plcNums (p : Plc) : List Int := [p.ring, p.seq, p.rep, p.members]
def plcsBytes (ps : List Plc) : List Int := enc ps.length ++ ps.flatMap fun p => encs (plcNums p)
def charts (ps : List Plc) : List Int × Int :=
  if 4 < ps.length then ([], 5) else if (ps.any fun p => !plcB p) = true then ([], 2) else if incr (-1) ps = false then ([], 2) else (plcsBytes ps, 0)
end Go.Proofs.Ytgblmkpfkcibiaa

namespace Go.Proofs.Ytgblmkpfkcibiaa
open Go.Hb
attribute [local irreducible] LR CW At Ev thn blk finK noG again CallsTo DW QL dnext
set_option maxRecDepth 100000

def decs : Nat → List Int → List Int × Int × List Int
  | 0, l => ([], 0, l)
  | n + 1, l => if (dec l).2.2 ≠ 0 then ([], (dec l).2.2, l.drop (dec l).2.1) else
    ((((dec l).1 : Nat) : Int) :: (decs n (l.drop (dec l).2.1)).1, (decs n (l.drop (dec l).2.1)).2)
theorem Byt.drop {l : List Int} (h : Byt l) (n : Nat) : Byt (l.drop n) := fun b hb => h b (List.mem_of_mem_drop hb)
def pv (l : List Addr) : List Value := l.map fun x => .pointer (some x)
@[simp] theorem pv_length (l : List Addr) : (pv l).length = l.length := by simp [pv]
def plcOf (v : List Int) : Plc := ⟨v.getD 0 0, v.getD 1 0, v.getD 2 0, v.getD 3 0⟩
def rows : Nat → List Int → List Plc × Int × List Int
  | 0, l => ([], 0, l)
  | n + 1, l => if (decs 4 l).2.1 ≠ 0 then ([], (decs 4 l).2.1, (decs 4 l).2.2) else (plcOf (decs 4 l).1 :: (rows n (decs 4 l).2.2).1, (rows n (decs 4 l).2.2).2)
def places (l : List Int) : List Plc × Int :=
  if (dec l).2.2 ≠ 0 then ([], (dec l).2.2)
  else if 4 < (dec l).1 then ([], 5)
  else if (rows (dec l).1 (l.drop (dec l).2.1)).2.1 ≠ 0 then ([], (rows (dec l).1 (l.drop (dec l).2.1)).2.1)
  else if (charts (rows (dec l).1 (l.drop (dec l).2.1)).1).2 ≠ 0 ∨ 0 < (rows (dec l).1 (l.drop (dec l).2.1)).2.2.length then ([], 4)
  else ((rows (dec l).1 (l.drop (dec l).2.1)).1, 0)
def zz (k : Nat) : List Value := List.replicate k (.int .i64 0)
end Go.Proofs.Ytgblmkpfkcibiaa

namespace Go.Proofs.Ytgblmkpfkcibiaa
open Go.Hb
attribute [local irreducible] LR CW At Ev thn blk finK noG again CallsTo DW QL dnext
set_option maxRecDepth 100000

end Go.Proofs.Ytgblmkpfkcibiaa

namespace Go.Proofs.Ytgblmkpfkcibiaa
open Go.Hb
attribute [local irreducible] LR CW At Ev thn blk finK noG again CallsTo DW QL dnext
set_option maxRecDepth 100000

end Go.Proofs.Ytgblmkpfkcibiaa

namespace Go.Proofs.Ytgblmkpfkcibiaa
open Go.Hb
attribute [local irreducible] LR CW At Ev thn blk finK noG again CallsTo DW QL dnext
set_option maxRecDepth 100000

instance : MapOf Try.prog 152 .i64 .nilFunc := ⟨⟨3, 150, Try.underlying152, Try.underlying3, Try.zeroValue150⟩⟩
end Go.Proofs.Ytgblmkpfkcibiaa

namespace Go.Proofs.Ytgblmkpfkcibiaa
open Go.Hb
attribute [local irreducible] LR CW At Ev thn blk finK noG again CallsTo DW QL dnext
set_option maxRecDepth 100000

end Go.Proofs.Ytgblmkpfkcibiaa

namespace Go.Proofs.Ytgblmkpfkcibiaa
open Go.Hb
attribute [local irreducible] LR CW At Ev thn blk finK noG again CallsTo DW QL dnext
set_option maxRecDepth 100000

theorem front_perm {α : Type} : ∀ (L : List α) (i : Nat) (hi : i < L.length), L.Perm (L[i] :: L.eraseIdx i)
  | x :: r, 0, _ => List.Perm.refl _
  | x :: r, i + 1, hi => ((front_perm r i (by simpa using hi)).cons x).trans (List.Perm.swap _ _ _)
theorem front {w0 w : World} {F : Nat → Prop} {L L' : List Asrt} (h : St w0 F L w) (i : Nat) (hi : Nat.blt i L.length = true) (e : L[i]'(blt_lt hi) :: L.eraseIdx i = L') : St w0 F L' w := (h.perm (front_perm L i (blt_lt hi))).cast e
def T2 (bm : Nat) (hd : List Value) (vs : List Int) : Asrt := .own bm (.cells (hd ++ iv vs ++ zz (4 - vs.length) ++ [Value.slice none 0 0]).toArray 66 (0, 0))
def tail6 : List Value := [.bool false, .int .i64 0, .int .i64 0, .int .i64 0, .int .i64 0, .slice none 0 0]
def T1 (bm bs : Nat) (vs : List Int) : Asrt := both (.own bm (.cells (iv (vs.take 7) ++ zz (7 - vs.length) ++ tail6).toArray 66 (0, 0))) (.own bs (.cells [.int .i64 (vs.getD 7 0)].toArray 3 (0, 0)))

end Go.Proofs.Ytgblmkpfkcibiaa

namespace Go.Proofs.Ytgblmkpfkcibiaa
open Go.Hb
attribute [local irreducible] LR CW At Ev thn blk finK noG again CallsTo DW QL dnext
set_option maxRecDepth 100000

end Go.Proofs.Ytgblmkpfkcibiaa

namespace Go.Proofs.Ytgblmkpfkcibiaa
open Go.Hb
attribute [local irreducible] LR CW At Ev thn blk finK noG again CallsTo DW QL dnext
set_option maxRecDepth 100000

end Go.Proofs.Ytgblmkpfkcibiaa

namespace Go.Proofs.Ytgblmkpfkcibiaa
open Go.Hb
attribute [local irreducible] LR CW At Ev thn blk finK noG again CallsTo DW QL dnext
set_option maxRecDepth 100000

end Go.Proofs.Ytgblmkpfkcibiaa

namespace Go.Proofs.Ytgblmkpfkcibiaa
open Go.Hb
attribute [local irreducible] LR CW At Ev thn blk finK noG again CallsTo
set_option maxRecDepth 100000

end Go.Proofs.Ytgblmkpfkcibiaa

namespace Go.Proofs.Ytgblmkpfkcibiaa
open Go.Hb
attribute [local irreducible] LR CW At Ev thn blk finK noG again CallsTo DW QL dnext
set_option maxRecDepth 100000

end Go.Proofs.Ytgblmkpfkcibiaa

namespace Go.Proofs.Ytgblmkpfkcibiaa
open Go.Hb
attribute [local irreducible] LR CW At Ev thn blk finK noG again CallsTo
set_option maxRecDepth 100000

def rmay (s r : Int) : Bool := !(decide (s = 0 ∧ r = 0)) && ringB s r
structure Tk where
  r1 : Int
  r2 : Int
  hop : Int
  seq : Int
  aru : Int
  low : Int
  stamp : Int
  idle : Int
  ask : List Int
deriving DecidableEq
def Tk.cells (t : Tk) (a : Option Addr) (c : Nat) : List Value := [.int .i64 t.r1, .int .i64 t.r2, .int .i64 t.hop, .int .i64 t.seq, .int .i64 t.aru, .int .i64 t.low, .int .i64 t.stamp, .int .i64 t.idle, .slice a t.ask.length c]
def Tk.val (t : Tk) (a : Option Addr) (c : Nat) : Value := .agg (t.cells a c).toArray
def Tk.headB (t : Tk) : Bool := rmay t.r1 t.r2 && withinB t.hop 1 9007199254740991 && withinB t.seq 0 9007199254740991 && withinB t.aru 0 t.seq && withinB t.low 0 8 && withinB t.stamp 0 9007199254740991 && withinB t.idle 0 9007199254740991 && decide (t.ask.length ≤ 16)
end Go.Proofs.Ytgblmkpfkcibiaa

namespace Go.Proofs.Ytgblmkpfkcibiaa
open Go.Hb
attribute [local irreducible] LR CW At Ev thn blk finK noG again CallsTo
set_option maxRecDepth 100000

abbrev il (a : Option Addr) (c : Nat) (l : List Int) : Asrt := osl (.slice a l.length c) 3 1 l.length (iv l)
theorem take_succ_eq' {l r : List Int} {i : Nat} (h : i < l.length) (hr : i < r.length) (he : l.take i = r.take i) (hx : l[i] = r[i]) : l.take (i + 1) = r.take (i + 1) := by
  rw [List.take_add_one, List.take_add_one, List.getElem?_eq_getElem h, List.getElem?_eq_getElem hr, he, hx]
theorem t19 (a b : Option Addr) (ca cb : Nat) (la lb : List Int) (w : World) (ha : Rd w a (iv la)) (hb : Rd w b (iv lb)) (hm : la.length ≤ 17592186043904) :
    CallsTo Try.prog 17 [.slice a la.length ca, .slice b lb.length cb] w fun v w' => v = .bool (decide (la = lb)) ∧ Grew w w' := by
  refine go_in (n := 26) (St.rd2 ha hb) Try.func17 rfl rfl ?_
  repeat'(first|refine kv' ?_|apply jJ|refine jE' ?_|refine jp' ?_|(apply jc;kernel_rfl)|refine kg' ?_|refine kG' ?_|refine kB' fun _=>?_|refine kA' fun _=>?_|refine kK' fun _=>?_|refine kU' ?_|((first|refine kR' ?_ ?_|refine kQ' ?_ ?_);all_goals(intro hc;try simp only[hcs]at hc;try(exfalso;first|contradiction|omega))))
  · (apply ret1; (· exact rfl); intro w' hS)
    refine ⟨congrArg Value.bool ?_, hS.toKeep⟩
    have : la ≠ lb := fun e => by subst e; simp at hc
    simp [this]
  · apply CW.loop [4, 5, 11, 12, 13, 14, 15, 16, 17, 18, 19, 20, 21, 22, 23, 24, 25] (fun i : Nat => i ≤ la.length ∧ la.take i = lb.take i) (fun i : Nat => [(5, Value.int .i64 i)]) (fun i => St w NoF [rdA a (iv la), rdA b (iv lb)]) (fun i => la.length - i)
    · exact fun w' hw' => ⟨0, ⟨by omega, by simp⟩, ⟨rfl, trivial⟩, hw'⟩
    intro i g ⟨hi, heq⟩
    by_cases hlt : i < la.length
    · obtain ⟨ba, oa, rfl⟩ := ha.form (fun e => by have := congrArg List.length e; simp at this; subst this; simp at hlt)
      obtain ⟨bb, ob, rfl⟩ := hb.form (fun e => by have := congrArg List.length e; simp at this; subst this; simp at hc; simp [hc] at hlt)
      have hlb : i < lb.length := by omega
      repeat'(first|refine kv' ?_|apply jJ|refine jE' ?_|refine jp' ?_|(apply jc;kernel_rfl)|refine kg' ?_|refine kG' ?_|refine kB' fun _=>?_|refine kA' fun _=>?_|refine kK' fun _=>?_|refine kU' ?_|(apply idxX;(iterate 2 exact rfl);(iterate 2(first|omega|(dsimp only;omega)));exact rfl)|(apply LR.ev; (· apply Ev.load_rd; (· exact rfl); (· repeat (first | exact mH _ _ | apply mT)); (· exact iv_at (i := i) (by simp) (by omega))); (· exact rfl))|(apply addX;(iterate 2 exact rfl);(iterate 2(first|omega|(dsimp only;omega)));exact rfl)|((first|refine kR' ?_ ?_|refine kQ' ?_ ?_);all_goals(intro hc;try simp only[hcs]at hc;try(exfalso;first|contradiction|omega))))
      · (apply ret1; (· exact rfl); intro w' hS)
        refine ⟨congrArg Value.bool ?_, hS.toKeep⟩
        have : la ≠ lb := fun e => by subst e; simp_all
        simp [this]
      · apply At.again (i + 1) ⟨by omega, take_succ_eq' hlt hlb heq (by simpa using ‹_›)⟩
        · (repeat (first | exact Out.refl _ _ | exact Out.mix | (apply Out.upd; (· exact rfl)) | (apply Out.updL; (· exact rfl)) | (apply Out.mixs; (· exact rfl))))
        · exact ⟨rfl, trivial⟩
        · exact fun w' hw' => hw'
        · omega
    · have hie : i = la.length := by omega
      subst hie
      repeat'(first|refine kv' ?_|apply jJ|refine jE' ?_|refine jp' ?_|(apply jc;kernel_rfl)|refine kg' ?_|refine kG' ?_|refine kB' fun _=>?_|refine kA' fun _=>?_|refine kK' fun _=>?_|refine kU' ?_|((first|refine kR' ?_ ?_|refine kQ' ?_ ?_);all_goals(intro hc;try simp only[hcs]at hc;try(exfalso;first|contradiction|omega))))
      (apply ret1; (· exact rfl); intro w' hS)
      refine ⟨congrArg Value.bool ?_, hS.toKeep⟩
      have hl : la.length = lb.length := by omega
      rw [List.take_length, hl, List.take_length] at heq
      simp [heq]
end Go.Proofs.Ytgblmkpfkcibiaa

namespace Go.Proofs
open Go.Shelf
def Try.lays189_ren : Go.Shelf.Ren := ⟨fun | 189 => 54 | 125 => 83 | 257 => 82 | 128 => 107 | 129 => 108 | 294 => 98 | 295 => 99 | 296 => 100 | 297 => 101 | 298 => 102 | 299 => 103 | 216 => 104 | 300 => 105 | 301 => 106 | 328 => 122 | 329 => 123 | 330 => 124 | 331 => 125 | 332 => 126 | 215 => 91 | 343 => 139 | n => n, fun | 28 => 22 | 3 => 3 | 46 => 124 | 0 => 0 | 51 => 141 | 53 => 56 | 4 => 4 | 183 => 135 | 182 => 134 | 131 => 29 | 5 => 5 | 9 => 9 | 218 => 161 | 222 => 158 | 228 => 175 | 229 => 87 | n => n, fun | n => n⟩
theorem Try.lays189 : Go.Proofs.Lays.n189 Try.prog Try.lays189_ren := {
  mixed := by kernel_rfl
  f125 := Try.func83.trans (congrArg some (by kernel_rfl))
  f128 := Try.func107.trans (congrArg some (by kernel_rfl))
  f129 := Try.func108.trans (congrArg some (by kernel_rfl))
  f189 := Try.func54.trans (congrArg some (by kernel_rfl))
  f215 := Try.func91.trans (congrArg some (by kernel_rfl))
  f216 := Try.func104.trans (congrArg some (by kernel_rfl))
  f257 := Try.func82.trans (congrArg some (by kernel_rfl))
  f294 := Try.func98.trans (congrArg some (by kernel_rfl))
  f295 := Try.func99.trans (congrArg some (by kernel_rfl))
  f296 := Try.func100.trans (congrArg some (by kernel_rfl))
  f297 := Try.func101.trans (congrArg some (by kernel_rfl))
  f298 := Try.func102.trans (congrArg some (by kernel_rfl))
  f299 := Try.func103.trans (congrArg some (by kernel_rfl))
  f300 := Try.func105.trans (congrArg some (by kernel_rfl))
  f301 := Try.func106.trans (congrArg some (by kernel_rfl))
  f328 := Try.func122.trans (congrArg some (by kernel_rfl))
  f329 := Try.func123.trans (congrArg some (by kernel_rfl))
  f330 := Try.func124.trans (congrArg some (by kernel_rfl))
  f331 := Try.func125.trans (congrArg some (by kernel_rfl))
  f332 := Try.func126.trans (congrArg some (by kernel_rfl))
  f343 := Try.func139.trans (congrArg some (by kernel_rfl))
  t0 := Try.underlying0
  a0 := Try.isAgg0
  z0 := Try.sizeOf0
  v0 := Try.zeroValue0
  t3 := Try.underlying3
  a3 := Try.isAgg3
  z3 := Try.sizeOf3
  v3 := Try.zeroValue3
  t4 := Try.underlying4
  a4 := Try.isAgg4
  z4 := Try.sizeOf4
  v4 := Try.zeroValue4
  t5 := Try.underlying5
  a5 := Try.isAgg5
  z5 := Try.sizeOf5
  v5 := Try.zeroValue5
  t9 := Try.underlying9
  a9 := Try.isAgg9
  z9 := Try.sizeOf9
  v9 := Try.zeroValue9
  t28 := Try.underlying22
  a28 := Try.isAgg22
  z28 := Try.sizeOf22
  v28 := Try.zeroValue22
  t46 := Try.underlying124
  a46 := Try.isAgg124
  z46 := Try.sizeOf124
  v46 := Try.zeroValue124
  t51 := Try.underlying141
  a51 := Try.isAgg141
  z51 := Try.sizeOf141
  v51 := Try.zeroValue141
  t53 := Try.underlying56
  a53 := Try.isAgg56
  z53 := Try.sizeOf56
  v53 := Try.zeroValue56
  t131 := Try.underlying29
  a131 := Try.isAgg29
  z131 := Try.sizeOf29
  v131 := Try.zeroValue29
  t182 := Try.underlying134
  a182 := Try.isAgg134
  z182 := Try.sizeOf134
  v182 := Try.zeroValue134
  t183 := Try.underlying135
  a183 := Try.isAgg135
  z183 := Try.sizeOf135
  v183 := Try.zeroValue135
  t218 := Try.underlying161
  a218 := Try.isAgg161
  z218 := Try.sizeOf161
  v218 := Try.zeroValue161
  t222 := Try.underlying158
  a222 := Try.isAgg158
  z222 := Try.sizeOf158
  v222 := Try.zeroValue158
  t228 := Try.underlying175
  a228 := Try.isAgg175
  z228 := Try.sizeOf175
  v228 := Try.zeroValue175
  t229 := Try.underlying87
  a229 := Try.isAgg87
  z229 := Try.sizeOf87
  v229 := Try.zeroValue87 }
open Go.Sort Go.RowKit in
theorem Try.slices_Sort_int (blk off cap : Nat) (zs : List Int) (w : World) (hH : Holds (Value.int .i64) w blk off zs.toArray) (hblk : blk < w.heap.size) (hsz : zs.length < 4611686018427387904) :
    Calls Try.prog 54 #[.slice (some ⟨blk, off, none⟩) zs.length cap] w fun e w' =>
      e = .returned (.tuple #[]) ∧ ∃ n os, w' = grow (putRow (Value.int .i64) (Sort.ahead w n) blk off (zs.mergeSort fun x y => decide (x ≤ y)).toArray) os := Any.slices_Sort_int Try.lays189 blk off cap zs w hH hblk hsz
theorem Try.slices_Sort_int_none (p : Option Addr) (cap : Nat) (w : World) :
    Calls Try.prog 54 #[.slice p 0 cap] w fun e w' => e = .returned (.tuple #[]) ∧ w' = w := Any.slices_Sort_int_none Try.lays189 p cap w
end Go.Proofs

namespace Go.Proofs.Ytgblmkpfkcibiaa
open Go.Hb
attribute [local irreducible] LR CW At Ev thn blk finK noG again CallsTo
set_option maxRecDepth 100000

def sortI (l : List Int) : List Int := l.mergeSort fun x y => decide (x ≤ y)
theorem sortI_len (l : List Int) : (sortI l).length = l.length := List.length_mergeSort ..
theorem callsTo_of {P : Program} {g : FuncId} {args : List Value} {w : World} {R : Ending → World → Prop} {K : Value → World → Prop} (h : Calls P g args.toArray w R) (hk : ∀ e w', R e w' → ∃ v, e = .returned v ∧ K v w') : CallsTo P g args w K :=
  by unfold CallsTo; exact Calls.mono h hk
theorem il_stay {w : World} {a : Option Addr} {c : Nat} {l : List Int} (h : w.ownsRow 0 3 1 (.slice a l.length c) l.length (iv l)) : Step (il a c l) (il a c l) w w :=
  ⟨St.refl w _, h, fun _ hk => .inl hk⟩
theorem t53 (a : Option Addr) (c : Nat) (l : List Int) (w : World) (h : w.ownsRow 0 3 1 (.slice a l.length c) l.length (iv l)) (hm : l.length ≤ 140737488355328) :
    CallsTo Try.prog 54 [.slice a l.length c] w fun v w' => v = .tuple #[] ∧ Step (il a c l) (il a c (sortI l)) w w' := by
  by_cases hl : l = []
  · subst hl
    refine callsTo_of (Try.slices_Sort_int_none a c w) ?_
    rintro e w' ⟨rfl, rfl⟩
    exact ⟨_, rfl, rfl, by simpa [sortI] using il_stay h⟩
  · rcases h.2 with ⟨he, hn⟩ | ⟨g, cap, cur, he, hb, hg, h1, h2, h3, h4⟩
    · exact absurd (List.eq_nil_of_length_eq_zero hn) hl
    simp only [Value.slice.injEq, true_and] at he
    obtain ⟨rfl, rfl⟩ := he
    rw [Nat.mul_one] at h4
    refine callsTo_of (Try.slices_Sort_int g 0 c l w (holds_of_blockI hg h4) ((Array.getElem?_eq_some_iff.1 hg).1) (by omega)) ?_
    rintro e w' ⟨rfl, n, os, rfl⟩
    refine ⟨_, rfl, rfl, keep_of_grown (grownBy_sortedI _) (fun k hk => ?_), ?_, fun k hk => .inl hk⟩
    · cases hk; exact rfl
    · have := ownsRow_sortedI (base := 0) (n := n) (os := os) (sortI_len l) (Nat.zero_le _) hg h1 h2 h3
      show World.ownsRow _ _ _ _ _ _ _
      rw [sortI_len]
      exact this
structure NewOd (w w' : World) (v : Value) (E : TypeId) (sz n : Nat) (xs : List Value) : Prop where
  grew : Grew w w'
  own : ownsAt w' E sz v n xs
  new : ∀ k, v.ownBlock = some k → w.heap.size ≤ k ∧ k < w'.heap.size
end Go.Proofs.Ytgblmkpfkcibiaa

namespace Go.Proofs.Ytgblmkpfkcibiaa
open Go.Hb
attribute [local irreducible] LR CW At Ev thn blk finK noG again CallsTo DW QL dnext TW DP
set_option maxRecDepth 100000

def farV (o : Option Int) : Value := .tuple [.int .i64 (o.getD 0), .bool o.isSome].toArray
theorem m13T {p : Pln} {A : PlA} {w w0 : World} {L : List Asrt} (hi : PlI p) (h1 : St w0 NoF L w) (hr : PlR w p A) (hc : chkP p.R p.G = true) : CallsTo Try.prog 13 [p.val A] w fun v w' => v = .int .i64 0 ∧ St w0 NoF L w' := by
  have hq := CallsTo.q (m13 p A w hr hi) h1
  rw [hc] at hq
  exact hq
theorem m13F {p : Pln} {A : PlA} {w w0 : World} {L : List Asrt} (hi : PlI p) (h1 : St w0 NoF L w) (hr : PlR w p A) (hc : chkP p.R p.G = false) : CallsTo Try.prog 13 [p.val A] w fun v w' => v = .int .i64 230 ∧ St w0 NoF L w' := by
  have hq := CallsTo.q (m13 p A w hr hi) h1
  rw [hc] at hq
  exact hq
set_option maxHeartbeats 1000000 in
theorem m15 (p : Pln) (A : PlA) (n r : Int) (w : World) (hr : PlR w p A) (hi : PlI p) : CallsTo Try.prog 15 [p.val A, .int .i64 n, .int .i64 r] w fun v w' => v = farV (farT p.R p.G n r) ∧ Grew w w' := by
  refine go_in (n := 40) (pl_in hr) Try.func15 rfl rfl ?_
  have hgl := hi.gl
  rw [show p.val A = .agg [.slice A.ra p.R.length A.rc, .slice A.ga p.G.length A.gc].toArray from rfl]
  unfold farT
  cases hck : chkP p.R p.G with
  | false =>
    repeat'(first|refine kv' ?_|apply jJ|refine jE' ?_|refine jp' ?_|(apply jc;kernel_rfl)|refine kg' ?_|refine kG' ?_|refine kB' fun _=>?_|refine kA' fun _=>?_|refine kK' fun _=>?_|refine kU' ?_|(apply kq; (· exact rfl); (· intro w1 h1; exact (show CallsTo Try.prog 13 [p.val A] w1 _ from m13F hi h1 ⟨h1.rd_of memZ, h1.rd_of memZ⟩ hck)))|((first|refine kR' ?_ ?_|refine kQ' ?_ ?_);all_goals(intro hc;try simp only[hcs]at hc;try(exfalso;first|contradiction|omega))))
    (apply ret2; (· exact rfl); intro w' hS)
    exact ⟨rfl, hS.toKeep⟩
  | true =>
    repeat'(first|(refine kB' fun b1 => ?_)|refine kv' ?_|apply jJ|refine jE' ?_|refine jp' ?_|(apply jc;kernel_rfl)|refine kg' ?_|refine kG' ?_|refine kB' fun _=>?_|refine kA' fun _=>?_|refine kK' fun _=>?_|refine kU' ?_|(apply kq; (· exact rfl); (· intro w1 h1; exact (show CallsTo Try.prog 13 [p.val A] w1 _ from m13T hi h1 ⟨h1.rd_of memZ, h1.rd_of memZ⟩ hck)))|((first|refine kR' ?_ ?_|refine kQ' ?_ ?_);all_goals(intro hc;try simp only[hcs]at hc;try(exfalso;first|contradiction|omega))))
    apply CW.loop [6, 7, 9, 16, 17, 18, 19, 20, 21, 22, 23, 24, 25, 26, 27, 28, 29, 30, 31, 32, 33, 34, 35, 36, 37, 38, 39] (fun i : Nat => i ≤ p.G.length ∧ farG p.G n r = farG (p.G.drop i) n r) (fun i : Nat => [(16, Value.int .i64 (i : Int))])
      (fun _ => St w NoF [.own b1 (.cells [Value.slice A.ra p.R.length A.rc, .slice A.ga p.G.length A.gc].toArray 25 (0, 0)), rdA A.ga (gv p.G), rdA A.ra (iv p.R)]) (fun i => p.G.length - i)
    · exact fun w' hw' => ⟨0, ⟨by omega, rfl⟩, ⟨rfl, trivial⟩, hw'⟩
    rintro i g2 ⟨hil, hf⟩
    rw [if_pos rfl, hf]
    by_cases hlt : i < p.G.length
    · rw [farG_drop _ _ _ hlt] at hf
      rw [farG_drop _ _ _ hlt]
      obtain ⟨bg, og, hga⟩ := hr.g.form (rows_ne gat_len (by omega) hlt)
      rw [hga]
      obtain ⟨y, hy⟩ : ∃ y, p.G[i] = y := ⟨_, rfl⟩
      rw [hy] at hf ⊢
      repeat'(first|(refine kA' fun bg2 => ?_)|refine kv' ?_|apply jJ|refine jE' ?_|refine jp' ?_|(apply jc;kernel_rfl)|refine kg' ?_|refine kG' ?_|refine kB' fun _=>?_|refine kA' fun _=>?_|refine kK' fun _=>?_|refine kU' ?_|(apply idxX;(iterate 2 exact rfl);(iterate 2(first|omega|(dsimp only;omega)));exact rfl)|(apply addX;(iterate 2 exact rfl);(iterate 2(first|omega|(dsimp only;omega)));exact rfl)|(apply LR.ev; (· apply Ev.load_agg_at (cs := [Value.int .i64 y.n, .int .i64 y.a, .int .i64 y.b]); (· exact rfl); (· exact rfl); (· intro w' hw'; have h9 := rd_row (f := Gat.cells) (l := p.G) (i := i) (q := (i : Int).toNat * 3) gat_len (hw'.rd_of memZ) hlt (by simp); rw [hy] at h9; exact h9)); (· exact rfl))|((first|refine kR' ?_ ?_|refine kQ' ?_ ?_);all_goals(intro hc;try simp only[hcs]at hc;try(exfalso;first|contradiction|omega))))
      all_goals (first
        | ((apply ret2; (· exact rfl); intro w' hS)
           first
             | (rw [if_pos ⟨by assumption, by assumption⟩]; exact ⟨rfl, hS.toKeep⟩)
             | (rw [if_neg (fun h => absurd h.2 (by assumption)), if_pos ⟨by assumption, by assumption⟩]; exact ⟨rfl, hS.toKeep⟩))
        | (refine At.again (i + 1) ⟨by omega, ?_⟩ ?_ ⟨rfl, trivial⟩ (fun w' hw' => hw'.sub subZ) (by omega)
           · first
               | (rw [if_neg (fun h => absurd h.1 (by assumption)), if_neg (fun h => absurd h.1 (by assumption))])
               | (rw [if_neg (fun h => absurd h.2 (by assumption)), if_neg (fun h => absurd h.2 (by assumption))])
           · (repeat (first | exact Out.refl _ _ | exact Out.mix | (apply Out.upd; (· exact rfl)) | (apply Out.updL; (· exact rfl)) | (apply Out.mixs; (· exact rfl))))
           ))
    · have hie : i = p.G.length := by omega
      subst hie
      rw [List.drop_length]
      repeat'(first|refine kv' ?_|apply jJ|refine jE' ?_|refine jp' ?_|(apply jc;kernel_rfl)|refine kg' ?_|refine kG' ?_|refine kB' fun _=>?_|refine kA' fun _=>?_|refine kK' fun _=>?_|refine kU' ?_|((first|refine kR' ?_ ?_|refine kQ' ?_ ?_);all_goals(intro hc;try simp only[hcs]at hc;try(exfalso;first|contradiction|omega))))
      (apply ret2; (· exact rfl); intro w' hS)
      exact ⟨rfl, hS.toKeep⟩
end Go.Proofs.Ytgblmkpfkcibiaa

namespace Go.Proofs.Ytgblmkpfkcibiaa
open Go.Hb
attribute [local irreducible] LR CW At Ev thn blk finK noG again CallsTo DW QL dnext TW DP
set_option maxRecDepth 100000

abbrev ilR (w w' : World) (v : Value) (l : List Int) : Prop := ∃ a' c', v = .slice a' l.length c' ∧ NewSl w w' (.slice a' l.length c') 3 1 l.length (iv l)
theorem ilR_nil (w : World) {w' : World} (h : Grew w w') : ilR w w' (.slice none 0 0) [] := ⟨none, 0, rfl, ((h : St w NoF [] w').nilsl 3 1).toNew (mH _ _)⟩
theorem ilK_snoc {a : Option Addr} {c : Nat} {L : List Int} {x : Int} : ilK a c (L ++ [x]) = osl (.slice a (L.length + 1) c) 3 1 (L.length + 1) (iv L ++ [Value.int .i64 x]) := by simp [ilK, iv]
set_option maxHeartbeats 1000000 in
theorem m18 (p : Pln) (A : PlA) (n : Int) (w : World) (hr : PlR w p A) (hi : PlI p) : CallsTo Try.prog 18 [p.val A, .int .i64 n] w fun v w' => ilR w w' v (sidesT p.R p.G n) := by
  refine go_in (n := 28) (pl_in hr) Try.func18 rfl rfl ?_
  have hrl := hi.rl
  rw [show p.val A = .agg [.slice A.ra p.R.length A.rc, .slice A.ga p.G.length A.gc].toArray from rfl]
  unfold sidesT
  cases hck : chkP p.R p.G with
  | false =>
    repeat'(first|refine kv' ?_|apply jJ|refine jE' ?_|refine jp' ?_|(apply jc;kernel_rfl)|refine kg' ?_|refine kG' ?_|refine kB' fun _=>?_|refine kA' fun _=>?_|refine kK' fun _=>?_|refine kU' ?_|(apply kq; (· exact rfl); (· intro w1 h1; exact (show CallsTo Try.prog 13 [p.val A] w1 _ from m13F hi h1 ⟨h1.rd_of memZ, h1.rd_of memZ⟩ hck)))|((first|refine kR' ?_ ?_|refine kQ' ?_ ?_);all_goals(intro hc;try simp only[hcs]at hc;try(exfalso;first|contradiction|omega))))
    (apply ret1; (· exact rfl); intro w' hS)
    exact ilR_nil w hS.toKeep
  | true =>
    repeat'(first|(refine kB' fun b1 => ?_)|refine kv' ?_|apply jJ|refine jE' ?_|refine jp' ?_|(apply jc;kernel_rfl)|refine kg' ?_|refine kG' ?_|refine kB' fun _=>?_|refine kA' fun _=>?_|refine kK' fun _=>?_|refine kU' ?_|(apply kq; (· exact rfl); (· intro w1 h1; exact (show CallsTo Try.prog 13 [p.val A] w1 _ from m13T hi h1 ⟨h1.rd_of memZ, h1.rd_of memZ⟩ hck)))|((first|refine kR' ?_ ?_|refine kQ' ?_ ?_);all_goals(intro hc;try simp only[hcs]at hc;try(exfalso;first|contradiction|omega))))
    apply CW.loop [5, 6, 7, 14, 15, 16, 17, 18, 19, 20, 21, 22, 23, 24, 25, 26] (fun s : Cst => s.k ≤ p.R.length) (fun s => [(5, .slice s.a (sidesTo p.R n s.k).length s.c), (14, .int .i64 (s.k : Int))])
      (fun s => St w NoF [ilK s.a s.c (sidesTo p.R n s.k), .own b1 (.cells [Value.slice A.ra p.R.length A.rc, .slice A.ga p.G.length A.gc].toArray 25 (0, 0)), rdA A.ga (gv p.G), rdA A.ra (iv p.R)]) (fun s => p.R.length - s.k)
    · exact fun w' hw' => ⟨⟨0, none, 0⟩, by simp, ⟨rfl, rfl, trivial⟩, hw'.nilsl 3 1⟩
    rintro ⟨k, a2, c2⟩ g hk
    simp only at hk ⊢
    have hle := sidesTo_len p.R n k
    by_cases hlt : k < p.R.length
    · obtain ⟨ba, oa, hra⟩ := hr.r.form (fun e => by have := congrArg List.length e; simp only [iv_length, List.length_nil] at this; omega)
      rw [hra]
      have hsu : sidesTo p.R n (k + 1) = sidesTo p.R n k ++ if hasC (p.R.getD k 0) n then [(k : Int)] else [] := rfl
      rw [getD_nat _ hlt] at hsu
      generalize sidesTo p.R n k = L at hsu hle ⊢
      cases hx : hasC p.R[k] n
      · rw [hx, if_neg (by simp), List.append_nil] at hsu
        repeat'(first|refine kv' ?_|apply jJ|refine jE' ?_|refine jp' ?_|(apply jc;kernel_rfl)|refine kg' ?_|refine kG' ?_|refine kB' fun _=>?_|refine kA' fun _=>?_|refine kK' fun _=>?_|refine kU' ?_|(apply idxX;(iterate 2 exact rfl);(iterate 2(first|omega|(dsimp only;omega)));exact rfl)|(apply LR.ev; (· apply Ev.load_rd; (· exact rfl); (· repeat (first | exact mH _ _ | apply mT)); (· exact iv_at (i := k) (by simp) (by omega))); (· exact rfl))|(apply addX;(iterate 2 exact rfl);(iterate 2(first|omega|(dsimp only;omega)));exact rfl)|(apply kq; (· exact rfl); (· intro w1 h1; have hq := CallsTo.q (q23 p.R[k] n w1) h1; rw [hx] at hq; show CallsTo Try.prog 52 [.int .i64 p.R[k], .int .i64 n] w1 _; exact hq))|((first|refine kR' ?_ ?_|refine kQ' ?_ ?_);all_goals(intro hc;try simp only[hcs]at hc;try(exfalso;first|contradiction|omega))))
        refine At.again (⟨k + 1, a2, c2⟩ : Cst) (by simp only; omega) ?_ ⟨?_, rfl, trivial⟩ ?_ (by simp only; omega)
        · (repeat (first | exact Out.refl _ _ | exact Out.mix | (apply Out.upd; (· exact rfl)) | (apply Out.updL; (· exact rfl)) | (apply Out.mixs; (· exact rfl))))
        · simp only
          rw [hsu]
          rfl
        · intro w' hw'
          simp only
          rw [hsu]
          exact hw'.sub subZ
      · rw [hx, if_pos rfl] at hsu
        repeat'(first|(apply Go.Hb.kK;(iterate 4 exact rfl);intro bs)|refine kv' ?_|apply jJ|refine jE' ?_|refine jp' ?_|(apply jc;kernel_rfl)|refine kg' ?_|refine kG' ?_|refine kB' fun _=>?_|refine kA' fun _=>?_|refine kK' fun _=>?_|refine kU' ?_|(apply idxX;(iterate 2 exact rfl);(iterate 2(first|omega|(dsimp only;omega)));exact rfl)|(apply LR.ev; (· apply Ev.load_rd; (· exact rfl); (· repeat (first | exact mH _ _ | apply mT)); (· exact iv_at (i := k) (by simp) (by omega))); (· exact rfl))|(apply addX;(iterate 2 exact rfl);(iterate 2(first|omega|(dsimp only;omega)));exact rfl)|(apply kq; (· exact rfl); (· intro w1 h1; have hq := CallsTo.q (q23 p.R[k] n w1) h1; rw [hx] at hq; show CallsTo Try.prog 52 [.int .i64 p.R[k], .int .i64 n] w1 _; exact hq))|(apply LR.append (xs := iv L) (news := [Value.int .i64 (k : Int)]) (m := 1); (· exact rfl); (· exact rfl); (· intro a' c'; (repeat (first | exact sH _ _ _ | apply sT))); (· exact fun w' hw' => hw'.rd_of_blk (mH _ _)); (· exact fun hx => by cases hx); (· exact rfl); (· exact rfl); (· omega); (· unfold maxLen; omega); (· exact rfl); (intro a3 c3))|((first|refine kR' ?_ ?_|refine kQ' ?_ ?_);all_goals(intro hc;try simp only[hcs]at hc;try(exfalso;first|contradiction|omega))))
        refine At.again (⟨k + 1, a3, c3⟩ : Cst) (by simp only; omega) ?_ ⟨?_, rfl, trivial⟩ ?_ (by simp only; omega)
        · (repeat (first | exact Out.refl _ _ | exact Out.mix | (apply Out.upd; (· exact rfl)) | (apply Out.updL; (· exact rfl)) | (apply Out.mixs; (· exact rfl))))
        · simp only
          rw [hsu, List.length_append]
          rfl
        · intro w' hw'
          simp only
          rw [hsu, ilK_snoc]
          exact hw'.sub subZ
    · have hke : k = p.R.length := by omega
      subst hke
      repeat'(first|refine kv' ?_|apply jJ|refine jE' ?_|refine jp' ?_|(apply jc;kernel_rfl)|refine kg' ?_|refine kG' ?_|refine kB' fun _=>?_|refine kA' fun _=>?_|refine kK' fun _=>?_|refine kU' ?_|((first|refine kR' ?_ ?_|refine kQ' ?_ ?_);all_goals(intro hc;try simp only[hcs]at hc;try(exfalso;first|contradiction|omega))))
      (apply ret1; (· exact rfl); intro w' hS)
      exact ⟨a2, c2, rfl, hS.toNew memZ⟩
theorem gwRaw_take (G : List Gat) (r : Int) {k : Nat} (h : k < G.length) : gwRaw (G.take (k + 1)) r = gwRaw (G.take k) r ++ if (G[k]'h).a = r ∨ (G[k]'h).b = r then [(G[k]'h).n] else [] := by
  unfold gwRaw
  rw [List.take_add_one, List.getElem?_eq_getElem h, List.filter_append, List.map_append]
  congr 1
  show ([G[k]].filter _).map _ = _
  rw [List.filter_cons]
  by_cases hx : G[k].a = r ∨ G[k].b = r
  · rw [if_pos hx, if_pos (by simpa using hx)]; rfl
  · rw [if_neg hx, if_neg (by simpa using hx)]; rfl
theorem gwRaw_len (G : List Gat) (r : Int) : (gwRaw G r).length ≤ G.length := by unfold gwRaw; rw [List.length_map]; exact List.length_filter_le _ _
set_option maxHeartbeats 1000000 in
theorem m20 (p : Pln) (A : PlA) (r : Int) (w : World) (hr : PlR w p A) (hi : PlI p) : CallsTo Try.prog 20 [p.val A, .int .i64 r] w fun v w' => ilR w w' v (gwsT p.R p.G r) := by
  refine go_in (n := 37) (pl_in hr) Try.func20 rfl rfl ?_
  have hgl := hi.gl
  rw [show p.val A = .agg [.slice A.ra p.R.length A.rc, .slice A.ga p.G.length A.gc].toArray from rfl]
  cases hck : chkP p.R p.G with
  | false =>
    rw [gwsTo_bad r hck]
    repeat'(first|refine kv' ?_|apply jJ|refine jE' ?_|refine jp' ?_|(apply jc;kernel_rfl)|refine kg' ?_|refine kG' ?_|refine kB' fun _=>?_|refine kA' fun _=>?_|refine kK' fun _=>?_|refine kU' ?_|(apply kq; (· exact rfl); (· intro w1 h1; exact (show CallsTo Try.prog 13 [p.val A] w1 _ from m13F hi h1 ⟨h1.rd_of memZ, h1.rd_of memZ⟩ hck)))|((first|refine kR' ?_ ?_|refine kQ' ?_ ?_);all_goals(intro hc;try simp only[hcs]at hc;try(exfalso;first|contradiction|omega))))
    (apply ret1; (· exact rfl); intro w' hS)
    exact ilR_nil w hS.toKeep
  | true =>
    rw [← gws_sort r hck]
    repeat'(first|(refine kB' fun b1 => ?_)|refine kv' ?_|apply jJ|refine jE' ?_|refine jp' ?_|(apply jc;kernel_rfl)|refine kg' ?_|refine kG' ?_|refine kB' fun _=>?_|refine kA' fun _=>?_|refine kK' fun _=>?_|refine kU' ?_|(apply kq; (· exact rfl); (· intro w1 h1; exact (show CallsTo Try.prog 13 [p.val A] w1 _ from m13T hi h1 ⟨h1.rd_of memZ, h1.rd_of memZ⟩ hck)))|((first|refine kR' ?_ ?_|refine kQ' ?_ ?_);all_goals(intro hc;try simp only[hcs]at hc;try(exfalso;first|contradiction|omega))))
    apply CW.loop [5, 7, 14, 15, 16, 17, 18, 19, 20, 21, 22, 23, 24, 25, 26, 27, 28, 29, 30, 31, 32, 33] (fun s : Cst => s.k ≤ p.G.length) (fun s => [(5, .slice s.a (gwRaw (p.G.take s.k) r).length s.c), (14, .int .i64 (s.k : Int))])
      (fun s => St w NoF [ilK s.a s.c (gwRaw (p.G.take s.k) r), .own b1 (.cells [Value.slice A.ra p.R.length A.rc, .slice A.ga p.G.length A.gc].toArray 25 (0, 0)), rdA A.ga (gv p.G), rdA A.ra (iv p.R)]) (fun s => p.G.length - s.k)
    · exact fun w' hw' => ⟨⟨0, none, 0⟩, by simp, ⟨rfl, rfl, trivial⟩, hw'.nilsl 3 1⟩
    rintro ⟨k, a2, c2⟩ g hk
    simp only at hk ⊢
    have hle : (gwRaw (p.G.take k) r).length ≤ k := Nat.le_trans (gwRaw_len _ _) (by rw [List.length_take]; omega)
    by_cases hlt : k < p.G.length
    · have hsu := gwRaw_take p.G r hlt
      obtain ⟨bg, og, hga⟩ := hr.g.form (rows_ne gat_len (by omega) hlt)
      rw [hga]
      obtain ⟨y, hy⟩ : ∃ y, p.G[k] = y := ⟨_, rfl⟩
      rw [hy] at hsu
      generalize gwRaw (p.G.take k) r = L at hsu hle ⊢
      repeat'(first|(refine kA' fun bg2 => ?_)|(apply Go.Hb.kK;(iterate 4 exact rfl);intro bs)|refine kv' ?_|apply jJ|refine jE' ?_|refine jp' ?_|(apply jc;kernel_rfl)|refine kg' ?_|refine kG' ?_|refine kB' fun _=>?_|refine kA' fun _=>?_|refine kK' fun _=>?_|refine kU' ?_|(apply idxX;(iterate 2 exact rfl);(iterate 2(first|omega|(dsimp only;omega)));exact rfl)|(apply addX;(iterate 2 exact rfl);(iterate 2(first|omega|(dsimp only;omega)));exact rfl)|(apply LR.ev; (· apply Ev.load_agg_at (cs := [Value.int .i64 y.n, .int .i64 y.a, .int .i64 y.b]); (· exact rfl); (· exact rfl); (· intro w' hw'; have h9 := rd_row (f := Gat.cells) (l := p.G) (i := k) (q := (k : Int).toNat * 3) gat_len (hw'.rd_of memZ) hlt (by simp); rw [hy] at h9; exact h9)); (· exact rfl))|(apply LR.append (xs := iv L) (news := [Value.int .i64 y.n]) (m := 1); (· exact rfl); (· exact rfl); (· intro a' c'; (repeat (first | exact sH _ _ _ | apply sT))); (· exact fun w' hw' => hw'.rd_of_blk (mH _ _)); (· exact fun hx => by cases hx); (· exact rfl); (· exact rfl); (· omega); (· unfold maxLen; omega); (· exact rfl); (intro a3 c3))|((first|refine kR' ?_ ?_|refine kQ' ?_ ?_);all_goals(intro hc;try simp only[hcs]at hc;try(exfalso;first|contradiction|omega))))
      all_goals (first
        | (have hq : y.a = r ∨ y.b = r := by omega
           rw [if_pos hq] at hsu
           refine At.again (⟨k + 1, a3, c3⟩ : Cst) (by simp only; omega) ?_ ⟨?_, rfl, trivial⟩ ?_ (by simp only; omega)
           · (repeat (first | exact Out.refl _ _ | exact Out.mix | (apply Out.upd; (· exact rfl)) | (apply Out.updL; (· exact rfl)) | (apply Out.mixs; (· exact rfl))))
           · simp only
             rw [hsu, List.length_append]
             rfl
           · intro w' hw'
             simp only
             rw [hsu, ilK_snoc]
             exact hw'.sub subZ)
        | (have hq : ¬(y.a = r ∨ y.b = r) := by omega
           rw [if_neg hq, List.append_nil] at hsu
           refine At.again (⟨k + 1, a2, c2⟩ : Cst) (by simp only; omega) ?_ ⟨?_, rfl, trivial⟩ ?_ (by simp only; omega)
           · (repeat (first | exact Out.refl _ _ | exact Out.mix | (apply Out.upd; (· exact rfl)) | (apply Out.updL; (· exact rfl)) | (apply Out.mixs; (· exact rfl))))
           · simp only
             rw [hsu]
             rfl
           · intro w' hw'
             simp only
             rw [hsu]
             exact hw'.sub subZ))
    · have hke : k = p.G.length := by omega
      subst hke
      rw [List.take_length] at hle ⊢
      repeat'(first|refine kv' ?_|apply jJ|refine jE' ?_|refine jp' ?_|(apply jc;kernel_rfl)|refine kg' ?_|refine kG' ?_|refine kB' fun _=>?_|refine kA' fun _=>?_|refine kK' fun _=>?_|refine kU' ?_|((first|refine kR' ?_ ?_|refine kQ' ?_ ?_);all_goals(intro hc;try simp only[hcs]at hc;try(exfalso;first|contradiction|omega))))
      apply LR.call
      · exact rfl
      intro w1 h1
      refine CallsTo.mono (show CallsTo Try.prog 54 [.slice a2 (gwRaw p.G r).length c2] w1 _ from t53 a2 c2 (gwRaw p.G r) w1 (h1.holds (ilK a2 c2 (gwRaw p.G r)) memZ) (by omega)) ?_
      rintro v w2 ⟨rfl, st⟩
      refine LR.back (h1.did selZ rfl st (osl.dep _ _ _ _ _)) ?_
      clear st h1
      repeat'(first|refine kv' ?_|apply jJ|refine jE' ?_|refine jp' ?_|(apply jc;kernel_rfl)|refine kg' ?_|refine kG' ?_|refine kB' fun _=>?_|refine kA' fun _=>?_|refine kK' fun _=>?_|refine kU' ?_|((first|refine kR' ?_ ?_|refine kQ' ?_ ?_);all_goals(intro hc;try simp only[hcs]at hc;try(exfalso;first|contradiction|omega))))
      (apply ret1; (· exact rfl); intro w' hS)
      have hln := sortI_len (gwRaw p.G r)
      show ilR w w' (.slice a2 (gwRaw p.G r).length c2) (sortI (gwRaw p.G r))
      exact ⟨a2, c2, by rw [hln], hS.toNew memZ⟩
end Go.Proofs.Ytgblmkpfkcibiaa

namespace Go.Proofs.Ytgblmkpfkcibiaa
open Go.Hb
attribute [local irreducible] LR CW At Ev thn blk finK noG again CallsTo DW QL dnext TW DP gpost
set_option maxRecDepth 100000

def cmpM (x y : Int) : Int := if x < y then -1 else if y < x then 1 else 0
theorem m91 (x : Int) (w : World) : CallsTo Try.prog 91 [.int .i64 x] w fun v w' => v = .bool false ∧ Grew w w' := by
  refine go_in (n := 6) (St.refl _ NoF) Try.func91 rfl rfl ?_
  repeat'(first|refine kv' ?_|apply jJ|refine jE' ?_|refine jp' ?_|(apply jc;kernel_rfl)|refine kg' ?_|refine kG' ?_|refine kB' fun _=>?_|refine kA' fun _=>?_|refine kK' fun _=>?_|refine kU' ?_|((first|refine kR' ?_ ?_|refine kQ' ?_ ?_);all_goals(intro hc;try simp only[hcs]at hc;try(exfalso;first|contradiction|omega))))
  (apply ret1; (· exact rfl); intro w' hS)
  exact ⟨congrArg Value.bool (by simp), hS⟩
theorem m69 (x y : Int) (w : World) : CallsTo Try.prog 69 [.int .i64 x, .int .i64 y] w fun v w' => v = .int .i64 (cmpM x y) ∧ Grew w w' := by
  refine go_in (n := 20) (St.refl _ NoF) Try.func69 rfl rfl ?_
  repeat'(first|refine kv' ?_|apply jJ|refine jE' ?_|refine jp' ?_|(apply jc;kernel_rfl)|refine kg' ?_|refine kG' ?_|refine kB' fun _=>?_|refine kA' fun _=>?_|refine kK' fun _=>?_|refine kU' ?_|(apply kq;(·exact rfl);(·intro w1 h1;exact CallsTo.q (m91 _ w1) h1))|((first|refine kR' ?_ ?_|refine kQ' ?_ ?_);all_goals(intro hc;try simp only[hcs]at hc;try(exfalso;first|contradiction|omega))))
  all_goals (
    (apply ret1; (· exact rfl); intro w' hS)
    refine ⟨congrArg (Value.int .i64) ?_, hS⟩
    unfold cmpM; split <;> (try split) <;> omega)
theorem m85 (x y : Plc) (w : World) : CallsTo Try.prog 85 [x.val, y.val] w fun v w' => v = .int .i64 (cmpM x.ring y.ring) ∧ Grew w w' := by
  refine go_in (n := 10) (St.refl _ NoF) Try.func85 rfl rfl ?_
  repeat'(first|refine kv' ?_|apply jJ|refine jE' ?_|refine jp' ?_|(apply jc;kernel_rfl)|refine kg' ?_|refine kG' ?_|refine kB' fun _=>?_|refine kA' fun _=>?_|refine kK' fun _=>?_|refine kU' ?_|(apply kq;(·exact rfl);(·intro w1 h1;exact CallsTo.q (m69 _ _ w1) h1))|((first|refine kR' ?_ ?_|refine kQ' ?_ ?_);all_goals(intro hc;try simp only[hcs]at hc;try(exfalso;first|contradiction|omega))))
  (apply ret1; (· exact rfl); intro w' hS)
  exact ⟨rfl, hS.toKeep⟩
def zP : Plc := ⟨0, 0, 0, 0⟩
def cutP (l : List Plc) (x : Plc) : Nat → Nat
  | 0 => 0
  | k + 1 => if x.ring < (l.getD k zP).ring then cutP l x k else k + 1
theorem cutP_le (l : List Plc) (x : Plc) : ∀ k, cutP l x k ≤ k
  | 0 => Nat.le_refl _
  | k + 1 => by unfold cutP; split; (have := cutP_le l x k; omega); omega
def putP (l : List Plc) (x : Plc) : List Plc := l.take (cutP l x l.length) ++ x :: l.drop (cutP l x l.length)
theorem putP_len (l : List Plc) (x : Plc) : (putP l x).length = l.length + 1 := by
  have := cutP_le l x l.length
  unfold putP
  rw [List.length_append, List.length_cons, List.length_take, List.length_drop]
  omega
def isP (l : List Plc) : List Plc := l.foldl putP []
theorem isP_snoc (l : List Plc) (x : Plc) : isP (l ++ [x]) = putP (isP l) x := by unfold isP; rw [List.foldl_append]; rfl
theorem isP_len (l : List Plc) : (isP l).length = l.length := by
  have : ∀ (l m : List Plc), (l.foldl putP m).length = m.length + l.length := by
    intro l
    induction l with
    | nil => intro m; rfl
    | cons x r ih => intro m; rw [List.foldl_cons, ih, putP_len, List.length_cons]; omega
  have h := this l []
  simpa [isP] using h
theorem isP_take {B : List Plc} {k : Nat} (h : k < B.length) : isP (B.take (k + 1)) = putP (isP (B.take k)) B[k] := by
  rw [List.take_add_one, List.getElem?_eq_getElem h]; exact isP_snoc _ _
def onP (A S : List Plc) (x : Plc) (R : List Plc) (j : Nat) : List Plc := A ++ (S.take j ++ x :: (S.drop j ++ R))
theorem onP_len (A S R : List Plc) (x : Plc) {j : Nat} (h : j ≤ S.length) : (onP A S x R j).length = A.length + S.length + 1 + R.length := by
  unfold onP
  simp only [List.length_append, List.length_cons, List.length_take, List.length_drop]
  omega
theorem onP_at (A S R : List Plc) (x : Plc) {j : Nat} (h : j ≤ S.length) : (onP A S x R j)[A.length + j]? = some x := by
  unfold onP
  rw [List.getElem?_append_right (by omega), Nat.add_sub_cancel_left, List.getElem?_append_right (by rw [List.length_take]; omega), List.length_take, Nat.min_eq_left h, Nat.sub_self]
  rfl
theorem onP_before (A S R : List Plc) (x : Plc) {j : Nat} (h : j < S.length) : (onP A S x R (j + 1))[A.length + j]? = some S[j] := by
  unfold onP
  rw [List.getElem?_append_right (by omega), Nat.add_sub_cancel_left, List.getElem?_append_left (by rw [List.length_take]; omega), List.getElem?_take_of_lt (by omega), List.getElem?_eq_getElem h]
theorem onP_swap (A S R : List Plc) (x : Plc) {j : Nat} (h : j < S.length) : ((onP A S x R (j + 1)).set (A.length + j + 1) S[j]).set (A.length + j) x = onP A S x R j := by
  unfold onP
  have e1 : S.take (j + 1) = S.take j ++ [S[j]] := by rw [List.take_add_one, List.getElem?_eq_getElem h]; rfl
  have e2 : S.drop j = S[j] :: S.drop (j + 1) := List.drop_eq_getElem_cons h
  have hl : (S.take j).length = j := by rw [List.length_take]; omega
  rw [e1, e2, List.set_append_right _ _ (by omega), List.set_append_right _ _ (by omega)]
  rw [show A.length + j + 1 - A.length = j + 1 by omega, show A.length + j - A.length = j by omega]
  simp only [List.append_assoc, List.cons_append, List.nil_append]
  rw [List.set_append_right _ _ (by omega), List.set_append_right _ _ (by omega), hl, Nat.sub_self, show j + 1 - j = 1 by omega]
  rfl
theorem plc_len (p : Plc) : p.cells.length = 4 := rfl
theorem plc_one (p : Plc) : p.cells.all Value.oneCell' = true := rfl
abbrev pN (a : Option Addr) (n c : Nat) (D : List Plc) : Asrt := osl (.slice a n c) 44 4 n (pcs D)
theorem pcs_cell {w : World} {b o : Nat} {D : List Plc} {k : Nat} {x : Plc} (h : Rd w (some ⟨b, o, none⟩) (pcs D)) (hx : D[k]? = some x) {q : Nat} (hq : q = o + k * 4) : ∀ j v, (Plc.cells x)[j]? = some v → w.cell? ((⟨b, q, none⟩ : Addr).add j) = some v := by
  intro j v hj
  have hk : k < D.length := (List.getElem?_eq_some_iff.1 hx).1
  have e : D[k] = x := by rw [List.getElem?_eq_getElem hk] at hx; simpa using hx
  rw [hq]
  have h9 := rd_row (f := Plc.cells) (l := D) (i := k) (q := k * 4) plc_len h hk rfl j v
  rw [e] at h9
  exact h9 hj
theorem put_plc {b o n c q : Nat} {l : List Plc} (x : Plc) {k : Nat} (hk : k < l.length) (hq : q = o + k * 4) :
    Stores Try.prog 44 ⟨b, q, none⟩ x.val (pN (some ⟨b, o, none⟩) n c l) (pN (some ⟨b, o, none⟩) n c (l.set k x)) :=
  rows_store (P := Try.prog) (T := 44) (E := 44) (f := Plc.cells) inferInstance plc_len plc_one x hk hq
def sorP (D : List Plc) (lo k : Nat) : List Plc := D.take lo ++ (isP ((D.drop lo).take k) ++ D.drop (lo + k))
theorem sorP_len (D : List Plc) {lo k : Nat} (h : lo + k ≤ D.length) : (sorP D lo k).length = D.length := by
  unfold sorP
  simp only [List.length_append, List.length_take, List.length_drop, isP_len]
  omega
theorem sorP_one (D : List Plc) {lo : Nat} (h : lo < D.length) : sorP D lo 1 = D := by
  unfold sorP
  have e : (D.drop lo).take 1 = [D[lo]] := by rw [List.drop_eq_getElem_cons h]; rfl
  have e2 : isP [D[lo]] = [D[lo]] := rfl
  rw [e, e2, ← e, ← List.drop_drop, List.take_append_drop, List.take_append_drop]
theorem sorP_on {D : List Plc} {lo k : Nat} (h : lo + k < D.length) : sorP D lo k = onP (D.take lo) (isP ((D.drop lo).take k)) D[lo + k] (D.drop (lo + k + 1)) k := by
  unfold sorP onP
  have hl : (isP ((D.drop lo).take k)).length = k := by rw [isP_len, List.length_take, List.length_drop]; omega
  rw [List.take_of_length_le (l := isP ((D.drop lo).take k)) (by omega), List.drop_of_length_le (l := isP ((D.drop lo).take k)) (by omega), List.nil_append, ← List.drop_eq_getElem_cons h]
theorem sorP_next {D : List Plc} {lo k j : Nat} (h : lo + k < D.length) (hj : cutP (isP ((D.drop lo).take k)) D[lo + k] k = j) : onP (D.take lo) (isP ((D.drop lo).take k)) D[lo + k] (D.drop (lo + k + 1)) j = sorP D lo (k + 1) := by
  have hl : (isP ((D.drop lo).take k)).length = k := by rw [isP_len, List.length_take, List.length_drop]; omega
  have hk : k < (D.drop lo).length := by rw [List.length_drop]; omega
  unfold sorP
  rw [isP_take hk]
  have e : (D.drop lo)[k] = D[lo + k] := by rw [List.getElem_drop]
  rw [e]
  unfold putP onP
  rw [hl, hj]
  simp only [List.append_assoc, List.cons_append, Nat.add_assoc]
end Go.Proofs.Ytgblmkpfkcibiaa

namespace Go.Proofs.Ytgblmkpfkcibiaa
open Go.Hb
attribute [local irreducible] LR CW At Ev thn blk finK noG again CallsTo DW QL dnext TW DP gpost
set_option maxRecDepth 100000

set_option maxHeartbeats 2000000 in
theorem m127 (a : Option Addr) (c : Nat) (D : List Plc) (lo hi : Nat) (w : World) (h : (pN a D.length c D).holds w) (hlo : lo ≤ hi) (hhi : hi ≤ D.length) (hn : D.length ≤ 140737488355328) :
    CallsTo Try.prog 127 [.slice a D.length c, .int .i64 lo, .int .i64 hi, .func (.func 85) #[] #[]] w fun v w' => v = .tuple #[] ∧ Step (pN a D.length c D) (pN a D.length c (sorP D lo (hi - lo))) w w' := by
  have hS0 : St w (pN a D.length c D).foot [pN a D.length c D] w := St.one h (fun k hk => (World.ownsRow.lt h k hk).2) (osl.dep _ _ _ _ _)
  generalize hF : (pN a D.length c D).foot = F at *
  refine go_in (n := 53) hS0 Try.func127 rfl rfl ?_
  have hadd : ∀ k : Nat, ((lo : Int) + (k : Int)) = ((lo + k : Nat) : Int) := fun k => by omega
  repeat'(first|refine kv' ?_|apply jJ|refine jE' ?_|refine jp' ?_|(apply jc;kernel_rfl)|refine kg' ?_|refine kG' ?_|refine kB' fun _=>?_|refine kA' fun _=>?_|refine kK' fun _=>?_|refine kU' ?_|(apply addX;(iterate 2 exact rfl);(iterate 2(first|omega|(dsimp only;omega)));exact rfl)|((first|refine kR' ?_ ?_|refine kQ' ?_ ?_);all_goals(intro hc;try simp only[hcs]at hc;try(exfalso;first|contradiction|omega))))
  apply CW.loop [8, 9, 12, 13, 14, 15, 16, 17, 18, 19, 20, 21, 22, 23, 24, 25, 26, 27, 28, 29, 30, 31, 32, 33, 34, 35, 36, 37, 38, 39, 40, 41, 42, 43, 44, 45, 46, 47, 48, 49, 50, 51, 52] (fun k : Nat => 1 ≤ k ∧ (k ≤ hi - lo ∨ k = 1)) (fun k => [(8, .int .i64 ((lo + k : Nat) : Int))])
    (fun k => St w F [pN a D.length c (sorP D lo k)]) (fun k => hi - lo - k)
  · refine fun w' hw' => ⟨1, ⟨by omega, .inr rfl⟩, ⟨?_, trivial⟩, ?_⟩
    · exact congrArg (Value.int .i64) (by omega)
    · rcases Nat.lt_or_ge lo D.length with hl | hl
      · rw [sorP_one D hl]; exact hw'
      · have e : sorP D lo 1 = D := by
          unfold sorP
          rw [List.drop_of_length_le hl, List.drop_of_length_le (by omega), List.take_of_length_le hl]
          simp [isP]
        rw [e]; exact hw'
  rintro k g1 ⟨hk1, hk2⟩
  by_cases hlt : lo + k < hi
  · have hlk : lo + k < D.length := by omega
    refine CW_fact (φ := ∃ ba oa, a = some ⟨ba, oa, none⟩) (fun w1 hw1 => (ownsRow_rd (hw1.holds (pN a D.length c (sorP D lo k)) memZ)).form (fun e => by have h1 := congrArg List.length e; rw [pcs_length, sorP_len D (by omega), List.length_nil] at h1; omega)) ?_
    rintro ⟨ba, oa, rfl⟩
    obtain ⟨A, hA⟩ : ∃ A, A = D.take lo := ⟨_, rfl⟩
    obtain ⟨S, hSS⟩ : ∃ S, S = isP ((D.drop lo).take k) := ⟨_, rfl⟩
    obtain ⟨R, hR⟩ : ∃ R, R = D.drop (lo + k + 1) := ⟨_, rfl⟩
    obtain ⟨x, hx⟩ : ∃ x, x = D[lo + k] := ⟨_, rfl⟩
    have hon := sorP_on hlk
    have hne : ∀ j, cutP (isP ((D.drop lo).take k)) D[lo + k] k = j → _ := fun j hj => sorP_next hlk hj
    rw [← hA, ← hSS, ← hR, ← hx] at hon
    rw [← hA, ← hSS, ← hR, ← hx] at hne
    have hAl : A.length = lo := by rw [hA, List.length_take]; omega
    have hSl : S.length = k := by rw [hSS, isP_len, List.length_take, List.length_drop]; omega
    have hRl : R.length = D.length - (lo + k + 1) := by rw [hR, List.length_drop]
    rw [hon]
    repeat'(first|refine kv' ?_|apply jJ|refine jE' ?_|refine jp' ?_|(apply jc;kernel_rfl)|refine kg' ?_|refine kG' ?_|refine kB' fun _=>?_|refine kA' fun _=>?_|refine kK' fun _=>?_|refine kU' ?_|((first|refine kR' ?_ ?_|refine kQ' ?_ ?_);all_goals(intro hc;try simp only[hcs]at hc;try(exfalso;first|contradiction|omega))))
    apply CW.loop [9, 18, 19, 20, 21, 22, 23, 24, 25, 26, 27, 28, 29, 30, 31, 32, 33, 34, 35, 36, 37, 38, 39, 40, 41, 42, 43, 44, 45, 46, 47, 48, 49, 50, 51, 52] (fun j : Nat => j ≤ k ∧ cutP S x k = cutP S x j) (fun j => [(9, .int .i64 ((lo + j : Nat) : Int))])
      (fun j => St w F [pN (some ⟨ba, oa, none⟩) D.length c (onP A S x R j)]) (fun j => j)
    · exact fun w' hw' => ⟨k, ⟨by omega, rfl⟩, ⟨rfl, trivial⟩, hw'⟩
    rintro j g2 ⟨hj, hcut⟩
    cases j with
    | zero =>
      have hc0 : cutP S x k = 0 := hcut
      repeat'(first|(apply CW.reg_heldC)|refine kv' ?_|apply jJ|refine jE' ?_|refine jp' ?_|(apply jc;kernel_rfl)|refine kg' ?_|refine kG' ?_|refine kB' fun _=>?_|refine kA' fun _=>?_|refine kK' fun _=>?_|refine kU' ?_|((first|refine kR' ?_ ?_|refine kQ' ?_ ?_);all_goals(intro hc;try simp only[hcs]at hc;try(exfalso;first|contradiction|omega))))
      all_goals (
        apply DW.quiet [0, 1, 2, 3, 4, 5, 6, 7, 8, 9, 10, 11, 12, 13]
        · decide +kernel
        · first | exact fun _ h => h | exact fun _ h => St.sub h subZ
        repeat'(first|refine yv' ?_|refine uv' ?_|refine un' ?_|(refine us' ?_ ?_;all_goals(intro hc;try simp only[hcs]at hc;try(exfalso;first|contradiction|omega)))|apply QL.nil)
        all_goals (show DW _ _ _ _ _ _ _ _))
      all_goals (
        apply DW.loud 14
        · exact rfl
        · decide +kernel
        repeat'(first|refine kg' ?_|refine kG' ?_|apply kM|refine kv' ?_|refine kK' fun _=>?_|refine kU' ?_|refine kB' fun _=>?_|refine kA' fun _=>?_)
        all_goals (refine At.stage_same (fun _ h => St.sub h subZ) ?_))
      all_goals (
        apply DW.quiet [15, 16]
        · decide +kernel
        · first | exact fun _ h => h | exact fun _ h => St.sub h subZ
        repeat'(first|refine yv' ?_|refine uv' ?_|refine un' ?_|(refine us' ?_ ?_;all_goals(intro hc;try simp only[hcs]at hc;try(exfalso;first|contradiction|omega)))|apply QL.nil)
        all_goals (show DW _ _ _ _ _ _ _ _))
      all_goals (first | (apply DW.done_thn; (· decide +kernel)) | (apply DW.done; (· decide +kernel)))
      repeat'(first|refine kv' ?_|apply jJ|refine jE' ?_|refine jp' ?_|(apply jc;kernel_rfl)|refine kg' ?_|refine kG' ?_|refine kB' fun _=>?_|refine kA' fun _=>?_|refine kK' fun _=>?_|refine kU' ?_|(apply addX;(iterate 2 exact rfl);(iterate 2(first|omega|(dsimp only;omega)));exact rfl)|((first|refine kR' ?_ ?_|refine kQ' ?_ ?_);all_goals(intro hc;try simp only[hcs]at hc;try(exfalso;first|contradiction|omega))))
      refine At.again (k + 1) ⟨by omega, .inl (by omega)⟩ ?_ ⟨?_, trivial⟩ (fun w' hw' => ?_) (by omega)
      · (repeat (first | exact Out.refl _ _ | exact Out.mix | (apply Out.upd; (· exact rfl)) | (apply Out.updL; (· exact rfl)) | (apply Out.mixs; (· exact rfl))))
      · exact congrArg (Value.int .i64) (by omega)
      · rw [← hne 0 hc0]; exact hw'
    | succ j =>
      have hjS : j < S.length := by omega
      obtain ⟨y, hy⟩ : ∃ y, S[j] = y := ⟨_, rfl⟩
      have hat1 := onP_at A S R x (j := j + 1) (by omega)
      have hat0 := onP_before A S R x hjS
      have hsw := onP_swap A S R x hjS
      have hol := onP_len A S R x (j := j + 1) (by omega)
      rw [hy] at hat0 hsw
      rw [hAl] at hat1 hat0 hsw
      have hcc : cutP S x (j + 1) = if x.ring < y.ring then cutP S x j else j + 1 := by
        show (if x.ring < (S.getD j zP).ring then cutP S x j else j + 1) = _
        rw [List.getD_eq_getElem?_getD, List.getElem?_eq_getElem hjS, hy]; rfl
      repeat'(first|(apply CW.reg_heldC)|refine kv' ?_|apply jJ|refine jE' ?_|refine jp' ?_|(apply jc;kernel_rfl)|refine kg' ?_|refine kG' ?_|refine kB' fun _=>?_|refine kA' fun _=>?_|refine kK' fun _=>?_|refine kU' ?_|((first|refine kR' ?_ ?_|refine kQ' ?_ ?_);all_goals(intro hc;try simp only[hcs]at hc;try(exfalso;first|contradiction|omega))))
      all_goals (
        apply DW.quiet [0, 1, 2, 3, 4, 5, 6, 7, 8, 9, 10, 11, 12, 13]
        · decide +kernel
        · first | exact fun _ h => h | exact fun _ h => St.sub h subZ
        repeat'(first|refine yv' ?_|(first | (apply QL.evg; (iterate 3 exact rfl); (· first | (apply Ev.indexAddr; (· exact rfl); (· exact rfl); (· omega); (· omega)) | (apply Ev.load_agg_at (cs := Plc.cells x); (· exact rfl); (· exact rfl); (· intro w' hw'; refine pcs_cell (hw'.rd_of_own memZ) hat1 ?_; (· omega))) | (apply Ev.load_agg_at (cs := Plc.cells y); (· exact rfl); (· exact rfl); (· intro w' hw'; refine pcs_cell (hw'.rd_of_own memZ) hat0 ?_; (· omega))) | (apply Ev.sub; (· exact rfl); (· exact rfl); (· omega); (· omega))); (· exact rfl)))|refine uv' ?_|refine un' ?_|(refine us' ?_ ?_;all_goals(intro hc;try simp only[hcs]at hc;try(exfalso;first|contradiction|omega)))|apply QL.nil)
        all_goals (show DW _ _ _ _ _ _ _ _))
      all_goals (
        apply DW.loud 14
        · exact rfl
        · decide +kernel
        repeat'(first|refine kg' ?_|refine kG' ?_|apply kM|refine kv' ?_|refine kK' fun _=>?_|refine kU' ?_|refine kB' fun _=>?_|refine kA' fun _=>?_|(apply LR.qcall_val (g := 85) (cap := []) (v := .int .i64 (cmpM x.ring y.ring)); (· exact rfl); (· exact rfl); (· intro w1 h1; exact CallsTo.q (m85 x y w1) h1)))
        all_goals (refine At.stage_same (fun _ h => St.sub h subZ) ?_))
      all_goals (
        apply DW.quiet [15, 16]
        · decide +kernel
        · first | exact fun _ h => h | exact fun _ h => St.sub h subZ
        repeat'(first|refine yv' ?_|(first | (apply QL.evg; (iterate 3 exact rfl); (· first | (apply Ev.indexAddr; (· exact rfl); (· exact rfl); (· omega); (· omega)) | (apply Ev.load_agg_at (cs := Plc.cells x); (· exact rfl); (· exact rfl); (· intro w' hw'; refine pcs_cell (hw'.rd_of_own memZ) hat1 ?_; (· omega))) | (apply Ev.load_agg_at (cs := Plc.cells y); (· exact rfl); (· exact rfl); (· intro w' hw'; refine pcs_cell (hw'.rd_of_own memZ) hat0 ?_; (· omega))) | (apply Ev.sub; (· exact rfl); (· exact rfl); (· omega); (· omega))); (· exact rfl)))|refine uv' ?_|refine un' ?_|(refine us' ?_ ?_;all_goals(intro hc;try simp only[hcs]at hc;try(exfalso;first|contradiction|omega)))|apply QL.nil)
        all_goals (show DW _ _ _ _ _ _ _ _))
      all_goals (first | (apply DW.done_thn; (· decide +kernel)) | (apply DW.done; (· decide +kernel)))
      rw [show decide (cmpM x.ring y.ring < 0) = decide (x.ring < y.ring) by
        rw [decide_eq_decide]; unfold cmpM; split <;> (try split) <;> omega]
      by_cases hlt2 : x.ring < y.ring
      · rw [if_pos hlt2] at hcc
        rw [decide_eq_true hlt2]
        repeat'(first|(apply CW.reg_held (fun _ => True))|refine kv' ?_|apply jJ|refine jE' ?_|refine jp' ?_|(apply jc;kernel_rfl)|refine kg' ?_|refine kG' ?_|refine kB' fun _=>?_|refine kA' fun _=>?_|refine kK' fun _=>?_|refine kU' ?_|((first|refine kR' ?_ ?_|refine kQ' ?_ ?_);all_goals(intro hc;try simp only[hcs]at hc;try(exfalso;first|contradiction|omega))))
        apply DW.quiet [2, 3, 4]
        · decide +kernel
        · exact fun _ _ => trivial
        repeat'(first|refine yv' ?_|((apply QL.ev; (· exact rfl); (· apply Ev.sub; (· exact rfl); (· exact rfl); (· omega); (· omega)); (· exact rfl)))|refine uv' ?_|refine un' ?_|(refine us' ?_ ?_;all_goals(intro hc;try simp only[hcs]at hc;try(exfalso;first|contradiction|omega)))|apply QL.nil)
        apply DW.gate 15 [15, 16, 17] [0, 1, 5, 6, 7, 8, 9, 10, 11, 12, 13, 14] (St w F [pN (some ⟨ba, oa, none⟩) D.length c (onP A S x R (j + 1))])
        · decide +kernel
        · exact fun _ _ => trivial
        · decide +kernel
        apply DW.quiet [0, 1, 5, 6, 7, 8, 9, 10, 11, 12, 13, 14]
        · decide +kernel
        · exact fun _ h => h
        repeat'(first|refine yv' ?_|((apply QL.ev; (· exact rfl); (· first | (apply Ev.indexAddr; (· exact rfl); (· exact rfl); (· omega); (· omega)) | (apply Ev.load_agg_at (cs := Plc.cells x); (· exact rfl); (· exact rfl); (· intro w' hw'; refine pcs_cell (hw'.rd_of_own memZ) hat1 ?_; (· omega))) | (apply Ev.load_agg_at (cs := Plc.cells y); (· exact rfl); (· exact rfl); (· intro w' hw'; refine pcs_cell (hw'.rd_of_own memZ) hat0 ?_; (· omega))) | (apply Ev.sub; (· exact rfl); (· exact rfl); (· omega); (· omega))); (· exact rfl)))|refine uv' ?_|refine un' ?_|(refine us' ?_ ?_;all_goals(intro hc;try simp only[hcs]at hc;try(exfalso;first|contradiction|omega)))|apply QL.nil)
        apply DW.done
        · decide +kernel
        apply At.gate
        apply DW.loud 15
        · exact rfl
        · decide +kernel
        refine LR.store_obj rfl rfl (Sel.head _ _ _) rfl (put_plc (l := onP A S x R (j + 1)) y (k := lo + j + 1) (by omega) (by omega)) (osl.dep _ _ _ _ _) ?_
        apply kM
        apply At.stage_any
        apply DW.quiet [16]
        · decide +kernel
        · exact fun _ _ => trivial
        repeat'(first|refine yv' ?_|((apply QL.ev; (· exact rfl); (· apply Ev.indexAddr; (· exact rfl); (· exact rfl); (· omega); (· omega)); (· exact rfl)))|refine uv' ?_|refine un' ?_|(refine us' ?_ ?_;all_goals(intro hc;try simp only[hcs]at hc;try(exfalso;first|contradiction|omega)))|apply QL.nil)
        apply DW.loud 17
        · exact rfl
        · decide +kernel
        refine LR.store_obj rfl rfl (Sel.head _ _ _) rfl (put_plc (l := (onP A S x R (j + 1)).set (lo + j + 1) y) x (k := lo + j) (by rw [List.length_set]; omega) (by omega)) (osl.dep _ _ _ _ _) ?_
        apply kM
        apply At.stage_any
        apply DW.done
        · decide +kernel
        rw [hsw]
        repeat'(first|refine kv' ?_|apply jJ|refine jE' ?_|refine jp' ?_|(apply jc;kernel_rfl)|refine kg' ?_|refine kG' ?_|refine kB' fun _=>?_|refine kA' fun _=>?_|refine kK' fun _=>?_|refine kU' ?_|(apply subX;(iterate 2 exact rfl);(iterate 2(first|omega|(dsimp only;omega)));exact rfl)|((first|refine kR' ?_ ?_|refine kQ' ?_ ?_);all_goals(intro hc;try simp only[hcs]at hc;try(exfalso;first|contradiction|omega))))
        refine At.again j ⟨by omega, by rw [hcut, hcc]⟩ ?_ ⟨?_, trivial⟩ (fun w' hw' => hw') (by omega)
        · (repeat (first | exact Out.refl _ _ | exact Out.mix | (apply Out.upd; (· exact rfl)) | (apply Out.updL; (· exact rfl)) | (apply Out.mixs; (· exact rfl))))
        · exact congrArg (Value.int .i64) (by omega)
      · rw [if_neg hlt2] at hcc
        rw [decide_eq_false hlt2]
        repeat'(first|refine kv' ?_|apply jJ|refine jE' ?_|refine jp' ?_|(apply jc;kernel_rfl)|refine kg' ?_|refine kG' ?_|refine kB' fun _=>?_|refine kA' fun _=>?_|refine kK' fun _=>?_|refine kU' ?_|(apply addX;(iterate 2 exact rfl);(iterate 2(first|omega|(dsimp only;omega)));exact rfl)|((first|refine kR' ?_ ?_|refine kQ' ?_ ?_);all_goals(intro hc;try simp only[hcs]at hc;try(exfalso;first|contradiction|omega))))
        refine At.again (k + 1) ⟨by omega, .inl (by omega)⟩ ?_ ⟨?_, trivial⟩ (fun w' hw' => ?_) (by omega)
        · (repeat (first | exact Out.refl _ _ | exact Out.mix | (apply Out.upd; (· exact rfl)) | (apply Out.updL; (· exact rfl)) | (apply Out.mixs; (· exact rfl))))
        · exact congrArg (Value.int .i64) (by omega)
        · rw [← hne (j + 1) (hcut.trans hcc)]; exact hw'
  · have hkk : sorP D lo k = sorP D lo (hi - lo) := by
      rcases hk2 with h1 | h1
      · rw [show k = hi - lo by omega]
      · subst h1
        rcases Nat.lt_or_ge lo hi with h2 | h2
        · rw [show hi - lo = 1 by omega]
        · have e : hi = lo := by omega
          subst e
          rw [Nat.sub_self]
          rcases Nat.lt_or_ge hi D.length with hl | hl
          · rw [sorP_one D hl]
            unfold sorP
            simp [isP]
          · unfold sorP
            rw [List.drop_of_length_le hl, List.drop_of_length_le (by omega), List.drop_of_length_le (by omega)]
            simp [isP]
    repeat'(first|refine kv' ?_|apply jJ|refine jE' ?_|refine jp' ?_|(apply jc;kernel_rfl)|refine kg' ?_|refine kG' ?_|refine kB' fun _=>?_|refine kA' fun _=>?_|refine kK' fun _=>?_|refine kU' ?_|((first|refine kR' ?_ ?_|refine kQ' ?_ ?_);all_goals(intro hc;try simp only[hcs]at hc;try(exfalso;first|contradiction|omega))))
    apply end0; (· exact rfl); intro w' hS
    rw [hkk] at hS
    subst hF
    exact ⟨rfl, hS.step rfl⟩
end Go.Proofs.Ytgblmkpfkcibiaa

namespace Go.Proofs.Ytgblmkpfkcibiaa
open Go.Hb
attribute [local irreducible] LR CW At Ev thn blk finK noG again CallsTo DW QL dnext TW DP gpost
set_option maxRecDepth 100000

theorem sorP_all (D : List Plc) : sorP D 0 (D.length - 0) = isP D := by
  unfold sorP
  rw [Nat.sub_zero, List.drop_zero, List.take_length, Nat.zero_add, List.drop_length, List.append_nil]
  rfl
def SortTo (N : Nat) : Prop := ∀ (a : Option Addr) (c : Nat) (D : List Plc) (w : World), (pN a D.length c D).holds w → D.length ≤ N →
  CallsTo Try.prog 56 [.slice a D.length c] w fun v w' => v = .slice a D.length c ∧ Step (pN a D.length c D) (pN a D.length c (isP D)) w w'
set_option maxHeartbeats 1000000 in
theorem m109s (a : Option Addr) (c : Nat) (D : List Plc) (w : World) (h : (pN a D.length c D).holds w) (hn : D.length ≤ 19) :
    CallsTo Try.prog 109 [.slice a D.length c, .int .i64 D.length, .func (.func 85) #[] #[]] w fun v w' => v = .tuple #[] ∧ Step (pN a D.length c D) (pN a D.length c (isP D)) w w' := by
  have hS0 : St w (pN a D.length c D).foot [pN a D.length c D] w := St.one h (fun k hk => (World.ownsRow.lt h k hk).2) (osl.dep _ _ _ _ _)
  generalize hF : (pN a D.length c D).foot = F at *
  refine go_in (n := 63) hS0 Try.func109 rfl rfl ?_
  repeat'(first|refine kv' ?_|apply jJ|refine jE' ?_|refine jp' ?_|(apply jc;kernel_rfl)|refine kg' ?_|refine kG' ?_|refine kB' fun _=>?_|refine kA' fun _=>?_|refine kK' fun _=>?_|refine kU' ?_|((first|refine kR' ?_ ?_|refine kQ' ?_ ?_);all_goals(intro hc;try simp only[hcs]at hc;try(exfalso;first|contradiction|omega))))
  apply CW.loop [7, 8, 11, 12, 13, 14, 15, 16, 17, 18, 19, 20, 21, 22] (fun _ : Nat => True) (fun _ => [(6, .int .i64 20), (7, .int .i64 0), (8, .int .i64 20)]) (fun _ => St w F [pN a D.length c D]) (fun i => i)
  · exact fun w' hw' => ⟨0, trivial, ⟨rfl, rfl, rfl, trivial⟩, hw'⟩
  intro i g1 _
  repeat'(first|refine kv' ?_|apply jJ|refine jE' ?_|refine jp' ?_|(apply jc;kernel_rfl)|refine kg' ?_|refine kG' ?_|refine kB' fun _=>?_|refine kA' fun _=>?_|refine kK' fun _=>?_|refine kU' ?_|((first|refine kR' ?_ ?_|refine kQ' ?_ ?_);all_goals(intro hc;try simp only[hcs]at hc;try(exfalso;first|contradiction|omega))))
  apply LR.call
  · exact rfl
  intro w1 h1
  refine CallsTo.mono (show CallsTo Try.prog 127 [.slice a D.length c, .int .i64 0, .int .i64 D.length, .func (.func 85) #[] #[]] w1 _ from m127 a c D 0 D.length w1 (h1.holds (pN a D.length c D) memZ) (by omega) (by omega) (by omega)) ?_
  rintro v w2 ⟨rfl, st⟩
  rw [sorP_all] at st
  refine LR.back (h1.did selZ rfl st (osl.dep _ _ _ _ _)) ?_
  clear st h1
  repeat'(first|refine kv' ?_|apply jJ|refine jE' ?_|refine jp' ?_|(apply jc;kernel_rfl)|refine kg' ?_|refine kG' ?_|refine kB' fun _=>?_|refine kA' fun _=>?_|refine kK' fun _=>?_|refine kU' ?_|((first|refine kR' ?_ ?_|refine kQ' ?_ ?_);all_goals(intro hc;try simp only[hcs]at hc;try(exfalso;first|contradiction|omega))))
  apply CW.loop [6, 7, 8, 9, 28, 29, 30, 31, 32, 33, 34, 35, 36, 37, 38, 39, 40, 41, 42, 43, 44, 45, 46, 47, 48, 49, 50, 51, 52, 53, 54, 55, 56, 57, 58, 59, 60, 61, 62] (fun _ : Nat => True) (fun _ => [(6, .int .i64 20)]) (fun _ => St w F [pN a D.length c (isP D)]) (fun i => i)
  · exact fun w' hw' => ⟨0, trivial, ⟨rfl, trivial⟩, hw'⟩
  intro i g2 _
  repeat'(first|refine kv' ?_|apply jJ|refine jE' ?_|refine jp' ?_|(apply jc;kernel_rfl)|refine kg' ?_|refine kG' ?_|refine kB' fun _=>?_|refine kA' fun _=>?_|refine kK' fun _=>?_|refine kU' ?_|((first|refine kR' ?_ ?_|refine kQ' ?_ ?_);all_goals(intro hc;try simp only[hcs]at hc;try(exfalso;first|contradiction|omega))))
  apply end0; (· exact rfl); intro w' hS
  subst hF
  exact ⟨rfl, hS.step rfl⟩
theorem sortTo_of {N : Nat} (hs : ∀ (a : Option Addr) (c : Nat) (D : List Plc) (w : World), (pN a D.length c D).holds w → D.length ≤ N →
    CallsTo Try.prog 109 [.slice a D.length c, .int .i64 D.length, .func (.func 85) #[] #[]] w fun v w' => v = .tuple #[] ∧ Step (pN a D.length c D) (pN a D.length c (isP D)) w w') : SortTo N := by
  intro a c D w h hn
  have hS0 : St w (pN a D.length c D).foot [pN a D.length c D] w := St.one h (fun k hk => (World.ownsRow.lt h k hk).2) (osl.dep _ _ _ _ _)
  generalize hF : (pN a D.length c D).foot = F at *
  refine go_in (n := 6) hS0 Try.func56 rfl rfl ?_
  repeat'(first|refine kv' ?_|apply jJ|refine jE' ?_|refine jp' ?_|(apply jc;kernel_rfl)|refine kg' ?_|refine kG' ?_|refine kB' fun _=>?_|refine kA' fun _=>?_|refine kK' fun _=>?_|refine kU' ?_|((first|refine kR' ?_ ?_|refine kQ' ?_ ?_);all_goals(intro hc;try simp only[hcs]at hc;try(exfalso;first|contradiction|omega))))
  apply LR.call
  · exact rfl
  intro w1 h1
  have h84 : CallsTo Try.prog 84 [.slice a D.length c, .func (.func 85) #[] #[]] w1 fun v w' => v = .tuple #[] ∧ Step (pN a D.length c D) (pN a D.length c (isP D)) w1 w' := by
    have hh : (pN a D.length c D).holds w1 := h1.holds (pN a D.length c D) memZ
    have hS0 : St w1 (pN a D.length c D).foot [pN a D.length c D] w1 := St.one hh (fun k hk => (World.ownsRow.lt hh k hk).2) (osl.dep _ _ _ _ _)
    rw [hF] at hS0
    refine go_in (n := 9) hS0 Try.func84 rfl rfl ?_
    repeat'(first|refine kv' ?_|apply jJ|refine jE' ?_|refine jp' ?_|(apply jc;kernel_rfl)|refine kg' ?_|refine kG' ?_|refine kB' fun _=>?_|refine kA' fun _=>?_|refine kK' fun _=>?_|refine kU' ?_|((first|refine kR' ?_ ?_|refine kQ' ?_ ?_);all_goals(intro hc;try simp only[hcs]at hc;try(exfalso;first|contradiction|omega))))
    apply LR.call
    · exact rfl
    intro w3 h3
    refine CallsTo.mono (show CallsTo Try.prog 109 [.slice a D.length c, .int .i64 D.length, .func (.func 85) #[] #[]] w3 _ from hs a c D w3 (h3.holds (pN a D.length c D) memZ) hn) ?_
    rintro v w4 ⟨rfl, st⟩
    refine LR.back (h3.did selZ rfl st (osl.dep _ _ _ _ _)) ?_
    clear st h3
    repeat'(first|refine kv' ?_|apply jJ|refine jE' ?_|refine jp' ?_|(apply jc;kernel_rfl)|refine kg' ?_|refine kG' ?_|refine kB' fun _=>?_|refine kA' fun _=>?_|refine kK' fun _=>?_|refine kU' ?_|((first|refine kR' ?_ ?_|refine kQ' ?_ ?_);all_goals(intro hc;try simp only[hcs]at hc;try(exfalso;first|contradiction|omega))))
    apply end0; (· exact rfl); intro w' hS
    refine ⟨rfl, ?_⟩
    rw [← hF] at hS
    exact hS.step rfl
  refine h84.mono ?_
  rintro v w2 ⟨rfl, st⟩
  refine LR.back (h1.did selZ rfl st (osl.dep _ _ _ _ _)) ?_
  clear st h1 h84
  repeat'(first|refine kv' ?_|apply jJ|refine jE' ?_|refine jp' ?_|(apply jc;kernel_rfl)|refine kg' ?_|refine kG' ?_|refine kB' fun _=>?_|refine kA' fun _=>?_|refine kK' fun _=>?_|refine kU' ?_|((first|refine kR' ?_ ?_|refine kQ' ?_ ?_);all_goals(intro hc;try simp only[hcs]at hc;try(exfalso;first|contradiction|omega))))
  (apply ret1; (· exact rfl); intro w' hS)
  subst hF
  exact ⟨rfl, hS.step rfl⟩
theorem sort_few : SortTo 19 := sortTo_of m109s
end Go.Proofs.Ytgblmkpfkcibiaa

namespace Go.Proofs.Ytgblmkpfkcibiaa
open Go.Hb

theorem putP_perm (l : List Plc) (x : Plc) : (putP l x).Perm (x :: l) := by
  unfold putP
  have h : (l.take (cutP l x l.length) ++ x :: l.drop (cutP l x l.length)).Perm (x :: (l.take (cutP l x l.length) ++ l.drop (cutP l x l.length))) := List.perm_middle
  rwa [List.take_append_drop] at h
theorem isP_perm (l : List Plc) : (isP l).Perm l := by
  have : ∀ (l m : List Plc), (l.foldl putP m).Perm (m ++ l) := by
    intro l
    induction l with
    | nil => intro m; rw [List.append_nil]; exact List.Perm.refl _
    | cons x r ih =>
      intro m
      rw [List.foldl_cons]
      refine (ih _).trans ?_
      refine ((putP_perm m x).append_right r).trans ?_
      exact (List.perm_middle (a := x) (l₁ := m) (l₂ := r)).symm
  simpa [isP] using this l []
theorem cutP_spec (l : List Plc) (x : Plc) : ∀ k, k ≤ l.length → (∀ i, cutP l x k ≤ i → i < k → x.ring < (l.getD i zP).ring) ∧ (0 < cutP l x k → (l.getD (cutP l x k - 1) zP).ring ≤ x.ring)
  | 0, _ => ⟨fun i h1 h2 => by omega, fun h => by simp [cutP] at h⟩
  | k + 1, hk => by
    have ih := cutP_spec l x k (by omega)
    by_cases h : x.ring < (l.getD k zP).ring
    · have e : cutP l x (k + 1) = cutP l x k := by rw [cutP, if_pos h]
      rw [e]
      refine ⟨fun i h1 h2 => ?_, ih.2⟩
      by_cases hi : i = k
      · subst hi; exact h
      · exact ih.1 i h1 (by omega)
    · have e : cutP l x (k + 1) = k + 1 := by rw [cutP, if_neg h]
      rw [e]
      exact ⟨fun i h1 h2 => by omega, fun _ => by rw [Nat.add_sub_cancel]; omega⟩
def SorP (l : List Plc) : Prop := l.Pairwise fun a b => a.ring ≤ b.ring
theorem getD_plc (l : List Plc) {i : Nat} (h : i < l.length) : l.getD i zP = l[i] := by rw [List.getD_eq_getElem?_getD, List.getElem?_eq_getElem h]; rfl
theorem putP_sor {l : List Plc} (x : Plc) (h : SorP l) : SorP (putP l x) := by
  have hsp := cutP_spec l x l.length (Nat.le_refl _)
  have hle := cutP_le l x l.length
  unfold SorP putP at *
  generalize cutP l x l.length = c at *
  have hs := List.pairwise_iff_getElem.1 h
  rw [List.pairwise_append, List.pairwise_cons]
  refine ⟨h.sublist (List.take_sublist _ _), ⟨fun y hy => ?_, h.sublist (List.drop_sublist _ _)⟩, fun a ha b hb => ?_⟩
  · obtain ⟨i, hi, rfl⟩ := List.getElem_of_mem hy
    rw [List.length_drop] at hi
    rw [List.getElem_drop]
    have := hsp.1 (c + i) (by omega) (by omega)
    rw [getD_plc l (by omega)] at this
    omega
  · obtain ⟨i, hi, rfl⟩ := List.getElem_of_mem ha
    rw [List.length_take] at hi
    rw [List.getElem_take]
    rcases List.mem_cons.1 hb with rfl | hb
    · have h1 := hsp.2 (by omega)
      rw [getD_plc l (by omega)] at h1
      by_cases hic : i = c - 1
      · subst hic; exact h1
      · have := hs i (c - 1) (by omega) (by omega) (by omega)
        omega
    · obtain ⟨j, hj, rfl⟩ := List.getElem_of_mem hb
      rw [List.length_drop] at hj
      rw [List.getElem_drop]
      exact hs i (c + j) (by omega) (by omega) (by omega)
theorem isP_sor (l : List Plc) : SorP (isP l) := by
  have : ∀ (l m : List Plc), SorP m → SorP (l.foldl putP m) := by
    intro l
    induction l with
    | nil => intro m h; exact h
    | cons x r ih => intro m h; exact ih _ (putP_sor x h)
  exact this l [] List.Pairwise.nil
def plcK (K : List Plc) (r : Int) : Option Plc := K.find? fun x => decide (x.ring = r)
theorem plcK_ring {K : List Plc} {r : Int} {x : Plc} (h : plcK K r = some x) : x.ring = r := by
  unfold plcK at h; simpa using List.find?_some h
def leftS (l : List (Int × Plc)) (x : Plc) : List (Int × Plc) := if l.any (fun q => decide (q.1 = x.ring)) then l else l ++ [(x.ring, x)]
def leftL (K : List Plc) : List (Int × Plc) := K.foldl leftS []
def assoc (l : List (Int × Plc)) (r : Int) : Option Plc := (l.find? fun q => decide (q.1 = r)).map Prod.snd
structure LeftOk (K : List Plc) (l : List (Int × Plc)) : Prop where
  nd : (l.map Prod.fst).Nodup
  eq : ∀ r, assoc l r = plcK K r
theorem find_none {l : List (Int × Plc)} {r : Int} : l.find? (fun q => decide (q.1 = r)) = none ↔ l.any (fun q => decide (q.1 = r)) = false := by
  rw [List.find?_eq_none, List.any_eq_false]
theorem left_ok : ∀ (L K : List Plc) (l : List (Int × Plc)), LeftOk K l → LeftOk (K ++ L) (L.foldl leftS l)
  | [], K, l, h => by rwa [List.append_nil]
  | x :: r, K, l, h => by
    have : LeftOk (K ++ [x]) (leftS l x) := by
      unfold leftS
      cases ha : l.any (fun q => decide (q.1 = x.ring)) with
      | true =>
        rw [if_pos rfl]
        refine ⟨h.nd, fun s => ?_⟩
        rw [h.eq]
        unfold plcK
        rw [List.find?_append]
        cases hf : K.find? (fun x => decide (x.ring = s)) with
        | some y => rfl
        | none =>
          by_cases hs : x.ring = s
          · exfalso
            have h2 := h.eq s
            unfold plcK at h2
            rw [hf] at h2
            unfold assoc at h2
            rw [Option.map_eq_none_iff, find_none] at h2
            rw [hs, h2] at ha
            cases ha
          · simp [hs]
      | false =>
        rw [if_neg (by simp)]
        refine ⟨?_, fun s => ?_⟩
        · rw [List.map_append, List.nodup_append]
          refine ⟨h.nd, by simp, fun a ha' b hb e => ?_⟩
          simp only [List.map_cons, List.map_nil, List.mem_singleton] at hb
          obtain ⟨q, hq, rfl⟩ := List.mem_map.1 ha'
          have := List.any_eq_false.1 ha q hq
          simp at this
          exact this (by rw [e, hb])
        · have h2 := h.eq s
          unfold assoc plcK at *
          rw [List.find?_append, List.find?_append, ← h2]
          cases hf : l.find? (fun q => decide (q.1 = s)) with
          | some y => rfl
          | none => by_cases hs : x.ring = s <;> simp [hs]
    have := left_ok r (K ++ [x]) _ this
    rw [List.append_assoc] at this
    exact this
theorem leftL_ok (K : List Plc) : LeftOk K (leftL K) := left_ok K [] [] ⟨List.nodup_nil, fun r => rfl⟩
theorem leftL_len (K : List Plc) : (leftL K).length ≤ K.length := by
  have : ∀ (L : List Plc) (l : List (Int × Plc)), (L.foldl leftS l).length ≤ l.length + L.length := by
    intro L
    induction L with
    | nil => intro l; simp
    | cons x r ih =>
      intro l
      rw [List.foldl_cons]
      have h1 := ih (leftS l x)
      have h2 : (leftS l x).length ≤ l.length + 1 := by unfold leftS; split <;> simp
      rw [List.length_cons]
      omega
  have h := this K []
  simpa [leftL] using h
def farD (p : List Int × List Gat) (n r : Int) : Int := (farT p.1 p.2 n r).getD 0
def stepsR (p : List Int × List Gat) (K : List Plc) (a b : Int) : Bool := match plcK K a, plcK K b with
  | some x, some y => (List.range 8).any fun i => decide (farT p.1 p.2 ((i + 1 : Nat) : Int) a = some b) && (hasC x.members ((i + 1 : Nat) : Int) && hasC y.members ((i + 1 : Nat) : Int))
  | _, _ => false
inductive Rch (st : Int → Int → Bool) (a : Int) : Int → Prop
  | refl : Rch st a a
  | step {b c : Int} (h : Rch st a b) (hs : st b c = true) : Rch st a c
theorem Rch.trans {st : Int → Int → Bool} {a b c : Int} (h : Rch st a b) (h2 : Rch st b c) : Rch st a c := by
  induction h2 with
  | refl => exact h
  | step _ hs ih => exact ih.step hs
abbrev SV : Type := List Plc × List (Int × Plc)
def dfsP (p : List Int × List Gat) : Nat → Plc → SV → SV
  | 0, _, s => s
  | k + 1, x, s => (gwsT p.1 p.2 x.ring).foldl (fun s n => match assoc s.2 (farD p n x.ring) with
    | some y => if hasC x.members n && hasC y.members n then dfsP p k y s else s
    | none => s) (s.1 ++ [x], s.2.filter fun q => decide (q.1 ≠ x.ring))
def dStep (p : List Int × List Gat) (k : Nat) (x : Plc) (s : SV) (n : Int) : SV := match assoc s.2 (farD p n x.ring) with
  | some y => if hasC x.members n && hasC y.members n then dfsP p k y s else s
  | none => s
theorem dfsP_succ (p : List Int × List Gat) (k : Nat) (x : Plc) (s : SV) : dfsP p (k + 1) x s = (gwsT p.1 p.2 x.ring).foldl (dStep p k x) (s.1 ++ [x], s.2.filter fun q => decide (q.1 ≠ x.ring)) := rfl
structure InvS (K : List Plc) (s : SV) : Prop where
  eq : s.2 = (leftL K).filter fun q => !(s.1.map Plc.ring).contains q.1
  pl : ∀ y ∈ s.1, plcK K y.ring = some y
  nd : (s.1.map Plc.ring).Nodup
theorem assoc_filter {l : List (Int × Plc)} {f : Int → Bool} (r : Int) : assoc (l.filter fun q => f q.1) r = if f r then assoc l r else none := by
  unfold assoc
  induction l with
  | nil => simp
  | cons q t ih =>
    rw [List.filter_cons]
    by_cases hq : q.1 = r
    · subst hq
      cases hf : f q.1 with
      | true => rw [if_pos rfl, if_pos rfl, List.find?_cons_of_pos (by simp), List.find?_cons_of_pos (by simp)]
      | false => rw [if_neg (by simp), if_neg (by simp)]; rw [ih, hf]; simp
    · cases hf : f q.1 with
      | true => rw [if_pos rfl, List.find?_cons_of_neg (by simpa using hq), List.find?_cons_of_neg (by simpa using hq), ih]
      | false => rw [if_neg (by simp), List.find?_cons_of_neg (by simpa using hq), ih]
theorem InvS.assoc {K : List Plc} {s : SV} (h : InvS K s) (r : Int) : Go.Proofs.Ytgblmkpfkcibiaa.assoc s.2 r = if (s.1.map Plc.ring).contains r then none else plcK K r := by
  rw [h.eq, assoc_filter (f := fun r => !(s.1.map Plc.ring).contains r), (leftL_ok K).eq]
  cases (s.1.map Plc.ring).contains r <;> rfl
theorem InvS.add {K : List Plc} {s : SV} (h : InvS K s) {x : Plc} (hx : Go.Proofs.Ytgblmkpfkcibiaa.assoc s.2 x.ring = some x) : InvS K (s.1 ++ [x], s.2.filter fun q => decide (q.1 ≠ x.ring)) := by
  rw [h.assoc] at hx
  split at hx
  · cases hx
  rename_i hn
  refine ⟨?_, fun y hy => ?_, ?_⟩
  · simp only
    rw [h.eq, List.filter_filter]
    refine List.filter_congr fun q _ => ?_
    rw [List.map_append, List.contains_append, Bool.not_or, Bool.and_comm]
    congr 1
    simp
  · rcases List.mem_append.1 hy with hy | hy
    · exact h.pl y hy
    · rw [List.mem_singleton] at hy; rw [hy]; exact hx
  · show ((s.1 ++ [x]).map Plc.ring).Nodup
    rw [List.map_append, List.nodup_append]
    refine ⟨h.nd, by simp, fun a ha b hb e => hn ?_⟩
    simp only [List.map_cons, List.map_nil, List.mem_singleton] at hb
    rw [← hb, ← e]
    simpa using ha
theorem filter_lt {l : List (Int × Plc)} {r : Int} (h : (assoc l r).isSome = true) : (l.filter fun q => decide (q.1 ≠ r)).length < l.length := by
  have : ∃ q ∈ l, q.1 = r := by
    unfold assoc at h
    rw [Option.isSome_map, List.find?_isSome] at h
    obtain ⟨q, hq, he⟩ := h
    exact ⟨q, hq, by simpa using he⟩
  obtain ⟨q, hq, he⟩ := this
  have h1 := List.length_filter_lt_length_iff_exists (p := fun q : Int × Plc => decide (q.1 ≠ r)) (l := l)
  exact h1.2 ⟨q, hq, by simp [he]⟩
theorem far_gws {R : List Int} {G : List Gat} {n r : Int} : n ∈ gwsT R G r ↔ (1 ≤ n ∧ n ≤ 8) ∧ (farT R G n r).isSome = true := by
  unfold gwsT; rw [gwsTo_mem]; rfl
theorem stepsR_iff {p : List Int × List Gat} {K : List Plc} {a b : Int} : stepsR p K a b = true ↔ ∃ x y n, plcK K a = some x ∧ plcK K b = some y ∧ n ∈ gwsT p.1 p.2 a ∧ farT p.1 p.2 n a = some b ∧ hasC x.members n = true ∧ hasC y.members n = true := by
  unfold stepsR
  cases ha : plcK K a with
  | none => simp
  | some x =>
    cases hb : plcK K b with
    | none => simp
    | some y =>
      simp only [List.any_eq_true, List.mem_range, Bool.and_eq_true, decide_eq_true_eq]
      constructor
      · rintro ⟨i, hi, h1, h2, h3⟩
        exact ⟨x, y, _, rfl, rfl, far_gws.2 ⟨by omega, by rw [h1]; rfl⟩, h1, h2, h3⟩
      · rintro ⟨x', y', n, e1, e2, hn, h1, h2, h3⟩
        cases e1; cases e2
        have hr := (far_gws.1 hn).1
        refine ⟨n.toNat - 1, by omega, ?_⟩
        have e : ((n.toNat - 1 + 1 : Nat) : Int) = n := by omega
        rw [e]
        exact ⟨h1, h2, h3⟩
structure DoneS (p : List Int × List Gat) (K : List Plc) (r : Int) (s s' : SV) (t : List Plc) : Prop where
  inv : InvS K s'
  eq : s'.1 = s.1 ++ t
  rch : ∀ y ∈ t, Rch (stepsR p K) r y.ring
  clo : ∀ y ∈ t, ∀ b, stepsR p K y.ring b = true → b ∈ s'.1.map Plc.ring
  len : s'.2.length ≤ s.2.length
theorem dfs_done (p : List Int × List Gat) (K : List Plc) : ∀ (k : Nat) (x : Plc) (s : SV), InvS K s → assoc s.2 x.ring = some x → s.2.length ≤ k → ∃ t, DoneS p K x.ring s (dfsP p k x s) t ∧ x ∈ t
  | 0, x, s, hi, hx, hl => by
    have : s.2 = [] := List.eq_nil_of_length_eq_zero (by omega)
    rw [this] at hx
    cases hx
  | k + 1, x, s, hi, hx, hl => by
    rw [dfsP_succ]
    have hi0 := hi.add hx
    have hlt := filter_lt (l := s.2) (r := x.ring) (by rw [hx]; rfl)
    obtain ⟨s0, hs0⟩ : ∃ s0 : SV, s0 = (s.1 ++ [x], s.2.filter fun q => decide (q.1 ≠ x.ring)) := ⟨_, rfl⟩
    have hpx : plcK K x.ring = some x := by
      have := hi0.pl x (by simp)
      exact this
    rw [← hs0] at hi0 ⊢
    have hs02 : s0.2.length < s.2.length := by rw [hs0]; exact hlt
    have hl0 : s0.2.length ≤ k := by omega
    have key : ∀ (ns : List Int) (s1 : SV) (t : List Plc), (∀ n ∈ ns, n ∈ gwsT p.1 p.2 x.ring) → DoneS p K x.ring s0 s1 t →
        ∃ t', DoneS p K x.ring s0 (ns.foldl (dStep p k x) s1) t' ∧ (∀ z ∈ s1.1.map Plc.ring, z ∈ (ns.foldl (dStep p k x) s1).1.map Plc.ring) ∧ ∀ n ∈ ns, ∀ b y, farT p.1 p.2 n x.ring = some b → plcK K b = some y → hasC x.members n = true → hasC y.members n = true → b ∈ (ns.foldl (dStep p k x) s1).1.map Plc.ring := by
      intro ns
      induction ns with
      | nil => intro s1 t _ hd; exact ⟨t, hd, fun z hz => hz, fun n hn => by cases hn⟩
      | cons n ns ih =>
        intro s1 t hns hd
        have hn := hns n List.mem_cons_self
        have hns' : ∀ m ∈ ns, m ∈ gwsT p.1 p.2 x.ring := fun m hm => hns m (List.mem_cons_of_mem _ hm)
        obtain ⟨b, hb⟩ := Option.isSome_iff_exists.1 (far_gws.1 hn).2
        have hfd : farD p n x.ring = b := by unfold farD; rw [hb]; rfl
        -- what one node does
        have one : ∃ t1, DoneS p K x.ring s0 (dStep p k x s1 n) t1 ∧ (∀ z ∈ s1.1.map Plc.ring, z ∈ (dStep p k x s1 n).1.map Plc.ring) ∧ ∀ y, plcK K b = some y → hasC x.members n = true → hasC y.members n = true → b ∈ (dStep p k x s1 n).1.map Plc.ring := by
          unfold dStep
          rw [hfd, hd.inv.assoc]
          by_cases hc : (s1.1.map Plc.ring).contains b = true
          · rw [if_pos hc]
            exact ⟨t, hd, fun z hz => hz, fun y _ _ _ => by simpa using hc⟩
          · rw [if_neg hc]
            cases hpb : plcK K b with
            | none => exact ⟨t, hd, fun z hz => hz, fun y h => by cases h⟩
            | some y =>
              have hyr := plcK_ring hpb
              cases hh : hasC x.members n && hasC y.members n with
              | false =>
                simp only [hh, Bool.false_eq_true, if_false]
                exact ⟨t, hd, fun z hz => hz, fun y' e h1 h2 => by cases e; rw [h1, h2] at hh; cases hh⟩
              | true =>
                simp only [hh, if_true]
                have ha : assoc s1.2 y.ring = some y := by rw [hd.inv.assoc, hyr, if_neg hc, hpb]
                obtain ⟨u, hu, hyu⟩ := dfs_done p K k y s1 hd.inv ha (by have := hd.len; omega)
                have hst : stepsR p K x.ring y.ring = true := by
                  rw [Bool.and_eq_true] at hh
                  rw [hyr]
                  exact stepsR_iff.2 ⟨x, y, n, hpx, hpb, hn, hb, hh.1, hh.2⟩
                have hmono : ∀ z ∈ s1.1.map Plc.ring, z ∈ (dfsP p k y s1).1.map Plc.ring := fun z hz => by
                  rw [hu.eq, List.map_append]; exact List.mem_append_left _ hz
                refine ⟨t ++ u, ⟨hu.inv, by rw [hu.eq, hd.eq, List.append_assoc], fun z hz => ?_, fun z hz c hc2 => ?_, by have := hu.len; have := hd.len; omega⟩, hmono, fun y' e h1 h2 => ?_⟩
                · rcases List.mem_append.1 hz with hz | hz
                  · exact hd.rch z hz
                  · exact (Rch.refl.step hst).trans (hu.rch z hz)
                · rcases List.mem_append.1 hz with hz | hz
                  · exact hmono c (hd.clo z hz c hc2)
                  · exact hu.clo z hz c hc2
                · rw [← hyr, hu.eq, List.map_append]
                  exact List.mem_append_right _ (List.mem_map_of_mem hyu)
        obtain ⟨t1, hd1, hm1, hb1⟩ := one
        obtain ⟨t2, hd2, hm2, hb2⟩ := ih (dStep p k x s1 n) t1 hns' hd1
        rw [List.foldl_cons]
        refine ⟨t2, hd2, fun z hz => hm2 z (hm1 z hz), fun m hm c y hc hy h1 h2 => ?_⟩
        rcases List.mem_cons.1 hm with rfl | hm
        · rw [hb] at hc
          cases hc
          exact hm2 _ (hb1 y hy h1 h2)
        · exact hb2 m hm c y hc hy h1 h2
    obtain ⟨t, hd, hm, hb⟩ := key (gwsT p.1 p.2 x.ring) s0 [] (fun n hn => hn) ⟨hi0, by rw [List.append_nil], fun y hy => (by cases hy), fun y hy => (by cases hy), Nat.le_refl _⟩
    refine ⟨x :: t, ⟨hd.inv, by rw [hd.eq, hs0]; simp, fun y hy => ?_, fun y hy b hst => ?_, by have := hd.len; omega⟩, List.mem_cons_self⟩
    · rcases List.mem_cons.1 hy with rfl | hy
      · exact Rch.refl
      · exact hd.rch y hy
    · rcases List.mem_cons.1 hy with rfl | hy
      · obtain ⟨x', y', n, e1, e2, hn, h1, h2, h3⟩ := stepsR_iff.1 hst
        rw [hpx] at e1
        cases e1
        exact hb n hn b y' h1 e2 h2 h3
      · exact hd.clo y hy b hst
def viewP (p : List Int × List Gat) (fr : Int) (K : List Plc) : List Plc :=
  if chkP p.1 p.2 && ringG p.1 fr then (match plcK K fr with
    | some x => isP (dfsP p (leftL K).length x ([], leftL K)).1
    | none => [])
  else []
structure ViewIs (p : List Int × List Gat) (K : List Plc) (fr : Int) (v : List Plc) : Prop where
  pl : ∀ y ∈ v, plcK K y.ring = some y
  asc : (v.map Plc.ring).Pairwise (· < ·)
  mem : ∀ r, r ∈ v.map Plc.ring ↔ Rch (stepsR p K) fr r
theorem view_is {p : List Int × List Gat} {fr : Int} {K : List Plc} {x : Plc} (hx : plcK K fr = some x) : ViewIs p K fr (isP (dfsP p (leftL K).length x ([], leftL K)).1) := by
  have hxr := plcK_ring hx
  have hi0 : InvS K ([], leftL K) := ⟨(List.filter_eq_self.2 (fun q _ => rfl)).symm, fun y hy => (by cases hy), List.nodup_nil⟩
  obtain ⟨t, hd, hxt⟩ := dfs_done p K (leftL K).length x ([], leftL K) hi0 (by rw [(leftL_ok K).eq, hxr, hx]) (Nat.le_refl _)
  have he : (dfsP p (leftL K).length x ([], leftL K)).1 = t := by rw [hd.eq]; rfl
  have hinv := hd.inv
  have hclo := hd.clo
  rw [he] at hclo ⊢
  have hpm := isP_perm t
  have hpl := hinv.pl
  have hnd := hinv.nd
  rw [he] at hpl hnd
  refine ⟨fun y hy => hpl y (hpm.mem_iff.1 hy), ?_, fun r => ?_⟩
  · have h1 := isP_sor t
    have h2 : ((isP t).map Plc.ring).Nodup := (hpm.map Plc.ring).nodup_iff.2 hnd
    rw [List.nodup_iff_pairwise_ne, List.pairwise_map] at h2
    rw [List.pairwise_map]
    unfold SorP at h1
    exact (List.Pairwise.and h1 h2).imp fun {a b} h => by have := h.1; have := h.2; omega
  · rw [(hpm.map Plc.ring).mem_iff]
    constructor
    · intro hr
      obtain ⟨y, hy, rfl⟩ := List.mem_map.1 hr
      have := hd.rch y hy
      rwa [hxr] at this
    · intro hr
      induction hr with
      | refl => rw [← hxr]; exact List.mem_map_of_mem hxt
      | step _ hs ih =>
        obtain ⟨y, hy, rfl⟩ := List.mem_map.1 ih
        exact hclo y hy _ hs
end Go.Proofs.Ytgblmkpfkcibiaa

namespace Go.Proofs.Ytgblmkpfkcibiaa
open Go.Hb
attribute [local irreducible] LR CW At Ev thn blk finK noG again CallsTo DW QL dnext TW DP gpost
set_option maxRecDepth 100000

instance : KMap Try.prog 91 (intK IntKind.i64) okK (zP.val) := KMap.ofInt Try.underlying91 Try.underlying3 (fun w => Try.zeroValue44 w)
def kvs (l : List (Int × Plc)) : List (Int × Value) := l.map fun q => (q.1, q.2.val)
theorem kvs_fst (l : List (Int × Plc)) : (kvs l).map Prod.fst = l.map Prod.fst := by unfold kvs; rw [List.map_map]; rfl
theorem kvs_filter (l : List (Int × Plc)) (r : Int) : (kvs l).filter (fun q => decide (q.1 ≠ r)) = kvs (l.filter fun q => decide (q.1 ≠ r)) := by unfold kvs; rw [List.filter_map]; rfl
theorem kvs_snoc (l : List (Int × Plc)) (x : Plc) : kvs l ++ [(x.ring, x.val)] = kvs (l ++ [(x.ring, x)]) := by unfold kvs; rw [List.map_append]; rfl
theorem assoc_mem {l : List (Int × Plc)} {r : Int} {y : Plc} (h : assoc l r = some y) : (r, y.val) ∈ kvs l := by
  unfold assoc at h
  rw [Option.map_eq_some_iff] at h
  obtain ⟨q, hq, rfl⟩ := h
  have h1 := List.mem_of_find?_eq_some hq
  have h2 : q.1 = r := by simpa using List.find?_some hq
  exact List.mem_map.2 ⟨q, h1, by rw [h2]⟩
theorem assoc_no {l : List (Int × Plc)} {r : Int} (h : assoc l r = none) : ∀ q ∈ kvs l, q.1 ≠ r := by
  unfold assoc at h
  rw [Option.map_eq_none_iff, List.find?_eq_none] at h
  intro q hq e
  obtain ⟨z, hz, rfl⟩ := List.mem_map.1 hq
  exact h z hz (by simpa using e)
theorem any_no {l : List (Int × Plc)} {r : Int} (h : l.any (fun q => decide (q.1 = r)) = false) : assoc l r = none := by unfold assoc; rw [Option.map_eq_none_iff, find_none]; exact h
theorem any_yes {l : List (Int × Plc)} {r : Int} (h : l.any (fun q => decide (q.1 = r)) = true) : ∃ y, assoc l r = some y := by
  cases hx : assoc l r with
  | some y => exact ⟨y, rfl⟩
  | none =>
    exfalso
    unfold assoc at hx
    rw [Option.map_eq_none_iff, find_none, h] at hx
    cases hx
abbrev kM91 (bm : Nat) (l : List (Int × Plc)) : Asrt := kmap (intK IntKind.i64) bm (kvs l)
abbrev oC (bo : Nat) (a : Option Addr) (n c : Nat) : Asrt := .own bo (.cells [Value.slice a n c].toArray 37 (0, 0))
abbrev lC (bl bm : Nat) : Asrt := .own bl (.cells [Value.map (some bm)].toArray 91 (0, 0))
def vG (bo bl bm : Nat) (a : Option Addr) (c : Nat) (s : SV) : Asrt := both (oC bo a s.1.length c) (both (pN a s.1.length c s.1) (both (lC bl bm) (kM91 bm s.2)))
section
variable {bo bl bm : Nat} {a : Option Addr} {c : Nat} {s : SV} {w0 w : World} {F : Nat → Prop} {R : List Asrt}
theorem vG_dep : (vG bo bl bm a c s).dep := both_dep (Asrt.dep_own _ _) (both_dep (osl.dep _ _ _ _ _) (both_dep (Asrt.dep_own _ _) (kmap.dep _ _)))
theorem vG_open (h : St w0 F (vG bo bl bm a c s :: R) w) : St w0 F (oC bo a s.1.length c :: pN a s.1.length c s.1 :: lC bl bm :: kM91 bm s.2 :: R) w := by
  have h1 := (h.part (Asrt.dep_own _ _) (both_dep (osl.dep _ _ _ _ _) (both_dep (Asrt.dep_own _ _) (kmap.dep _ _)))).swap
  have h2 := h1.part (osl.dep _ _ _ _ _) (both_dep (Asrt.dep_own _ _) (kmap.dep _ _))
  have h3 := h2.swap.part (Asrt.dep_own _ _) (kmap.dep _ _)
  have h4 : St w0 F (pN a s.1.length c s.1 :: lC bl bm :: kM91 bm s.2 :: oC bo a s.1.length c :: R) w := front h3 2 rfl rfl
  exact front h4 3 rfl rfl
theorem vG_shut (h : St w0 F (oC bo a s.1.length c :: pN a s.1.length c s.1 :: lC bl bm :: kM91 bm s.2 :: R) w) : St w0 F (vG bo bl bm a c s :: R) w := by
  have h1 : St w0 F (kM91 bm s.2 :: oC bo a s.1.length c :: pN a s.1.length c s.1 :: lC bl bm :: R) w := front h 3 rfl rfl
  have h2 : St w0 F (lC bl bm :: kM91 bm s.2 :: oC bo a s.1.length c :: pN a s.1.length c s.1 :: R) w := front h1 3 rfl rfl
  have h3 := h2.join rfl rfl
  have h4 : St w0 F (pN a s.1.length c s.1 :: both (lC bl bm) (kM91 bm s.2) :: oC bo a s.1.length c :: R) w := front h3 2 rfl rfl
  have h5 := (h4.join rfl rfl).swap
  exact h5.join rfl rfl
end
def WfL (l : List (Int × Plc)) : Prop := ∀ q ∈ l, q.2.ring = q.1
theorem WfL.get {l : List (Int × Plc)} (h : WfL l) {r : Int} {y : Plc} (hy : assoc l r = some y) : y.ring = r := by
  unfold assoc at hy
  rw [Option.map_eq_some_iff] at hy
  obtain ⟨q, hq, rfl⟩ := hy
  have h2 : q.1 = r := by simpa using List.find?_some hq
  rw [h q (List.mem_of_find?_eq_some hq), h2]
theorem WfL.sub {l m : List (Int × Plc)} (h : WfL l) (hs : m.Sublist l) : WfL m := fun q hq => h q (hs.subset hq)
theorem dfs_len (p : List Int × List Gat) : ∀ (k : Nat) (x : Plc) (s : SV), WfL s.2 → (assoc s.2 x.ring).isSome = true → (dfsP p k x s).1.length + (dfsP p k x s).2.length ≤ s.1.length + s.2.length ∧ (dfsP p k x s).2.Sublist s.2
  | 0, x, s, _, h => by rw [dfsP]; exact ⟨Nat.le_refl _, List.Sublist.refl _⟩
  | k + 1, x, s, hw, h => by
    rw [dfsP_succ]
    have hlt := filter_lt h
    have key : ∀ (ns : List Int) (s1 : SV), WfL s1.2 → (ns.foldl (dStep p k x) s1).1.length + (ns.foldl (dStep p k x) s1).2.length ≤ s1.1.length + s1.2.length ∧ (ns.foldl (dStep p k x) s1).2.Sublist s1.2 := by
      intro ns
      induction ns with
      | nil => intro s1 _; exact ⟨Nat.le_refl _, List.Sublist.refl _⟩
      | cons n ns ih =>
        intro s1 hw1
        rw [List.foldl_cons]
        have one : (dStep p k x s1 n).1.length + (dStep p k x s1 n).2.length ≤ s1.1.length + s1.2.length ∧ (dStep p k x s1 n).2.Sublist s1.2 := by
          unfold dStep
          split
          · rename_i y hy
            split
            · exact dfs_len p k y s1 hw1 (by rw [hw1.get hy, hy]; rfl)
            · exact ⟨Nat.le_refl _, List.Sublist.refl _⟩
          · exact ⟨Nat.le_refl _, List.Sublist.refl _⟩
        have h2 := ih (dStep p k x s1 n) (hw1.sub one.2)
        exact ⟨Nat.le_trans h2.1 one.1, h2.2.trans one.2⟩
    have h2 := key (gwsT p.1 p.2 x.ring) (s.1 ++ [x], s.2.filter fun q => decide (q.1 ≠ x.ring)) (hw.sub List.filter_sublist)
    refine ⟨Nat.le_trans h2.1 ?_, h2.2.trans List.filter_sublist⟩
    simp only [List.length_append, List.length_cons, List.length_nil]
    omega
structure EnvG (w : World) (p : Pln) (A : PlA) (bo bl bp bf : Nat) (F : Nat → Prop) : Prop where
  pr : PlR w p A
  bx : Rd w (some ⟨bp, 0, none⟩) (p.cells A)
  fn : Rd w (some ⟨bf, 0, none⟩) [.func (.func 55) #[] #[.pointer (some ⟨bo, 0, none⟩), .pointer (some ⟨bl, 0, none⟩), .pointer (some ⟨bp, 0, none⟩), .pointer (some ⟨bf, 0, none⟩)]]
  d1 : ∀ k, rdFoot A.ra (iv p.R) k → ¬ F k
  d2 : ∀ k, rdFoot A.ga (gv p.G) k → ¬ F k
  d3 : ∀ k, rdFoot (some ⟨bp, 0, none⟩) (p.cells A) k → ¬ F k
  d4 : ∀ k, rdFoot (some ⟨bf, 0, none⟩) [Value.func (.func 55) #[] #[.pointer (some ⟨bo, 0, none⟩), .pointer (some ⟨bl, 0, none⟩), .pointer (some ⟨bp, 0, none⟩), .pointer (some ⟨bf, 0, none⟩)]] k → ¬ F k
theorem EnvG.old {w w0 : World} {p : Pln} {A : PlA} {bo bl bp bf : Nat} {F : Nat → Prop} {L : List Asrt} (h : EnvG w0 p A bo bl bp bf F) (h1 : St w0 F L w) : PlR w p A ∧ Rd w (some ⟨bp, 0, none⟩) (p.cells A) ∧ Rd w (some ⟨bf, 0, none⟩) [.func (.func 55) #[] #[.pointer (some ⟨bo, 0, none⟩), .pointer (some ⟨bl, 0, none⟩), .pointer (some ⟨bp, 0, none⟩), .pointer (some ⟨bf, 0, none⟩)]] :=
  ⟨⟨h1.oldRdF h.pr.r h.d1, h1.oldRdF h.pr.g h.d2⟩, h1.oldRdF h.bx h.d3, h1.oldRdF h.fn h.d4⟩
structure GSt where
  i : Nat
  a : Option Addr
  c : Nat
  s : SV
set_option maxHeartbeats 4000000 in
theorem m55 (p : Pln) (A : PlA) (hi : PlI p) (bo bl bm bp bf : Nat) : ∀ (k : Nat) (x : Plc) (a : Option Addr) (c : Nat) (s : SV) (w : World), (vG bo bl bm a c s).holds w → EnvG w p A bo bl bp bf (vG bo bl bm a c s).foot →
    (s.2.map Prod.fst).Nodup → WfL s.2 → (assoc s.2 x.ring).isSome = true → s.2.length ≤ k → (s.1.length + s.2.length) * 32 ≤ 140737488355328 →
    CallsTo Try.prog 55 [x.val, .pointer (some ⟨bo, 0, none⟩), .pointer (some ⟨bl, 0, none⟩), .pointer (some ⟨bp, 0, none⟩), .pointer (some ⟨bf, 0, none⟩)] w fun v w' => v = .tuple #[] ∧ ∃ a' c', Step (vG bo bl bm a c s) (vG bo bl bm a' c' (dfsP (p.R, p.G) k x s)) w w' := by
  intro k
  induction k with
  | zero =>
    intro x a c s w _ _ _ _ hx hl _
    have : s.2 = [] := List.eq_nil_of_length_eq_zero (by omega)
    rw [this] at hx
    cases hx
  | succ k ih =>
    intro x a c s w hh hE hnd hwf hx hl hm
    have hlt := filter_lt hx
    have hS0 := (((((St.one hh (both_live hh) vG_dep).addRd hE.pr.r hE.d1).addRd hE.pr.g hE.d2).addRd hE.bx hE.d3).addRd hE.fn hE.d4)
    have hS1 := vG_open (R := [rdA (some ⟨bf, 0, none⟩) [.func (.func 55) #[] #[.pointer (some ⟨bo, 0, none⟩), .pointer (some ⟨bl, 0, none⟩), .pointer (some ⟨bp, 0, none⟩), .pointer (some ⟨bf, 0, none⟩)]], rdA (some ⟨bp, 0, none⟩) (p.cells A), rdA A.ga (gv p.G), rdA A.ra (iv p.R)]) (front hS0 4 rfl rfl)
    generalize hF : (vG bo bl bm a c s).foot = F at *
    refine go_in (n := 59) hS1 Try.func55 rfl rfl ?_
    repeat'(first|(refine kB' fun bx => ?_)|(apply Go.Hb.kK;(iterate 4 exact rfl);intro bs)|refine kv' ?_|apply jJ|refine jE' ?_|refine jp' ?_|(apply jc;kernel_rfl)|refine kg' ?_|refine kG' ?_|refine kB' fun _=>?_|refine kA' fun _=>?_|refine kK' fun _=>?_|refine kU' ?_|(apply LR.append (xs := pcs s.1) (news := x.cells) (m := 1); (· exact rfl); (· exact rfl); (· intro a' c'; (repeat (first | exact sH _ _ _ | apply sT))); (· exact fun w' hw' => hw'.rd_of_blk (mH _ _)); (· exact fun hx => by cases hx); (· exact rfl); (· exact rfl); (· omega); (· unfold maxLen; omega); (· exact rfl); (intro a3 c3))|((first|refine kR' ?_ ?_|refine kQ' ?_ ?_);all_goals(intro hc;try simp only[hcs]at hc;try(exfalso;first|contradiction|omega))))
    refine LR.deleteK (enc := intK IntKind.i64) (ok := okK) (l := kvs s.2) (a := x.ring) (K1 := 3) (by kernel_rfl) rfl rfl selZ (fun _ _ => trivial) (by rw [kvs_fst]; exact hnd) trivial ?_
    rw [kvs_filter]
    obtain ⟨s0, hs0⟩ : ∃ s0 : SV, s0 = (s.1 ++ [x], s.2.filter fun q => decide (q.1 ≠ x.ring)) := ⟨_, rfl⟩
    have hs1 : s0.1.length = s.1.length + 1 := by rw [hs0]; simp
    have hs2 : s0.2.length < s.2.length := by rw [hs0]; exact hlt
    have hnd0 : (s0.2.map Prod.fst).Nodup := by rw [hs0]; exact hnd.sublist (List.filter_sublist.map _)
    have hwf0 : WfL s0.2 := by rw [hs0]; exact hwf.sub List.filter_sublist
    have hdfs : dfsP (p.R, p.G) (k + 1) x s = (gwsT p.R p.G x.ring).foldl (dStep (p.R, p.G) k x) s0 := by rw [dfsP_succ, hs0]
    have hpc : pcs s.1 ++ x.cells = pcs s0.1 := by rw [hs0]; simp [pcs]
    have hkk : kvs (s.2.filter fun q => decide (q.1 ≠ x.ring)) = kvs s0.2 := by rw [hs0]
    rw [hpc, ← hs1, hkk]
    repeat'(first|refine kv' ?_|apply jJ|refine jE' ?_|refine jp' ?_|(apply jc;kernel_rfl)|refine kg' ?_|refine kG' ?_|refine kB' fun _=>?_|refine kA' fun _=>?_|refine kK' fun _=>?_|refine kU' ?_|((first|refine kR' ?_ ?_|refine kQ' ?_ ?_);all_goals(intro hc;try simp only[hcs]at hc;try(exfalso;first|contradiction|omega))))
    apply LR.call
    · exact rfl
    intro w1 h1
    refine CallsTo.mono (show CallsTo Try.prog 20 [p.val A, .int .i64 x.ring] w1 _ from m20 p A x.ring w1 ⟨h1.rd_of memZ, h1.rd_of memZ⟩ hi) ?_
    rintro v w2 ⟨a4, c4, rfl, hn⟩
    refine LR.back (h1.newSl hn) ?_
    clear hn h1
    repeat'(first|refine kv' ?_|apply jJ|refine jE' ?_|refine jp' ?_|(apply jc;kernel_rfl)|refine kg' ?_|refine kG' ?_|refine kB' fun _=>?_|refine kA' fun _=>?_|refine kK' fun _=>?_|refine kU' ?_|((first|refine kR' ?_ ?_|refine kQ' ?_ ?_);all_goals(intro hc;try simp only[hcs]at hc;try(exfalso;first|contradiction|omega))))
    have hns8 := gwsTo_len p.R p.G x.ring 8
    obtain ⟨ns, hns⟩ : ∃ ns, ns = gwsT p.R p.G x.ring := ⟨_, rfl⟩
    have hnsl : ns.length ≤ 8 := by rw [hns]; exact hns8
    rw [← hns] at hdfs ⊢
    apply CW.loop [7, 8, 9, 10, 11, 24, 25, 26, 27, 28, 29, 30, 31, 32, 33, 34, 35, 36, 37, 38, 39, 40, 41, 42, 43, 44, 45, 46, 47, 48, 49, 50, 51, 52, 53, 54, 55, 56, 57, 58] (fun s : GSt => (s.i ≤ ns.length ∧ s.s = (ns.take s.i).foldl (dStep (p.R, p.G) k x) s0) ∧ (s.s.2.map Prod.fst).Nodup ∧ WfL s.s.2 ∧ s.s.2.length ≤ s0.2.length ∧ s.s.1.length + s.s.2.length ≤ s0.1.length + s0.2.length) (fun s => [(24, .int .i64 (s.i : Int))])
      (fun s => St w F [oC bo s.a s.s.1.length s.c, pN s.a s.s.1.length s.c s.s.1, lC bl bm, kM91 bm s.s.2, ilK a4 c4 ns, .own bx (.cells x.cells.toArray 44 (0, 0)), rdA (some ⟨bf, 0, none⟩) [Value.func (.func 55) #[] #[.pointer (some ⟨bo, 0, none⟩), .pointer (some ⟨bl, 0, none⟩), .pointer (some ⟨bp, 0, none⟩), .pointer (some ⟨bf, 0, none⟩)]], rdA (some ⟨bp, 0, none⟩) (p.cells A), rdA A.ga (gv p.G), rdA A.ra (iv p.R)]) (fun s => ns.length - s.i)
    · intro w' hw'
      refine ⟨⟨0, a3, c3, s0⟩, ⟨⟨by simp, rfl⟩, hnd0, hwf0, Nat.le_refl _, Nat.le_refl _⟩, ⟨rfl, trivial⟩, ?_⟩
      have h2 : St w F [ilK a4 c4 ns, .own bx (.cells x.cells.toArray 44 (0, 0)), oC bo a3 s0.1.length c3, pN a3 s0.1.length c3 s0.1, lC bl bm, kM91 bm s0.2, rdA (some ⟨bf, 0, none⟩) [Value.func (.func 55) #[] #[.pointer (some ⟨bo, 0, none⟩), .pointer (some ⟨bl, 0, none⟩), .pointer (some ⟨bp, 0, none⟩), .pointer (some ⟨bf, 0, none⟩)]], rdA (some ⟨bp, 0, none⟩) (p.cells A), rdA A.ga (gv p.G), rdA A.ra (iv p.R)] w' := hw'.sub subZ
      have h3 : St w F [.own bx (.cells x.cells.toArray 44 (0, 0)), oC bo a3 s0.1.length c3, pN a3 s0.1.length c3 s0.1, lC bl bm, kM91 bm s0.2, ilK a4 c4 ns, rdA (some ⟨bf, 0, none⟩) [Value.func (.func 55) #[] #[.pointer (some ⟨bo, 0, none⟩), .pointer (some ⟨bl, 0, none⟩), .pointer (some ⟨bp, 0, none⟩), .pointer (some ⟨bf, 0, none⟩)]], rdA (some ⟨bp, 0, none⟩) (p.cells A), rdA A.ga (gv p.G), rdA A.ra (iv p.R)] w' := h2.perm (by
        refine (List.Perm.swap _ _ _).trans ((List.Perm.cons _ ?_))
        exact (List.perm_middle (l₁ := [oC bo a3 s0.1.length c3, pN a3 s0.1.length c3 s0.1, lC bl bm, kM91 bm s0.2])).symm)
      exact h3.perm (List.perm_middle (l₁ := [oC bo a3 s0.1.length c3, pN a3 s0.1.length c3 s0.1, lC bl bm, kM91 bm s0.2, ilK a4 c4 ns])).symm
    rintro ⟨i, a5, c5, s1⟩ g1 ⟨⟨hil, hs⟩, hnd1, hwf1, hle1, hle2⟩
    simp only at hil hs hnd1 hwf1 hle1 hle2 ⊢
    by_cases hlt2 : i < ns.length
    · refine CW_fact (φ := ∃ ba oa, a4 = some ⟨ba, oa, none⟩) (fun w1 hw1 => (ownsRow_rd (hw1.holds (ilK a4 c4 ns) memZ)).form (fun e => by have h1 := congrArg List.length e; simp only [iv_length, List.length_nil] at h1; omega)) ?_
      rintro ⟨ba, oa, rfl⟩
      have htk : (ns.take (i + 1)).foldl (dStep (p.R, p.G) k x) s0 = dStep (p.R, p.G) k x s1 ns[i] := by
        rw [List.take_add_one, List.getElem?_eq_getElem hlt2, List.foldl_append, ← hs]; rfl
      obtain ⟨n, hn⟩ : ∃ n, ns[i] = n := ⟨_, rfl⟩
      rw [hn] at htk
      have hds : dStep (p.R, p.G) k x s1 n = match assoc s1.2 (farD (p.R, p.G) n x.ring) with | some y => if hasC x.members n && hasC y.members n then dfsP (p.R, p.G) k y s1 else s1 | none => s1 := rfl
      obtain ⟨fr, hfr⟩ : ∃ fr, fr = farD (p.R, p.G) n x.ring := ⟨_, rfl⟩
      rw [← hfr] at hds
      cases has : assoc s1.2 fr with
      | none =>
        rw [has] at hds
        repeat'(first|(refine kA' fun b10 => ?_)|refine kv' ?_|apply jJ|refine jE' ?_|refine jp' ?_|(apply jc;kernel_rfl)|refine kg' ?_|refine kG' ?_|refine kB' fun _=>?_|refine kA' fun _=>?_|refine kK' fun _=>?_|refine kU' ?_|(apply idxX;(iterate 2 exact rfl);(iterate 2(first|omega|(dsimp only;omega)));exact rfl)|(apply addX;(iterate 2 exact rfl);(iterate 2(first|omega|(dsimp only;omega)));exact rfl)|(apply LR.ev; (· apply Ev.load_osl; (· exact rfl); (· repeat (first | exact mH _ _ | apply mT)); (· exact (iv_at (l := ns) (i := i) (by simp) (by omega)).trans (by rw [hn]))); (· exact rfl))|(apply kq; (· exact rfl); (· intro w1 h1; first | (have hq := CallsTo.q (m15 p A n x.ring w1 ⟨h1.rd_of memZ, h1.rd_of memZ⟩ hi) h1; exact hq) | fail))|(apply LR.ev; (· apply Ev.lookup_no (enc := intK IntKind.i64) (ok := okK) (l := kvs s1.2) (a := farD (p.R, p.G) n x.ring); (· exact rfl); (· exact rfl); (· exact fun w' hw' => hw'.holds (kM91 bm s1.2) memZ); (· exact fun _ _ => trivial); (· trivial); (· rw [← hfr]; exact assoc_no has)); (· exact rfl))|((first|refine kR' ?_ ?_|refine kQ' ?_ ?_);all_goals(intro hc;try simp only[hcs]at hc;try(exfalso;first|contradiction|omega))))
        refine At.again (⟨i + 1, a5, c5, s1⟩ : GSt) ⟨⟨by simp only; omega, by simp only; rw [htk, hds]⟩, hnd1, hwf1, hle1, hle2⟩ ?_ ⟨rfl, trivial⟩ (fun w' hw' => hw'.sub subZ) (by simp only; omega)
        (repeat (first | exact Out.refl _ _ | exact Out.mix | (apply Out.upd; (· exact rfl)) | (apply Out.updL; (· exact rfl)) | (apply Out.mixs; (· exact rfl))))
      | some y =>
        rw [has] at hds
        have hds : dStep (p.R, p.G) k x s1 n = if hasC x.members n && hasC y.members n then dfsP (p.R, p.G) k y s1 else s1 := hds
        have hyr : y.ring = fr := hwf1.get has
        have hyv : y.val = .agg y.cells.toArray := rfl
        cases hx1 : hasC x.members n with
        | false =>
          rw [hx1] at hds
          simp only [Bool.false_and, Bool.false_eq_true, if_false] at hds
          repeat'(first|(refine kA' fun b10 => ?_)|refine kv' ?_|apply jJ|refine jE' ?_|refine jp' ?_|(apply jc;kernel_rfl)|refine kg' ?_|refine kG' ?_|refine kB' fun _=>?_|refine kA' fun _=>?_|refine kK' fun _=>?_|refine kU' ?_|(apply idxX;(iterate 2 exact rfl);(iterate 2(first|omega|(dsimp only;omega)));exact rfl)|(apply addX;(iterate 2 exact rfl);(iterate 2(first|omega|(dsimp only;omega)));exact rfl)|(apply LR.ev; (· apply Ev.load_osl; (· exact rfl); (· repeat (first | exact mH _ _ | apply mT)); (· exact (iv_at (l := ns) (i := i) (by simp) (by omega)).trans (by rw [hn]))); (· exact rfl))|(apply kq; (· exact rfl); (· intro w1 h1; first | (have hq := CallsTo.q (m15 p A n x.ring w1 ⟨h1.rd_of memZ, h1.rd_of memZ⟩ hi) h1; exact hq) | (have hq := CallsTo.q (q23 x.members n w1) h1; rw [hx1] at hq; exact hq)))|(apply LR.ev; (· apply Ev.lookup_yes (enc := intK IntKind.i64) (ok := okK) (l := kvs s1.2) (a := farD (p.R, p.G) n x.ring) (u := y.val); (· exact rfl); (· exact rfl); (· exact fun w' hw' => hw'.holds (kM91 bm s1.2) memZ); (· exact fun _ _ => trivial); (· rw [kvs_fst]; exact hnd1); (· rw [← hfr]; exact assoc_mem has)); (· exact rfl))|((first|refine kR' ?_ ?_|refine kQ' ?_ ?_);all_goals(intro hc;try simp only[hcs]at hc;try(exfalso;first|contradiction|omega))))
          refine At.again (⟨i + 1, a5, c5, s1⟩ : GSt) ⟨⟨by simp only; omega, by simp only; rw [htk, hds]⟩, hnd1, hwf1, hle1, hle2⟩ ?_ ⟨rfl, trivial⟩ (fun w' hw' => hw'.sub subZ) (by simp only; omega)
          (repeat (first | exact Out.refl _ _ | exact Out.mix | (apply Out.upd; (· exact rfl)) | (apply Out.updL; (· exact rfl)) | (apply Out.mixs; (· exact rfl))))
        | true =>
          cases hy1 : hasC y.members n with
          | false =>
            rw [hx1, hy1] at hds
            simp only [Bool.and_false, Bool.false_eq_true, if_false] at hds
            repeat'(first|(refine kA' fun b10 => ?_)|refine kv' ?_|apply jJ|refine jE' ?_|refine jp' ?_|(apply jc;kernel_rfl)|refine kg' ?_|refine kG' ?_|refine kB' fun _=>?_|refine kA' fun _=>?_|refine kK' fun _=>?_|refine kU' ?_|(apply idxX;(iterate 2 exact rfl);(iterate 2(first|omega|(dsimp only;omega)));exact rfl)|(apply addX;(iterate 2 exact rfl);(iterate 2(first|omega|(dsimp only;omega)));exact rfl)|(apply LR.ev; (· apply Ev.load_osl; (· exact rfl); (· repeat (first | exact mH _ _ | apply mT)); (· exact (iv_at (l := ns) (i := i) (by simp) (by omega)).trans (by rw [hn]))); (· exact rfl))|(apply kq; (· exact rfl); (· intro w1 h1; first | (have hq := CallsTo.q (m15 p A n x.ring w1 ⟨h1.rd_of memZ, h1.rd_of memZ⟩ hi) h1; exact hq) | (have hq := CallsTo.q (q23 x.members n w1) h1; rw [hx1] at hq; exact hq) | (have hq := CallsTo.q (q23 y.members n w1) h1; rw [hy1] at hq; exact hq)))|(apply LR.ev; (· apply Ev.lookup_yes (enc := intK IntKind.i64) (ok := okK) (l := kvs s1.2) (a := farD (p.R, p.G) n x.ring) (u := y.val); (· exact rfl); (· exact rfl); (· exact fun w' hw' => hw'.holds (kM91 bm s1.2) memZ); (· exact fun _ _ => trivial); (· rw [kvs_fst]; exact hnd1); (· rw [← hfr]; exact assoc_mem has)); (· exact rfl))|((first|refine kR' ?_ ?_|refine kQ' ?_ ?_);all_goals(intro hc;try simp only[hcs]at hc;try(exfalso;first|contradiction|omega))))
            refine At.again (⟨i + 1, a5, c5, s1⟩ : GSt) ⟨⟨by simp only; omega, by simp only; rw [htk, hds]⟩, hnd1, hwf1, hle1, hle2⟩ ?_ ⟨rfl, trivial⟩ (fun w' hw' => hw'.sub subZ) (by simp only; omega)
            (repeat (first | exact Out.refl _ _ | exact Out.mix | (apply Out.upd; (· exact rfl)) | (apply Out.updL; (· exact rfl)) | (apply Out.mixs; (· exact rfl))))
          | true =>
            rw [hx1, hy1] at hds
            simp only [Bool.and_self, if_true] at hds
            repeat'(first|(refine kA' fun b10 => ?_)|refine kv' ?_|apply jJ|refine jE' ?_|refine jp' ?_|(apply jc;kernel_rfl)|refine kg' ?_|refine kG' ?_|refine kB' fun _=>?_|refine kA' fun _=>?_|refine kK' fun _=>?_|refine kU' ?_|(apply idxX;(iterate 2 exact rfl);(iterate 2(first|omega|(dsimp only;omega)));exact rfl)|(apply addX;(iterate 2 exact rfl);(iterate 2(first|omega|(dsimp only;omega)));exact rfl)|(apply LR.ev; (· apply Ev.load_osl; (· exact rfl); (· repeat (first | exact mH _ _ | apply mT)); (· exact (iv_at (l := ns) (i := i) (by simp) (by omega)).trans (by rw [hn]))); (· exact rfl))|(apply kq; (· exact rfl); (· intro w1 h1; first | (have hq := CallsTo.q (m15 p A n x.ring w1 ⟨h1.rd_of memZ, h1.rd_of memZ⟩ hi) h1; exact hq) | (have hq := CallsTo.q (q23 x.members n w1) h1; rw [hx1] at hq; exact hq) | (have hq := CallsTo.q (q23 y.members n w1) h1; rw [hy1] at hq; exact hq)))|(apply LR.ev; (· apply Ev.lookup_yes (enc := intK IntKind.i64) (ok := okK) (l := kvs s1.2) (a := farD (p.R, p.G) n x.ring) (u := y.val); (· exact rfl); (· exact rfl); (· exact fun w' hw' => hw'.holds (kM91 bm s1.2) memZ); (· exact fun _ _ => trivial); (· rw [kvs_fst]; exact hnd1); (· rw [← hfr]; exact assoc_mem has)); (· exact rfl))|((first|refine kR' ?_ ?_|refine kQ' ?_ ?_);all_goals(intro hc;try simp only[hcs]at hc;try(exfalso;first|contradiction|omega))))
            apply LR.call_val (g := 55) (cap := [.pointer (some ⟨bo, 0, none⟩), .pointer (some ⟨bl, 0, none⟩), .pointer (some ⟨bp, 0, none⟩), .pointer (some ⟨bf, 0, none⟩)])
            · exact rfl
            · exact rfl
            intro w1 h1
            have h2 : St w F (vG bo bl bm a5 c5 s1 :: [.own b10 (.cells [Value.int .i64 y.ring, .int .i64 y.seq, .int .i64 y.rep, .int .i64 y.members].toArray 44 (0, 0)), ilK (some ⟨ba, oa, none⟩) c4 ns, .own bx (.cells x.cells.toArray 44 (0, 0)), rdA (some ⟨bf, 0, none⟩) [Value.func (.func 55) #[] #[.pointer (some ⟨bo, 0, none⟩), .pointer (some ⟨bl, 0, none⟩), .pointer (some ⟨bp, 0, none⟩), .pointer (some ⟨bf, 0, none⟩)]], rdA (some ⟨bp, 0, none⟩) (p.cells A), rdA A.ga (gv p.G), rdA A.ra (iv p.R)]) w1 := vG_shut (h1.perm (List.perm_middle (l₁ := [oC bo a5 s1.1.length c5, pN a5 s1.1.length c5 s1.1, lC bl bm, kM91 bm s1.2])).symm)
            have hap := fun (z : Asrt) (hz : z ∈ [.own b10 (.cells [Value.int .i64 y.ring, .int .i64 y.seq, .int .i64 y.rep, .int .i64 y.members].toArray 44 (0, 0)), ilK (some ⟨ba, oa, none⟩) c4 ns, .own bx (.cells x.cells.toArray 44 (0, 0)), rdA (some ⟨bf, 0, none⟩) [Value.func (.func 55) #[] #[.pointer (some ⟨bo, 0, none⟩), .pointer (some ⟨bl, 0, none⟩), .pointer (some ⟨bp, 0, none⟩), .pointer (some ⟨bf, 0, none⟩)]], rdA (some ⟨bp, 0, none⟩) (p.cells A), rdA A.ga (gv p.G), rdA A.ra (iv p.R)]) => St.apart h2 hz (show (true || z.excl) = true from rfl)
            have hE1 : EnvG w1 p A bo bl bp bf (vG bo bl bm a5 c5 s1).foot := by
              refine ⟨⟨h2.rd_of memZ, h2.rd_of memZ⟩, h2.rd_of memZ, h2.rd_of memZ, ?_, ?_, ?_, ?_⟩
              · exact fun z hz hf => hap (rdA A.ra (iv p.R)) memZ z hf hz
              · exact fun z hz hf => hap (rdA A.ga (gv p.G)) memZ z hf hz
              · exact fun z hz hf => hap (rdA (some ⟨bp, 0, none⟩) (p.cells A)) memZ z hf hz
              · exact fun z hz hf => hap (rdA (some ⟨bf, 0, none⟩) [Value.func (.func 55) #[] #[.pointer (some ⟨bo, 0, none⟩), .pointer (some ⟨bl, 0, none⟩), .pointer (some ⟨bp, 0, none⟩), .pointer (some ⟨bf, 0, none⟩)]]) memZ z hf hz
            have hys : (assoc s1.2 y.ring).isSome = true := by rw [hyr, has]; rfl
            have hdl := dfs_len (p.R, p.G) k y s1 hwf1 hys
            refine CallsTo.mono (show CallsTo Try.prog 55 [y.val, .pointer (some ⟨bo, 0, none⟩), .pointer (some ⟨bl, 0, none⟩), .pointer (some ⟨bp, 0, none⟩), .pointer (some ⟨bf, 0, none⟩)] w1 _ from ih y a5 c5 s1 w1 (h2.holds _ (mH _ _)) hE1 hnd1 hwf1 hys (by omega) (by omega)) ?_
            rintro v w2 ⟨rfl, a6, c6, st⟩
            have h4 := vG_open (h2.did (Sel.head _ _ _) rfl st vG_dep)
            refine LR.back h4 ?_
            clear h4 st h2 hap hE1 h1
            rw [← hds] at hdl ⊢
            obtain ⟨s2, hs2'⟩ : ∃ s2, s2 = dStep (p.R, p.G) k x s1 n := ⟨_, rfl⟩
            rw [← hs2'] at hdl htk ⊢
            repeat'(first|refine kv' ?_|apply jJ|refine jE' ?_|refine jp' ?_|(apply jc;kernel_rfl)|refine kg' ?_|refine kG' ?_|refine kB' fun _=>?_|refine kA' fun _=>?_|refine kK' fun _=>?_|refine kU' ?_|(apply addX;(iterate 2 exact rfl);(iterate 2(first|omega|(dsimp only;omega)));exact rfl)|((first|refine kR' ?_ ?_|refine kQ' ?_ ?_);all_goals(intro hc;try simp only[hcs]at hc;try(exfalso;first|contradiction|omega))))
            refine At.again (⟨i + 1, a6, c6, s2⟩ : GSt) ⟨⟨by simp only; omega, by simp only; rw [htk]⟩, hnd1.sublist (hdl.2.map _), hwf1.sub hdl.2, by simp only; have := hdl.2.length_le; omega, by simp only; omega⟩ ?_ ⟨rfl, trivial⟩ (fun w' hw' => hw'.sub subZ) (by simp only; omega)
            (repeat (first | exact Out.refl _ _ | exact Out.mix | (apply Out.upd; (· exact rfl)) | (apply Out.updL; (· exact rfl)) | (apply Out.mixs; (· exact rfl))))
    · have hie : i = ns.length := by omega
      subst hie
      rw [List.take_length] at hs
      repeat'(first|refine kv' ?_|apply jJ|refine jE' ?_|refine jp' ?_|(apply jc;kernel_rfl)|refine kg' ?_|refine kG' ?_|refine kB' fun _=>?_|refine kA' fun _=>?_|refine kK' fun _=>?_|refine kU' ?_|((first|refine kR' ?_ ?_|refine kQ' ?_ ?_);all_goals(intro hc;try simp only[hcs]at hc;try(exfalso;first|contradiction|omega))))
      apply end0; (· exact rfl); intro w' hS
      refine ⟨rfl, a5, c5, ?_⟩
      rw [hdfs, ← hs]
      subst hF
      exact (vG_shut hS).step rfl
end Go.Proofs.Ytgblmkpfkcibiaa

namespace Go.Proofs.Ytgblmkpfkcibiaa
open Go.Hb
attribute [local irreducible] LR CW At Ev thn blk finK noG again CallsTo DW QL dnext TW DP gpost
set_option maxRecDepth 100000

theorem asc_lenM : ∀ (l : List Int) (a : Int) (n : Nat), l.Pairwise (· < ·) → (∀ x ∈ l, a ≤ x ∧ x < a + n) → l.length ≤ n
  | [], _, _, _, _ => Nat.zero_le _
  | x :: l, a, n, h, hr => by
    rw [List.pairwise_cons] at h
    have hx := hr x List.mem_cons_self
    cases n with
    | zero => omega
    | succ n =>
      have := asc_lenM l (a + 1) n h.2 (fun y hy => by
        have h1 := h.1 y hy
        have h2 := hr y (List.mem_cons_of_mem _ hy)
        omega)
      rw [List.length_cons]
      omega
theorem far_rng {R : List Int} {G : List Gat} {n r b : Int} (h : farT R G n r = some b) : 0 ≤ b ∧ b < R.length := by
  unfold farT at h
  split at h
  · rename_i hc
    have hok := pl_ok hc
    have : ∀ G', (∀ g ∈ G', Fine R g) → farG G' n r = some b → 0 ≤ b ∧ b < R.length := by
      intro G'
      induction G' with
      | nil => intro _ h; cases h
      | cons g t ih =>
        intro hf hg
        have hg' := hf g List.mem_cons_self
        have h1 := hg'.a0
        have h2 := hg'.ab
        have h3 := hg'.bl
        unfold farG at hg
        split at hg
        · cases hg; omega
        · split at hg
          · cases hg; omega
          · exact ih (fun x hx => hf x (List.mem_cons_of_mem _ hx)) hg
    exact this G hok.fine h
  · cases h
theorem rch_rng {p : List Int × List Gat} {K : List Plc} {a b : Int} (ha : 0 ≤ a ∧ a < p.1.length) (h : Rch (stepsR p K) a b) : 0 ≤ b ∧ b < p.1.length := by
  induction h with
  | refl => exact ha
  | step _ hs _ =>
    obtain ⟨x, y, n, _, _, _, h1, _⟩ := stepsR_iff.1 hs
    exact far_rng h1
theorem ViewIs.len {p : List Int × List Gat} {K : List Plc} {fr : Int} {v : List Plc} (h : ViewIs p K fr v) (hf : 0 ≤ fr ∧ fr < p.1.length) : v.length ≤ p.1.length := by
  have := asc_lenM (v.map Plc.ring) 0 p.1.length h.asc (fun x hx => by
    have := rch_rng hf ((h.mem x).1 hx)
    omega)
  simpa using this
abbrev plR (w w' : World) (v : Value) (l : List Plc) : Prop := ∃ a' c', v = .slice a' l.length c' ∧ NewSl w w' (.slice a' l.length c') 44 4 l.length (pcs l)
theorem plR_nil (w : World) {w' : World} (h : Grew w w') : plR w w' (.slice none 0 0) [] := ⟨none, 0, rfl, ((h : St w NoF [] w').nilsl 44 4).toNew (mH _ _)⟩
theorem leftS_wf {l : List (Int × Plc)} {x : Plc} (h : WfL l) : WfL (leftS l x) := by
  unfold leftS
  split
  · exact h
  · intro q hq
    rcases List.mem_append.1 hq with hq | hq
    · exact h q hq
    · rw [List.mem_singleton] at hq; rw [hq]
theorem left_wf : ∀ (L : List Plc) (l : List (Int × Plc)), WfL l → WfL (L.foldl leftS l)
  | [], l, h => h
  | x :: r, l, h => left_wf r _ (leftS_wf h)
theorem leftL_wf (K : List Plc) : WfL (leftL K) := left_wf K [] (fun q hq => by cases hq)
set_option maxHeartbeats 4000000 in
theorem m24 (p : Pln) (A : PlA) (hi : PlI p) (fr : Int) (K : List Plc) (a : Option Addr) (c : Nat) (w : World) (hr : PlR w p A) (hk : Rd w a (pcs K)) (hm : K.length * 32 ≤ 140737488351232) :
    CallsTo Try.prog 24 [p.val A, .int .i64 fr, .slice a K.length c] w fun v w' => plR w w' v (viewP (p.R, p.G) fr K) := by
  refine go_in (n := 64) ((pl_in hr).addRd hk (fun _ _ h => h)) Try.func24 rfl rfl ?_
  rw [show p.val A = .agg [.slice A.ra p.R.length A.rc, .slice A.ga p.G.length A.gc].toArray from rfl]
  unfold viewP
  cases hck : chkP p.R p.G with
  | false =>
    rw [Bool.false_and, if_neg (by simp)]
    repeat'(first|refine kv' ?_|apply jJ|refine jE' ?_|refine jp' ?_|(apply jc;kernel_rfl)|refine kg' ?_|refine kG' ?_|refine kB' fun _=>?_|refine kA' fun _=>?_|refine kK' fun _=>?_|refine kU' ?_|(apply kq; (· exact rfl); (· intro w1 h1; exact (show CallsTo Try.prog 13 [p.val A] w1 _ from m13F hi h1 ⟨h1.rd_of memZ, h1.rd_of memZ⟩ hck)))|((first|refine kR' ?_ ?_|refine kQ' ?_ ?_);all_goals(intro hc;try simp only[hcs]at hc;try(exfalso;first|contradiction|omega))))
    (apply ret1; (· exact rfl); intro w' hS)
    exact plR_nil w hS.toKeep
  | true =>
    by_cases hfr : ¬ (0 ≤ fr ∧ fr < p.R.length)
    · have e : ringG p.R fr = false := by unfold ringG; exact decide_eq_false hfr
      rw [e, Bool.and_false, if_neg (by simp)]
      repeat'(first|refine kv' ?_|apply jJ|refine jE' ?_|refine jp' ?_|(apply jc;kernel_rfl)|refine kg' ?_|refine kG' ?_|refine kB' fun _=>?_|refine kA' fun _=>?_|refine kK' fun _=>?_|refine kU' ?_|(apply kq; (· exact rfl); (· intro w1 h1; exact (show CallsTo Try.prog 13 [p.val A] w1 _ from m13T hi h1 ⟨h1.rd_of memZ, h1.rd_of memZ⟩ hck)))|((first|refine kR' ?_ ?_|refine kQ' ?_ ?_);all_goals(intro hc;try simp only[hcs]at hc;try(exfalso;first|contradiction|omega))))
      all_goals (first
        | (exfalso; omega)
        | ((apply ret1; (· exact rfl); intro w' hS)
           exact plR_nil w hS.toKeep))
    have hfr : 0 ≤ fr ∧ fr < p.R.length := Classical.not_not.1 hfr
    have e : ringG p.R fr = true := by unfold ringG; exact decide_eq_true hfr
    rw [e, Bool.and_true, if_pos rfl]
    clear e
    repeat'(first|(refine kB' fun bp => ?_)|(refine LR.makeMapK (enc := intK IntKind.i64) (ok := okK) rfl fun bm => ?_)|(refine kA' fun bl => ?_)|refine kv' ?_|apply jJ|refine jE' ?_|refine jp' ?_|(apply jc;kernel_rfl)|refine kg' ?_|refine kG' ?_|refine kB' fun _=>?_|refine kA' fun _=>?_|refine kK' fun _=>?_|refine kU' ?_|(apply kq; (· exact rfl); (· intro w1 h1; exact (show CallsTo Try.prog 13 [p.val A] w1 _ from m13T hi h1 ⟨h1.rd_of memZ, h1.rd_of memZ⟩ hck)))|((first|refine kR' ?_ ?_|refine kQ' ?_ ?_);all_goals(intro hc;try simp only[hcs]at hc;try(exfalso;first|contradiction|omega))))
    apply CW.loop [9, 10, 11, 33, 34, 35, 36, 37, 38, 39, 40, 41, 42, 43, 44, 45, 46, 47, 48, 49, 50] (fun s : Nat × List (Int × Plc) => s.1 ≤ K.length ∧ s.2 = (K.take s.1).foldl leftS []) (fun s => [(33, .int .i64 (s.1 : Int))])
      (fun s => St w NoF [lC bl bm, kM91 bm s.2, .own bp (.cells [Value.slice A.ra p.R.length A.rc, .slice A.ga p.G.length A.gc].toArray 25 (0, 0)), rdA a (pcs K), rdA A.ga (gv p.G), rdA A.ra (iv p.R)]) (fun s => K.length - s.1)
    · exact fun w' hw' => ⟨(0, []), ⟨Nat.zero_le _, rfl⟩, ⟨rfl, trivial⟩, hw'⟩
    rintro ⟨i, l⟩ g1 ⟨hil, hl⟩
    simp only at hil hl ⊢
    have hok : LeftOk (K.take i) l := by rw [hl]; exact leftL_ok (K.take i)
    have hnd := hok.nd
    by_cases hlt : i < K.length
    · obtain ⟨x, hx⟩ : ∃ x, K[i] = x := ⟨_, rfl⟩
      have hKi : K[i]? = some x := by rw [List.getElem?_eq_getElem hlt, hx]
      have htk : (K.take (i + 1)).foldl leftS [] = leftS l x := by
        rw [List.take_add_one, hKi, List.foldl_append, ← hl]; rfl
      obtain ⟨ba, oa, rfl⟩ := hk.form (fun e => by have h1 := congrArg List.length e; rw [pcs_length, List.length_nil] at h1; omega)
      have hlf : leftS l x = if l.any (fun q => decide (q.1 = x.ring)) then l else l ++ [(x.ring, x)] := rfl
      cases ha : l.any (fun q => decide (q.1 = x.ring)) with
      | true =>
        rw [ha, if_pos rfl] at hlf
        obtain ⟨y, hy⟩ := any_yes ha
        repeat'(first|refine kv' ?_|apply jJ|refine jE' ?_|refine jp' ?_|(apply jc;kernel_rfl)|refine kg' ?_|refine kG' ?_|refine kB' fun _=>?_|refine kA' fun _=>?_|refine kK' fun _=>?_|refine kU' ?_|(apply idxX;(iterate 2 exact rfl);(iterate 2(first|omega|(dsimp only;omega)));exact rfl)|(apply addX;(iterate 2 exact rfl);(iterate 2(first|omega|(dsimp only;omega)));exact rfl)|(apply LR.ev; (· apply Ev.load_agg_at (cs := [Value.int .i64 x.ring, .int .i64 x.seq, .int .i64 x.rep, .int .i64 x.members]); (· exact rfl); (· exact rfl); (· intro w' hw'; refine pcs_cell (x := x) (hw'.rd_of memZ) hKi ?_; (· simp; done))); (· exact rfl))|(apply LR.ev; (· apply Ev.lookup_yes (enc := intK IntKind.i64) (ok := okK) (l := kvs l) (a := x.ring) (u := y.val); (· exact rfl); (· exact rfl); (· exact fun w' hw' => hw'.holds (kM91 bm l) memZ); (· exact fun _ _ => trivial); (· rw [kvs_fst]; exact hnd); (· exact assoc_mem hy)); (· exact rfl))|((first|refine kR' ?_ ?_|refine kQ' ?_ ?_);all_goals(intro hc;try simp only[hcs]at hc;try(exfalso;first|contradiction|omega))))
        refine At.again (i + 1, l) ⟨by show i + 1 ≤ _; omega, by show l = _; rw [htk, hlf]⟩ ?_ ⟨rfl, trivial⟩ (fun w' hw' => hw'.sub subZ) (by show K.length - (i + 1) < K.length - i; omega)
        (repeat (first | exact Out.refl _ _ | exact Out.mix | (apply Out.upd; (· exact rfl)) | (apply Out.updL; (· exact rfl)) | (apply Out.mixs; (· exact rfl))))
      | false =>
        rw [ha, if_neg (by simp)] at hlf
        repeat'(first|refine kv' ?_|apply jJ|refine jE' ?_|refine jp' ?_|(apply jc;kernel_rfl)|refine kg' ?_|refine kG' ?_|refine kB' fun _=>?_|refine kA' fun _=>?_|refine kK' fun _=>?_|refine kU' ?_|(apply idxX;(iterate 2 exact rfl);(iterate 2(first|omega|(dsimp only;omega)));exact rfl)|(apply addX;(iterate 2 exact rfl);(iterate 2(first|omega|(dsimp only;omega)));exact rfl)|(apply LR.ev; (· apply Ev.load_agg_at (cs := [Value.int .i64 x.ring, .int .i64 x.seq, .int .i64 x.rep, .int .i64 x.members]); (· exact rfl); (· exact rfl); (· intro w' hw'; refine pcs_cell (x := x) (hw'.rd_of memZ) hKi ?_; (· simp; done))); (· exact rfl))|(apply LR.ev; (· apply Ev.lookup_no (enc := intK IntKind.i64) (ok := okK) (l := kvs l) (a := x.ring); (· exact rfl); (· exact rfl); (· exact fun w' hw' => hw'.holds (kM91 bm l) memZ); (· exact fun _ _ => trivial); (· trivial); (· exact assoc_no (any_no ha))); (· exact rfl))|((first|refine kR' ?_ ?_|refine kQ' ?_ ?_);all_goals(intro hc;try simp only[hcs]at hc;try(exfalso;first|contradiction|omega))))
        refine LR.insertK (enc := intK IntKind.i64) (ok := okK) (l := kvs l) (a := x.ring) (v := x.val) rfl rfl rfl selZ (fun _ _ => trivial) trivial (assoc_no (any_no ha)) ?_
        rw [kvs_snoc]
        repeat'(first|refine kv' ?_|apply jJ|refine jE' ?_|refine jp' ?_|(apply jc;kernel_rfl)|refine kg' ?_|refine kG' ?_|refine kB' fun _=>?_|refine kA' fun _=>?_|refine kK' fun _=>?_|refine kU' ?_|(apply addX;(iterate 2 exact rfl);(iterate 2(first|omega|(dsimp only;omega)));exact rfl)|((first|refine kR' ?_ ?_|refine kQ' ?_ ?_);all_goals(intro hc;try simp only[hcs]at hc;try(exfalso;first|contradiction|omega))))
        refine At.again (i + 1, l ++ [(x.ring, x)]) ⟨by show i + 1 ≤ _; omega, by show l ++ [(x.ring, x)] = _; rw [htk, hlf]⟩ ?_ ⟨rfl, trivial⟩ (fun w' hw' => hw'.sub subZ) (by show K.length - (i + 1) < K.length - i; omega)
        (repeat (first | exact Out.refl _ _ | exact Out.mix | (apply Out.upd; (· exact rfl)) | (apply Out.updL; (· exact rfl)) | (apply Out.mixs; (· exact rfl))))
    have hie : i = K.length := by omega
    subst hie
    rw [List.take_length] at hl hok
    have hl : l = leftL K := hl
    cases hpk : plcK K fr with
    | none =>
      repeat'(first|(refine kA' (T := 37) fun bo => ?_)|(refine kA' (T := 93) fun bf => ?_)|(refine kA' (T := 44) fun bx => ?_)|(apply LR.ev (v := Value.func (.func 55) #[] #[.pointer (some ⟨bo, 0, none⟩), .pointer (some ⟨bl, 0, none⟩), .pointer (some ⟨bp, 0, none⟩), .pointer (some ⟨bf, 0, none⟩)]); (· exact Ev.makeFunc (xs := []) (ys := [.tmp 12, .tmp 7, .tmp 3, .tmp 13])); (· exact rfl))|refine kv' ?_|apply jJ|refine jE' ?_|refine jp' ?_|(apply jc;kernel_rfl)|refine kg' ?_|refine kG' ?_|refine kB' fun _=>?_|refine kA' fun _=>?_|refine kK' fun _=>?_|refine kU' ?_|(apply LR.ev; (· apply Ev.lookup_no (enc := intK IntKind.i64) (ok := okK) (l := kvs l) (a := fr); (· exact rfl); (· exact rfl); (· exact fun w' hw' => hw'.holds (kM91 bm l) memZ); (· exact fun _ _ => trivial); (· trivial); (· exact assoc_no (by rw [hok.eq, hpk]))); (· exact rfl))|((first|refine kR' ?_ ?_|refine kQ' ?_ ?_);all_goals(intro hc;try simp only[hcs]at hc;try(exfalso;first|contradiction|omega))))
      apply LR.call
      · exact rfl
      intro w1 h1
      have h2 := h1.nilsl 44 4
      refine CallsTo.mono (show CallsTo Try.prog 56 [.slice none 0 0] w1 _ from sort_few none 0 [] w1 (h2.holds (pN none 0 0 []) (mH _ _)) (by simp)) ?_
      rintro v w2 ⟨rfl, st⟩
      refine LR.back (h2.did (Sel.head _ _ _) rfl st (osl.dep _ _ _ _ _)) ?_
      clear h1 h2 st
      repeat'(first|refine kv' ?_|apply jJ|refine jE' ?_|refine jp' ?_|(apply jc;kernel_rfl)|refine kg' ?_|refine kG' ?_|refine kB' fun _=>?_|refine kA' fun _=>?_|refine kK' fun _=>?_|refine kU' ?_|((first|refine kR' ?_ ?_|refine kQ' ?_ ?_);all_goals(intro hc;try simp only[hcs]at hc;try(exfalso;first|contradiction|omega))))
      (apply ret1; (· exact rfl); intro w' hS)
      exact plR_nil w hS.toKeep
    | some x =>
      repeat'(first|(refine kA' (T := 37) fun bo => ?_)|(refine kA' (T := 93) fun bf => ?_)|(refine kA' (T := 44) fun bx => ?_)|(apply LR.ev (v := Value.func (.func 55) #[] #[.pointer (some ⟨bo, 0, none⟩), .pointer (some ⟨bl, 0, none⟩), .pointer (some ⟨bp, 0, none⟩), .pointer (some ⟨bf, 0, none⟩)]); (· exact Ev.makeFunc (xs := []) (ys := [.tmp 12, .tmp 7, .tmp 3, .tmp 13])); (· exact rfl))|refine kv' ?_|apply jJ|refine jE' ?_|refine jp' ?_|(apply jc;kernel_rfl)|refine kg' ?_|refine kG' ?_|refine kB' fun _=>?_|refine kA' fun _=>?_|refine kK' fun _=>?_|refine kU' ?_|(apply LR.ev; (· apply Ev.lookup_yes (enc := intK IntKind.i64) (ok := okK) (l := kvs l) (a := fr) (u := x.val); (· exact rfl); (· exact rfl); (· exact fun w' hw' => hw'.holds (kM91 bm l) memZ); (· exact fun _ _ => trivial); (· rw [kvs_fst]; exact hnd); (· exact assoc_mem (by rw [hok.eq, hpk]))); (· exact rfl))|((first|refine kR' ?_ ?_|refine kQ' ?_ ?_);all_goals(intro hc;try simp only[hcs]at hc;try(exfalso;first|contradiction|omega))))
      have hxr := plcK_ring hpk
      apply LR.call_val (g := 55) (cap := [.pointer (some ⟨bo, 0, none⟩), .pointer (some ⟨bl, 0, none⟩), .pointer (some ⟨bp, 0, none⟩), .pointer (some ⟨bf, 0, none⟩)])
      · exact rfl
      · exact rfl
      intro w1 h1
      have h2 := h1.nilsl 44 4
      have h3 : St w NoF [kM91 bm l, pN none 0 0 [], .own bx (.cells [Value.int .i64 x.ring, .int .i64 x.seq, .int .i64 x.rep, .int .i64 x.members].toArray 44 (0, 0)), .own bf (.cells [Value.func (.func 55) #[] #[.pointer (some ⟨bo, 0, none⟩), .pointer (some ⟨bl, 0, none⟩), .pointer (some ⟨bp, 0, none⟩), .pointer (some ⟨bf, 0, none⟩)]].toArray 93 (0, 0)), oC bo none 0 0, lC bl bm, .own bp (.cells [Value.slice A.ra p.R.length A.rc, .slice A.ga p.G.length A.gc].toArray 25 (0, 0)), rdA a (pcs K), rdA A.ga (gv p.G), rdA A.ra (iv p.R)] w1 := front h2 5 rfl rfl
      have h4 : St w NoF [lC bl bm, kM91 bm l, pN none 0 0 [], .own bx (.cells [Value.int .i64 x.ring, .int .i64 x.seq, .int .i64 x.rep, .int .i64 x.members].toArray 44 (0, 0)), .own bf (.cells [Value.func (.func 55) #[] #[.pointer (some ⟨bo, 0, none⟩), .pointer (some ⟨bl, 0, none⟩), .pointer (some ⟨bp, 0, none⟩), .pointer (some ⟨bf, 0, none⟩)]].toArray 93 (0, 0)), oC bo none 0 0, .own bp (.cells [Value.slice A.ra p.R.length A.rc, .slice A.ga p.G.length A.gc].toArray 25 (0, 0)), rdA a (pcs K), rdA A.ga (gv p.G), rdA A.ra (iv p.R)] w1 := front h3 5 rfl rfl
      have h5 : St w NoF [pN none 0 0 [], lC bl bm, kM91 bm l, .own bx (.cells [Value.int .i64 x.ring, .int .i64 x.seq, .int .i64 x.rep, .int .i64 x.members].toArray 44 (0, 0)), .own bf (.cells [Value.func (.func 55) #[] #[.pointer (some ⟨bo, 0, none⟩), .pointer (some ⟨bl, 0, none⟩), .pointer (some ⟨bp, 0, none⟩), .pointer (some ⟨bf, 0, none⟩)]].toArray 93 (0, 0)), oC bo none 0 0, .own bp (.cells [Value.slice A.ra p.R.length A.rc, .slice A.ga p.G.length A.gc].toArray 25 (0, 0)), rdA a (pcs K), rdA A.ga (gv p.G), rdA A.ra (iv p.R)] w1 := front h4 2 rfl rfl
      have h5b : St w NoF [oC bo none 0 0, pN none 0 0 [], lC bl bm, kM91 bm l, .own bx (.cells [Value.int .i64 x.ring, .int .i64 x.seq, .int .i64 x.rep, .int .i64 x.members].toArray 44 (0, 0)), .own bf (.cells [Value.func (.func 55) #[] #[.pointer (some ⟨bo, 0, none⟩), .pointer (some ⟨bl, 0, none⟩), .pointer (some ⟨bp, 0, none⟩), .pointer (some ⟨bf, 0, none⟩)]].toArray 93 (0, 0)), .own bp (.cells [Value.slice A.ra p.R.length A.rc, .slice A.ga p.G.length A.gc].toArray 25 (0, 0)), rdA a (pcs K), rdA A.ga (gv p.G), rdA A.ra (iv p.R)] w1 := front h5 5 rfl rfl
      have h6 : St w NoF (vG bo bl bm none 0 ([], l) :: [.own bx (.cells [Value.int .i64 x.ring, .int .i64 x.seq, .int .i64 x.rep, .int .i64 x.members].toArray 44 (0, 0)), .own bf (.cells [Value.func (.func 55) #[] #[.pointer (some ⟨bo, 0, none⟩), .pointer (some ⟨bl, 0, none⟩), .pointer (some ⟨bp, 0, none⟩), .pointer (some ⟨bf, 0, none⟩)]].toArray 93 (0, 0)), .own bp (.cells [Value.slice A.ra p.R.length A.rc, .slice A.ga p.G.length A.gc].toArray 25 (0, 0)), rdA a (pcs K), rdA A.ga (gv p.G), rdA A.ra (iv p.R)]) w1 := vG_shut h5b
      have hap := fun (z : Asrt) (hz : z ∈ [.own bx (.cells [Value.int .i64 x.ring, .int .i64 x.seq, .int .i64 x.rep, .int .i64 x.members].toArray 44 (0, 0)), .own bf (.cells [Value.func (.func 55) #[] #[.pointer (some ⟨bo, 0, none⟩), .pointer (some ⟨bl, 0, none⟩), .pointer (some ⟨bp, 0, none⟩), .pointer (some ⟨bf, 0, none⟩)]].toArray 93 (0, 0)), .own bp (.cells [Value.slice A.ra p.R.length A.rc, .slice A.ga p.G.length A.gc].toArray 25 (0, 0)), rdA a (pcs K), rdA A.ga (gv p.G), rdA A.ra (iv p.R)]) => St.apart h6 hz (show (true || z.excl) = true from rfl)
      have hE1 : EnvG w1 p A bo bl bp bf (vG bo bl bm none 0 ([], l)).foot := by
        refine ⟨⟨h6.rd_of memZ, h6.rd_of memZ⟩, h6.rd_of_blk memZ, h6.rd_of_blk memZ, ?_, ?_, ?_, ?_⟩
        · exact fun z hz hf => hap (rdA A.ra (iv p.R)) memZ z hf hz
        · exact fun z hz hf => hap (rdA A.ga (gv p.G)) memZ z hf hz
        · intro z hz hf
          obtain ⟨_, ad, e, hz'⟩ := hz
          cases e
          exact hap (.own bp (.cells [Value.slice A.ra p.R.length A.rc, .slice A.ga p.G.length A.gc].toArray 25 (0, 0))) memZ z hf hz'
        · intro z hz hf
          obtain ⟨_, ad, e, hz'⟩ := hz
          cases e
          exact hap (.own bf (.cells [Value.func (.func 55) #[] #[.pointer (some ⟨bo, 0, none⟩), .pointer (some ⟨bl, 0, none⟩), .pointer (some ⟨bp, 0, none⟩), .pointer (some ⟨bf, 0, none⟩)]].toArray 93 (0, 0))) memZ z hf hz'
      have hll := leftL_len K
      refine CallsTo.mono (show CallsTo Try.prog 55 [x.val, .pointer (some ⟨bo, 0, none⟩), .pointer (some ⟨bl, 0, none⟩), .pointer (some ⟨bp, 0, none⟩), .pointer (some ⟨bf, 0, none⟩)] w1 _ from m55 p A hi bo bl bm bp bf l.length x none 0 ([], l) w1 (h6.holds _ (mH _ _)) hE1 hnd (by rw [hl]; exact leftL_wf K) (by rw [hok.eq, hxr, hpk]; rfl) (Nat.le_refl _) (by rw [hl]; simp only [List.length_nil]; omega)) ?_
      rintro v w2 ⟨rfl, a6, c6, st⟩
      have h8 := vG_open (h6.did (Sel.head _ _ _) rfl st vG_dep)
      refine LR.back h8 ?_
      clear h8 st hap hE1 h6 h5b h5 h4 h3 h2 h1
      have hvi := view_is (p := (p.R, p.G)) hpk
      have hvl := hvi.len hfr
      have hok2 := pl_ok hck
      rw [← hl] at hvi hvl ⊢
      obtain ⟨s2, hs2⟩ : ∃ s2, s2 = dfsP (p.R, p.G) l.length x ([], l) := ⟨_, rfl⟩
      rw [← hs2] at hvi hvl ⊢
      have hil2 := isP_len s2.1
      have hl4 := hok2.l4
      have hvl : (isP s2.1).length ≤ p.R.length := hvl
      repeat'(first|refine kv' ?_|apply jJ|refine jE' ?_|refine jp' ?_|(apply jc;kernel_rfl)|refine kg' ?_|refine kG' ?_|refine kB' fun _=>?_|refine kA' fun _=>?_|refine kK' fun _=>?_|refine kU' ?_|((first|refine kR' ?_ ?_|refine kQ' ?_ ?_);all_goals(intro hc;try simp only[hcs]at hc;try(exfalso;first|contradiction|omega))))
      apply LR.call
      · exact rfl
      intro w1 h1
      refine CallsTo.mono (show CallsTo Try.prog 56 [.slice a6 s2.1.length c6] w1 _ from sort_few a6 c6 s2.1 w1 (h1.holds (pN a6 s2.1.length c6 s2.1) memZ) (by omega)) ?_
      rintro v w2 ⟨rfl, st⟩
      refine LR.back (h1.did selZ rfl st (osl.dep _ _ _ _ _)) ?_
      clear h1 st
      repeat'(first|refine kv' ?_|apply jJ|refine jE' ?_|refine jp' ?_|(apply jc;kernel_rfl)|refine kg' ?_|refine kG' ?_|refine kB' fun _=>?_|refine kA' fun _=>?_|refine kK' fun _=>?_|refine kU' ?_|((first|refine kR' ?_ ?_|refine kQ' ?_ ?_);all_goals(intro hc;try simp only[hcs]at hc;try(exfalso;first|contradiction|omega))))
      (apply ret1; (· exact rfl); intro w' hS)
      show plR w w' (.slice a6 s2.1.length c6) (isP (dfsP (p.R, p.G) l.length x ([], l)).1)
      rw [← hs2]
      refine ⟨a6, c6, ?_, ?_⟩
      · show Value.slice a6 s2.1.length c6 = Value.slice a6 (isP s2.1).length c6
        rw [hil2]
      · have h9 : pN a6 s2.1.length c6 (isP s2.1) = osl (.slice a6 (isP s2.1).length c6) 44 4 (isP s2.1).length (pcs (isP s2.1)) := by rw [hil2]
        rw [h9] at hS
        exact hS.toNew memZ
end Go.Proofs.Ytgblmkpfkcibiaa

namespace Go.Proofs.Ytgblmkpfkcibiaa
open Go.Hb

def sw1 (st : Int → Int → Bool) (a : Nat) (bs : List Bool) (b : Nat) : List Bool := if bs.getD a false && st a b then bs.set b true else bs
def rowS (st : Int → Int → Bool) (n : Nat) (bs : List Bool) (a : Nat) : List Bool := (List.range n).foldl (sw1 st a) bs
def swp (st : Int → Int → Bool) (n : Nat) (bs : List Bool) : List Bool := (List.range n).foldl (rowS st n) bs
def itS (st : Int → Int → Bool) (n : Nat) (bs : List Bool) : Nat → List Bool
  | 0 => bs
  | k + 1 => swp st n (itS st n bs k)
structure Le (bs cs : List Bool) : Prop where
  len : cs.length = bs.length
  le : ∀ i, bs.getD i false = true → cs.getD i false = true
theorem Le.refl (bs : List Bool) : Le bs bs := ⟨rfl, fun _ h => h⟩
theorem Le.trans {a b c : List Bool} (h : Le a b) (h2 : Le b c) : Le a c := ⟨h2.len.trans h.len, fun i hi => h2.le i (h.le i hi)⟩
theorem getD_set {bs : List Bool} {b i : Nat} : (bs.set b true).getD i false = (bs.getD i false || (decide (i = b) && decide (b < bs.length))) := by
  rw [List.getD_eq_getElem?_getD, List.getD_eq_getElem?_getD, List.getElem?_set]
  by_cases h : b = i
  · subst h
    by_cases hl : b < bs.length
    · simp [hl]
    · simp [hl, List.getElem?_eq_none (Nat.le_of_not_lt hl)]
  · have h2 : ¬ i = b := fun e => h e.symm
    simp [h, h2]
theorem Le.sw1 (st : Int → Int → Bool) (a b : Nat) (bs : List Bool) : Le bs (Go.Proofs.Ytgblmkpfkcibiaa.sw1 st a bs b) := by
  unfold Go.Proofs.Ytgblmkpfkcibiaa.sw1
  split
  · exact ⟨by simp, fun i h => by rw [getD_set, h]; rfl⟩
  · exact Le.refl _
theorem Le.fold {α : Type} {f : List Bool → α → List Bool} (hf : ∀ bs x, Le bs (f bs x)) : ∀ (l : List α) (bs : List Bool), Le bs (l.foldl f bs)
  | [], bs => Le.refl _
  | x :: r, bs => (hf bs x).trans (Le.fold hf r _)
theorem Le.row (st : Int → Int → Bool) (n a : Nat) (bs : List Bool) : Le bs (rowS st n bs a) := Le.fold (fun bs b => Le.sw1 st a b bs) _ _
theorem Le.swp (st : Int → Int → Bool) (n : Nat) (bs : List Bool) : Le bs (Go.Proofs.Ytgblmkpfkcibiaa.swp st n bs) := Le.fold (fun bs a => Le.row st n a bs) _ _
theorem Le.ext {bs cs : List Bool} (h : Le bs cs) (h2 : Le cs bs) : bs = cs := by
  refine List.ext_getElem h.len.symm fun i h1 h3 => ?_
  have a1 := h.le i
  have a2 := h2.le i
  rw [List.getD_eq_getElem?_getD, List.getD_eq_getElem?_getD, List.getElem?_eq_getElem h1, List.getElem?_eq_getElem h3, Option.getD_some, Option.getD_some] at a1 a2
  cases hx : bs[i] <;> cases hy : cs[i] <;> simp_all
def AllR (st : Int → Int → Bool) (fr : Int) (bs : List Bool) : Prop := ∀ i, bs.getD i false = true → Rch st fr (i : Int)
theorem AllR.sw1 {st : Int → Int → Bool} {fr : Int} {bs : List Bool} (h : AllR st fr bs) (a b : Nat) : AllR st fr (Go.Proofs.Ytgblmkpfkcibiaa.sw1 st a bs b) := by
  unfold Go.Proofs.Ytgblmkpfkcibiaa.sw1
  split
  · rename_i hc
    rw [Bool.and_eq_true] at hc
    intro i hi
    rw [getD_set] at hi
    by_cases hib : i = b
    · subst hib; exact (h a hc.1).step hc.2
    · exact h i (by simpa [hib] using hi)
  · exact h
theorem AllR.fold {st : Int → Int → Bool} {fr : Int} {α : Type} {f : List Bool → α → List Bool} (hf : ∀ bs x, AllR st fr bs → AllR st fr (f bs x)) : ∀ (l : List α) (bs : List Bool), AllR st fr bs → AllR st fr (l.foldl f bs)
  | [], bs, h => h
  | x :: r, bs, h => AllR.fold hf r _ (hf bs x h)
theorem AllR.it {st : Int → Int → Bool} {fr : Int} {n : Nat} {bs : List Bool} (h : AllR st fr bs) : ∀ k, AllR st fr (itS st n bs k)
  | 0 => h
  | k + 1 => AllR.fold (fun bs a h => AllR.fold (fun bs b h => h.sw1 a b) _ _ h) _ _ (h.it k)
end Go.Proofs.Ytgblmkpfkcibiaa

namespace Go.Proofs.Ytgblmkpfkcibiaa
open Go.Hb
attribute [local irreducible] LR CW At Ev thn blk finK noG again CallsTo DW QL dnext TW DP gpost
set_option maxRecDepth 100000

theorem pcs_snoc (O : List Plc) (z : Plc) : pcs (O ++ [z]) = pcs O ++ z.cells := by simp [pcs]
theorem pN_snoc {a : Option Addr} {c : Nat} {O : List Plc} {z : Plc} : pN a (O ++ [z]).length c (O ++ [z]) = osl (.slice a (O.length + 1) c) 44 4 (O.length + 1) (pcs O ++ z.cells) := by
  have h1 : (O ++ [z]).length = O.length + 1 := by simp
  show osl _ _ _ _ (pcs (O ++ [z])) = _
  rw [h1, pcs_snoc]
end Go.Proofs.Ytgblmkpfkcibiaa

namespace Go.Hb
def eq3V : Value → Value → Option Bool
  | .agg ⟨[.int .i64 a, .int .i64 b, .int .i64 c]⟩, .agg ⟨[.int .i64 a', .int .i64 b', .int .i64 c']⟩ => some (decide ([a, b, c] = [a', b', c']))
  | _, _ => none
def eq6V : Value → Value → Option Bool
  | .agg ⟨[.int .i64 a, .int .i64 b, .int .i64 c, .int .i64 d, .int .i64 e, .int .i64 g]⟩, .agg ⟨[.int .i64 a', .int .i64 b', .int .i64 c', .int .i64 d', .int .i64 e', .int .i64 g']⟩ => some (decide ([a, b, c, d, e, g] = [a', b', c', d', e', g']))
  | _, _ => none
theorem eq3V_inv {v u : Value} {r : Bool} (h : eq3V v u = some r) : ∃ xs ys : List Int, v = .agg (xs.map (Value.int .i64)).toArray ∧ u = .agg (ys.map (Value.int .i64)).toArray ∧ xs.length = 3 ∧ ys.length = 3 ∧ r = decide (xs = ys) := by
  unfold eq3V at h; split at h
  · rename_i a b c a' b' c'; cases h; exact ⟨[a, b, c], [a', b', c'], rfl, rfl, rfl, rfl, rfl⟩
  · cases h
theorem eq6V_inv {v u : Value} {r : Bool} (h : eq6V v u = some r) : ∃ xs ys : List Int, v = .agg (xs.map (Value.int .i64)).toArray ∧ u = .agg (ys.map (Value.int .i64)).toArray ∧ xs.length = 6 ∧ ys.length = 6 ∧ r = decide (xs = ys) := by
  unfold eq6V at h; split at h
  · rename_i a b c d e g a' b' c' d' e' g'; cases h; exact ⟨[a, b, c, d, e, g], [a', b', c', d', e', g'], rfl, rfl, rfl, rfl, rfl⟩
  · cases h
instance {P : Program} {T : TypeId} [h : Eqs P T 3] : EqOf P T eq3V where
  eq := fun hb => by obtain ⟨_, _, h1, h2, h3, h4, rfl⟩ := eq3V_inv hb; exact Ev.structs h1 h2 h3 h4
  ne := fun hb => by obtain ⟨_, _, h1, h2, h3, h4, rfl⟩ := eq3V_inv hb; exact Ev.structs_ne h1 h2 h3 h4
instance {P : Program} {T : TypeId} [h : Eqs P T 6] : EqOf P T eq6V where
  eq := fun hb => by obtain ⟨_, _, h1, h2, h3, h4, rfl⟩ := eq6V_inv hb; exact Ev.structs h1 h2 h3 h4
  ne := fun hb => by obtain ⟨_, _, h1, h2, h3, h4, rfl⟩ := eq6V_inv hb; exact Ev.structs_ne h1 h2 h3 h4
end Go.Hb

namespace Go.Hb
theorem zeroCells_one (z : Value) (m : Nat) : (Builtin.zeroCells [z].toArray m).toList = List.replicate m z := by
  simp [Builtin.zeroCells]
  apply List.ext_getElem
  · simp
  · intro i h1 h2
    simp [Nat.mod_one]
theorem run_clear {P : Program} {w : World} {t E ty : TypeId} {z : Value} {by_ : Nat} (h : SliceOf P t E 1 by_) (hz : ZeroOf P E [z]) (h1 : z.oneCell' = true) {a : Option Addr} {n c j : Nat} {xs : List Value} (hw : ownsAt w E 1 (.slice a n c) n xs) (hj : j ≤ n) :
    ∃ w', (Builtin.clear_ #[t] ty #[.slice (subA a c j 1) (n - j) (c - j)]).run P w = .ok (.tuple #[]) w' ∧ Step (odl (.slice a n c) E 1 n xs) (odl (.slice a n c) E 1 n (xs.take j ++ List.replicate (n - j) z)) w w' := by
  obtain ⟨hl, hr⟩ := hw
  have hl' : xs.length = n := by omega
  by_cases hm : n - j = 0
  · refine ⟨w, ?_, ?_⟩
    · rw [hm]
      cases subA a c j 1 <;> simp [Builtin.clear_, run_underlying h.und]
    · have e : xs.take j ++ List.replicate (n - j) z = xs := by rw [hm, List.take_of_length_le (by omega)]; simp
      rw [e]
      exact ⟨St.refl w _, ⟨hl, hr⟩, fun k hk => .inl hk⟩
  · rcases hr with ⟨he, hn0⟩ | ⟨g, o, cap, cur, he, hg, hnc, hcm, hcs, htake⟩
    · omega
    simp only [Value.slice.injEq] at he
    obtain ⟨rfl, _, rfl⟩ := he
    obtain ⟨v, hv, hvc⟩ := hz.zero
    have hsub : subA (some ⟨g, o, none⟩) c j 1 = some ⟨g, o + j, none⟩ := by
      unfold subA
      rw [if_neg (by omega)]
      simp [addr_add]
    have hst := run_storeCells_at P g (o + j) E (List.replicate (n - j) z) 0 cur w (by simpa using hg) (by simp; omega) (fun u hu => by rw [List.eq_of_mem_replicate hu]; exact h1)
    have e : ∀ (D vs : List Value), D.take (o + j + 0) ++ vs ++ D.drop (o + j + 0 + vs.length) = splice D (o + j) vs := fun _ _ => rfl
    rw [e] at hst
    obtain ⟨m, hm'⟩ : ∃ m, n - j = m + 1 := ⟨n - j - 1, by omega⟩
    have hg' : w.heap[g]? = some (.cells cur.toList.toArray E (0, 0)) := by simpa using hg
    have hsz : cur.toList.length = cur.size := Array.length_toList
    refine ⟨w.setRow g (splice cur.toList (o + j) (List.replicate (n - j) z)).toArray, ?_, Keep.setRow w g _ _ E hg rfl, ⟨by simp; omega, .inr ⟨g, o, c, _, rfl, setRow_heap w g _ _ E (0, 0) hg, hnc, hcm, ?_, ?_⟩⟩, fun k hk => .inl hk⟩
    · rw [hsub]
      have hzc := zeroCells_one z (n - j)
      rw [hm'] at hzc hst ⊢
      simp [Builtin.clear_, run_underlying h.und, hv, hvc, hzc, hst]
    · simp [splice]; omega
    · show ((splice cur.toList (o + j) (List.replicate (n - j) z)).drop o).take (n * 1) = _
      rw [splice_drop (by omega), splice_take (by simp; omega) (by simp; omega), htake]
      unfold splice
      rw [List.drop_eq_nil_of_le (by simp; omega), List.append_nil]
section
variable {P : Program} {f : Frm} {T T' : TypeId} {x : Operand} {w0 : World} {F : Nat → Prop} {L L' : List Asrt}
variable {n' : Nat} {ops rest : List Oper} {Q : Post} {p : String} {af : Array Edge}
theorem LR.clear {E : TypeId} {z : Value} {by_ n c j : Nat} {a : Option Addr} {xs : List Value} [h : SliceOf P T E 1 by_] [hz : ZeroOf P E [z]] (hx : f.ev x = .slice (subA a c j 1) (n - j) (c - j)) (h1 : z.oneCell' = true)
    (hs : Sel L (odl (.slice a n c) E 1 n xs) (odl (.slice a n c) E 1 n (xs.take j ++ List.replicate (n - j) z)) L') (hj : j ≤ n)
    (k : LR false P n' ops rest Q f (St w0 F L')) : LR false P n' ops (⟨none, .call ⟨.builtin .clear, [x].toArray, [T].toArray⟩, T', p, af, none⟩ :: rest) Q f (St w0 F L) := by
  intro w hw b hb
  refine wpList_plain rfl fun K hK => ?_
  obtain ⟨w', hr, st⟩ := run_clear (P := P) (ty := T') h hz h1 (hw.holds _ hs.mem) hj
  have hr' : (execOp f.ev ⟨none, .call ⟨.builtin .clear, [x].toArray, [T].toArray⟩, T', p, af, none⟩).run P w = .ok (.value (.tuple #[])) w' := by
    simp only [execOp, resolve, invoke, builtin, Sem.run_bind, Sem.run_pure, Result.andThen_ok, List.map_toArray, List.map_cons, List.map_nil, hx, hr]
  rw [← hb.eval] at hr'
  simp only [Oper.wp, hr', Oper.upon_value]
  exact hK _ _ (k _ (hw.did hs rfl st (odl.dep _ _ _ _ _)) _ (hb.put_none _))
theorem Ev.field {C : World → Prop} {v : Value} {i : Nat} {fs : Array Field} {fd : Field} {cs : List Value} (hu : P.underlying T = some (.struct fs)) (hf : fs[i]? = some fd) (h : One P fd.type) (hx : f.ev x = .agg cs.toArray) (hc : cs[fd.offset]? = some v) : Ev P C f (.field T x i) T' v := by
  unfold Ev
  intro w _ d p af g
  simp [execOp, hx, Instr.field, run_underlying hu, hf, part, h.agg, asAgg, hc]
theorem LR.mapUpdate {T : TypeId} {x y z : Operand} {v zv : Value} {q : IntKind} {b : Nat} {l : List (Int × Value)} {key : Int} [h : MapOf P T q zv] (hx : f.ev x = .map (some b)) (hy : f.ev y = .int q key) (hz : f.ev z = v)
    (hs : Sel L (.own b (mapObj q l)) (.own b (mapObj q (l ++ [(key, v)]))) L') (hnew : (findI key l 0).isNone = true)
    (k : LR false P n' ops rest Q f (St w0 F L')) : LR false P n' ops (⟨none, .mapUpdate T x y z, T', p, af, none⟩ :: rest) Q f (St w0 F L) := by
  intro w hw a ha
  refine wpList_plain rfl fun K hK => ?_
  obtain ⟨kt, et, ht, hk, _⟩ := h.ex
  have hb : w.heap[b]? = some (.map (ents q 0 l).toArray l.length) := hw.own_at hs.mem
  have hfind : (Instr.findKey kt (.int q key) (ents q 0 l)).run P w = .ok none w := by
    refine MapKept.run_findKey hk ?_
    rw [findNow_ents]
    cases hf : findI key l 0 with
    | none => rfl
    | some r => rw [hf] at hnew; cases hnew
  have hr : (execOp a.eval ⟨none, .mapUpdate T x y z, T', p, af, none⟩).run P w = .ok .skip { w with heap := w.heap.setIfInBounds b (mapObj q (l ++ [(key, v)])) } := by
    rw [ha.eval]
    have e : Obj.map ((ents q 0 l).toArray.push ⟨.int q key, v, l.length⟩) (l.length + 1) = mapObj q (l ++ [(key, v)]) := by
      simp [mapObj, ents_snoc]
    simp only [execOp, hx, hy, hz, Instr.mapUpdate, Sem.run_bind, run_underlying ht, Result.andThen_ok, MapKept.run_getObj_map hb, MapKept.run_checkKey (k := .int q key) hk (by rfl) _ 9999, hfind, MapKept.run_setObj_map _ hb, e, Sem.run_pure]
  simp only [Oper.wp, hr, Oper.upon_skip]
  have hsz : b < w.heap.size := (Array.getElem?_eq_some_iff.1 hb).1
  refine hK _ _ (k _ ?_ _ (ha.put_none undef))
  exact hw.turn hs rfl (Keep.setObj w b _ rfl) (by show (w.heap.setIfInBounds b _)[b]? = _; simp [hsz]) (fun k hk => .inl hk) (Asrt.dep_own _ _)
end
end Go.Hb

namespace Go.Hb
theorem zeroCells_flat (zs : List Value) (hz : 0 < zs.length) (m : Nat) : (Builtin.zeroCells zs.toArray m).toList = (List.replicate m zs).flatten := by
  rw [← made_flat zs hz m]
  rfl
theorem rep_flat_len (zs : List Value) (m : Nat) : (List.replicate m zs).flatten.length = m * zs.length := by
  induction m with
  | zero => simp
  | succ m ih => rw [List.replicate_succ, List.flatten_cons, List.length_append, ih, Nat.succ_mul]; omega
theorem rep_flat_one {zs : List Value} (h : zs.all Value.oneCell' = true) (m : Nat) : ∀ u ∈ (List.replicate m zs).flatten, u.oneCell' = true := by
  intro u hu
  obtain ⟨l, hl, hu⟩ := List.mem_flatten.1 hu
  rw [List.eq_of_mem_replicate hl] at hu
  exact List.all_eq_true.1 h u hu
theorem run_clearN {P : Program} {w : World} {t E ty : TypeId} {zs : List Value} {sz by_ : Nat} (h : SliceOf P t E sz by_) (hz : ZeroOf P E zs) (h1 : zs.all Value.oneCell' = true) (hzl : zs.length = sz) {a : Option Addr} {n c j : Nat} {xs : List Value} (hw : w.ownsRow 0 E sz (.slice a n c) n xs) (hj : j ≤ n) :
    ∃ w', (Builtin.clear_ #[t] ty #[.slice (subA a c j sz) (n - j) (c - j)]).run P w = .ok (.tuple #[]) w' ∧ Step (osl (.slice a n c) E sz n xs) (osl (.slice a n c) E sz n (xs.take (j * sz) ++ (List.replicate (n - j) zs).flatten)) w w' := by
  have hpos := h.pos
  have hw0 := hw
  obtain ⟨hl, hr⟩ := hw
  by_cases hm : n - j = 0
  · refine ⟨w, ?_, ?_⟩
    · rw [hm]
      cases subA a c j sz <;> simp [Builtin.clear_, run_underlying h.und]
    · have hjn : j = n := by omega
      have e : xs.take (j * sz) ++ (List.replicate (n - j) zs).flatten = xs := by rw [hm, hjn, List.take_of_length_le (by omega)]; simp
      rw [e]
      exact ⟨St.refl w _, hw0, fun k hk => .inl hk⟩
  · rcases hr with ⟨he, hn0⟩ | ⟨g, cap, cur, he, hbg, hg, hnc, hcm, hcs, htake⟩
    · omega
    simp only [Value.slice.injEq] at he
    obtain ⟨rfl, _, rfl⟩ := he
    obtain ⟨v, hv, hvc⟩ := hz.zero
    have hsub : subA (some ⟨g, 0, none⟩) c j sz = some ⟨g, 0 + j * sz, none⟩ := by
      unfold subA
      rw [if_neg (by omega)]
      simp [addr_add]
    have hfl := rep_flat_len zs (n - j)
    rw [hzl] at hfl
    have hnj : j * sz + (n - j) * sz = n * sz := by rw [← Nat.add_mul]; congr 1; omega
    have hsz : cur.toList.length = cur.size := Array.length_toList
    have hnn : n * sz ≤ cur.size := by
      have := congrArg List.length htake
      rw [List.length_take, hl, hsz] at this
      omega
    have hst := run_storeCells_at P g (0 + j * sz) E (List.replicate (n - j) zs).flatten 0 cur w (by simpa using hg) (by rw [hfl]; omega) (rep_flat_one h1 _)
    have e : ∀ (D vs : List Value), D.take (0 + j * sz + 0) ++ vs ++ D.drop (0 + j * sz + 0 + vs.length) = splice D (0 + j * sz) vs := fun _ _ => rfl
    rw [e] at hst
    obtain ⟨m, hm'⟩ : ∃ m, n - j = m + 1 := ⟨n - j - 1, by omega⟩
    have hg' : w.heap[g]? = some (.cells cur.toList.toArray E (0, 0)) := by simpa using hg
    have hspl : (splice cur.toList (0 + j * sz) (List.replicate (n - j) zs).flatten).length = cur.size := by
      unfold splice
      simp only [List.length_append, List.length_take, List.length_drop, hfl, hsz]
      omega
    refine ⟨w.setRow g (splice cur.toList (0 + j * sz) (List.replicate (n - j) zs).flatten).toArray, ?_, Keep.setRow w g _ _ E hg rfl, ⟨?_, .inr ⟨g, c, _, rfl, hbg, setRow_heap w g _ _ E (0, 0) hg, hnc, hcm, ?_, ?_⟩⟩, fun k hk => .inl hk⟩
    · rw [hsub]
      have hzc := zeroCells_flat zs (by omega) (n - j)
      rw [hm'] at hzc hst ⊢
      simp only [Nat.zero_add] at hst ⊢
      simp [Builtin.clear_, run_underlying h.und, hv, hvc, hzc, hst]
    · rw [List.length_append, hfl, List.length_take, hl]; omega
    · rw [List.size_toArray, hspl]; exact hcs
    · show (splice cur.toList (0 + j * sz) (List.replicate (n - j) zs).flatten).take (n * sz) = _
      rw [splice_take (by rw [hfl]; omega) (by omega), htake]
      unfold splice
      rw [Nat.zero_add, List.drop_eq_nil_of_le (by rw [hfl, hl]; omega), List.append_nil]
section
variable {P : Program} {f : Frm} {T T' : TypeId} {x : Operand} {w0 : World} {F : Nat → Prop} {L L' : List Asrt}
variable {n' : Nat} {ops rest : List Oper} {Q : Post} {p : String} {af : Array Edge}
theorem LR.clearN {E : TypeId} {zs : List Value} {by_ sz n c j : Nat} {a : Option Addr} {xs : List Value} [h : SliceOf P T E sz by_] [hz : ZeroOf P E zs] (hx : f.ev x = .slice (subA a c j sz) (n - j) (c - j)) (h1 : zs.all Value.oneCell' = true) (hzl : zs.length = sz)
    (hs : Sel L (osl (.slice a n c) E sz n xs) (osl (.slice a n c) E sz n (xs.take (j * sz) ++ (List.replicate (n - j) zs).flatten)) L') (hj : j ≤ n)
    (k : LR false P n' ops rest Q f (St w0 F L')) : LR false P n' ops (⟨none, .call ⟨.builtin .clear, [x].toArray, [T].toArray⟩, T', p, af, none⟩ :: rest) Q f (St w0 F L) := by
  intro w hw b hb
  refine wpList_plain rfl fun K hK => ?_
  obtain ⟨w', hr, st⟩ := run_clearN (P := P) (ty := T') h hz h1 hzl (hw.holds _ hs.mem) hj
  have hr' : (execOp f.ev ⟨none, .call ⟨.builtin .clear, [x].toArray, [T].toArray⟩, T', p, af, none⟩).run P w = .ok (.value (.tuple #[])) w' := by
    simp only [execOp, resolve, invoke, builtin, Sem.run_bind, Sem.run_pure, Result.andThen_ok, List.map_toArray, List.map_cons, List.map_nil, hx, hr]
  rw [← hb.eval] at hr'
  simp only [Oper.wp, hr', Oper.upon_value]
  exact hK _ _ (k _ (hw.did hs rfl st (osl.dep _ _ _ _ _)) _ (hb.put_none _))
end
theorem ownsRow_cut {w : World} {base E sz n c k : Nat} {a : Option Addr} {xs : List Value} (h : w.ownsRow base E sz (.slice a n c) n xs) (hk : k ≤ n) : w.ownsRow base E sz (.slice a k c) k (xs.take (k * sz)) := by
  obtain ⟨hl, hr⟩ := h
  have hks : k * sz ≤ n * sz := Nat.mul_le_mul_right _ hk
  refine ⟨by rw [List.length_take]; omega, ?_⟩
  rcases hr with ⟨he, hn0⟩ | ⟨g, cap, cur, he, hbg, hg, hnc, hcm, hcs, htake⟩
  · left
    have : k = 0 := by omega
    subst this
    simp only [Value.slice.injEq] at he
    exact ⟨by rw [he.1, he.2.2], rfl⟩
  · right
    simp only [Value.slice.injEq] at he
    refine ⟨g, cap, cur, by rw [he.1, he.2.2], hbg, hg, by omega, hcm, hcs, ?_⟩
    rw [← htake, List.take_take, Nat.min_eq_left hks]
theorem St.osl_cut {w0 w : World} {F : Nat → Prop} {L L' : List Asrt} {E sz n c k : Nat} {a : Option Addr} {xs : List Value} (h : St w0 F L w) (hs : Sel L (osl (.slice a n c) E sz n xs) (osl (.slice a k c) E sz k (xs.take (k * sz))) L') (hk : k ≤ n) : St w0 F L' w :=
  h.turn hs rfl (St.refl w _) (ownsRow_cut (h.holds _ hs.mem) hk) (fun j hj => .inl (by cases a <;> exact hj)) (osl.dep _ _ _ _ _)
end Go.Hb

namespace Go.Proofs.Ytgblmkpfkcibiaa
open Go.Hb
attribute [local irreducible] LR CW At Ev thn blk finK noG again CallsTo DW QL dnext TW DP gpost
set_option maxRecDepth 100000

def orM : List Int → Int
  | [] => 0
  | x :: r => if x ≠ 0 then x else orM r
theorem orM_skip {l : List Int} {i : Nat} (h : i < l.length) (h0 : l[i] = 0) : orM (l.drop i) = orM (l.drop (i + 1)) := by
  rw [List.drop_eq_getElem_cons h, orM, if_neg (by simp [h0])]
theorem orM_hit {l : List Int} {i : Nat} (h : i < l.length) (h0 : ¬ l[i] = 0) : orM (l.drop i) = l[i] := by
  rw [List.drop_eq_getElem_cons h, orM, if_pos h0]
theorem m68 (a : Option Addr) (c : Nat) (l : List Int) (w : World) (hr : Rd w a (iv l)) (hm : l.length ≤ 1000) : CallsTo Try.prog 68 [.slice a l.length c] w fun v w' => v = .int .i64 (orM l) ∧ Grew w w' := by
  refine go_in (n := 18) (St.rd1 hr) Try.func68 rfl rfl ?_
  repeat'(first|refine kv' ?_|apply jJ|refine jE' ?_|refine jp' ?_|(apply jc;kernel_rfl)|refine kg' ?_|refine kG' ?_|refine kB' fun _=>?_|refine kA' fun _=>?_|refine kK' fun _=>?_|refine kU' ?_|((first|refine kR' ?_ ?_|refine kQ' ?_ ?_);all_goals(intro hc;try simp only[hcs]at hc;try(exfalso;first|contradiction|omega))))
  apply CW.loop [2, 5, 8, 9, 10, 11, 12, 13, 14, 15, 16] (fun i : Nat => i ≤ l.length ∧ orM l = orM (l.drop i)) (fun i : Nat => [(8, Value.int .i64 i)]) (fun i => St w NoF [rdA a (iv l)]) (fun i => l.length - i)
  · exact fun w' hw' => ⟨0, ⟨by omega, by simp⟩, ⟨rfl, trivial⟩, hw'⟩
  intro i g ⟨hi, heq⟩
  by_cases hlt : i < l.length
  · obtain ⟨ba, oa, rfl⟩ := hr.form (fun e => by have := congrArg List.length e; simp at this; subst this; simp at hlt)
    repeat'(first|refine kv' ?_|apply jJ|refine jE' ?_|refine jp' ?_|(apply jc;kernel_rfl)|refine kg' ?_|refine kG' ?_|refine kB' fun _=>?_|refine kA' fun _=>?_|refine kK' fun _=>?_|refine kU' ?_|(apply idxX;(iterate 2 exact rfl);(iterate 2(first|omega|(dsimp only;omega)));exact rfl)|(apply LR.ev; (· apply Ev.load_rd; (· exact rfl); (· repeat (first | exact mH _ _ | apply mT)); (· exact iv_at (i := i) (by simp) (by omega))); (· exact rfl))|(apply addX;(iterate 2 exact rfl);(iterate 2(first|omega|(dsimp only;omega)));exact rfl)|((first|refine kR' ?_ ?_|refine kQ' ?_ ?_);all_goals(intro hc;try simp only[hcs]at hc;try(exfalso;first|contradiction|omega))))
    · (apply ret1; (· exact rfl); intro w' hS)
      refine ⟨congrArg (Value.int .i64) ?_, hS.toKeep⟩
      rw [heq, orM_hit hlt hc]
    · apply At.again (i + 1) ⟨by omega, by rw [heq]; exact orM_skip hlt hc⟩
      · (repeat (first | exact Out.refl _ _ | exact Out.mix | (apply Out.upd; (· exact rfl)) | (apply Out.updL; (· exact rfl)) | (apply Out.mixs; (· exact rfl))))
      · exact ⟨rfl, trivial⟩
      · exact fun w' hw' => hw'
      · omega
  · have hie : i = l.length := by omega
    subst hie
    rw [List.drop_length] at heq
    repeat'(first|refine kv' ?_|apply jJ|refine jE' ?_|refine jp' ?_|(apply jc;kernel_rfl)|refine kg' ?_|refine kG' ?_|refine kB' fun _=>?_|refine kA' fun _=>?_|refine kK' fun _=>?_|refine kU' ?_|((first|refine kR' ?_ ?_|refine kQ' ?_ ?_);all_goals(intro hc;try simp only[hcs]at hc;try(exfalso;first|contradiction|omega))))
    (apply ret1; (· exact rfl); intro w' hS)
    exact ⟨by rw [heq]; rfl, hS.toKeep⟩
def ringsM (s r s' r' : Int) : Int := if s = s' then cmpM r r' else cmpM s s'
theorem orM_rings (s r s' r' : Int) : orM [cmpM s s', cmpM r r'] = ringsM s r s' r' := by
  unfold orM orM orM ringsM cmpM
  repeat' split
  all_goals omega
set_option maxHeartbeats 1000000 in
theorem m32 (s r s' r' : Int) (w : World) : CallsTo Try.prog 32 [.agg [.int .i64 s, .int .i64 r].toArray, .agg [.int .i64 s', .int .i64 r'].toArray] w fun v w' => v = .int .i64 (ringsM s r s' r') ∧ Grew w w' := by
  refine go_in (n := 17) (St.refl _ NoF) Try.func32 rfl rfl ?_
  rw [← orM_rings]
  repeat'(first|(apply CW.reg_heldC)|refine kv' ?_|apply jJ|refine jE' ?_|refine jp' ?_|(apply jc;kernel_rfl)|refine kg' ?_|refine kG' ?_|refine kB' fun _=>?_|refine kA' fun _=>?_|refine kK' fun _=>?_|refine kU' ?_|((first|refine kR' ?_ ?_|refine kQ' ?_ ?_);all_goals(intro hc;try simp only[hcs]at hc;try(exfalso;first|contradiction|omega))))
  all_goals (
    apply DW.quiet [0, 1, 2, 3, 5, 6, 7, 8]
    · decide +kernel
    · first | exact fun _ h => h | exact fun _ h => St.sub h subZ
    repeat'(first|refine yv' ?_|refine uv' ?_|refine un' ?_|(refine us' ?_ ?_;all_goals(intro hc;try simp only[hcs]at hc;try(exfalso;first|contradiction|omega)))|apply QL.nil)
    all_goals (show DW _ _ _ _ _ _ _ _))
  all_goals (
    apply DW.loud 4
    · exact rfl
    · decide +kernel
    repeat'(first|refine kg' ?_|refine kG' ?_|apply kM|refine kv' ?_|refine kK' fun _=>?_|refine kU' ?_|refine kB' fun _=>?_|refine kA' fun _=>?_|(apply kq; (· exact rfl); (· intro w1 h1; first | exact CallsTo.q (m69 s s' w1) h1 | exact CallsTo.q (m69 r r' w1) h1 | exact CallsTo.q (m68 _ 2 [cmpM s s', cmpM r r'] w1 (h1.rd_of_blk memZ) (by simp)) h1)))
    all_goals (refine At.stage_same (fun _ h => St.sub h subZ) ?_))
  all_goals (
    apply DW.loud 9
    · exact rfl
    · decide +kernel
    repeat'(first|refine kg' ?_|refine kG' ?_|apply kM|refine kv' ?_|refine kK' fun _=>?_|refine kU' ?_|refine kB' fun _=>?_|refine kA' fun _=>?_|(apply kq; (· exact rfl); (· intro w1 h1; first | exact CallsTo.q (m69 s s' w1) h1 | exact CallsTo.q (m69 r r' w1) h1 | exact CallsTo.q (m68 _ 2 [cmpM s s', cmpM r r'] w1 (h1.rd_of_blk memZ) (by simp)) h1)))
    all_goals (refine At.stage_same (fun _ h => St.sub h subZ) ?_))
  all_goals (
    apply DW.loud 10
    · exact rfl
    · decide +kernel
    repeat'(first|refine kg' ?_|refine kG' ?_|apply kM|refine kv' ?_|refine kK' fun _=>?_|refine kU' ?_|refine kB' fun _=>?_|refine kA' fun _=>?_|(apply kq; (· exact rfl); (· intro w1 h1; first | exact CallsTo.q (m69 s s' w1) h1 | exact CallsTo.q (m69 r r' w1) h1 | exact CallsTo.q (m68 _ 2 [cmpM s s', cmpM r r'] w1 (h1.rd_of_blk memZ) (by simp)) h1)))
    all_goals (refine At.stage_same (fun _ h => St.sub h subZ) ?_))
  all_goals (
    apply DW.loud 11
    · exact rfl
    · decide +kernel
    repeat'(first|refine kg' ?_|refine kG' ?_|apply kM|refine kv' ?_|refine kK' fun _=>?_|refine kU' ?_|refine kB' fun _=>?_|refine kA' fun _=>?_|(apply kq; (· exact rfl); (· intro w1 h1; first | exact CallsTo.q (m69 s s' w1) h1 | exact CallsTo.q (m69 r r' w1) h1 | exact CallsTo.q (m68 _ 2 [cmpM s s', cmpM r r'] w1 (h1.rd_of_blk memZ) (by simp)) h1)))
    all_goals (refine At.stage_same (fun _ h => St.sub h subZ) ?_))
  all_goals (
    apply DW.quiet [12]
    · decide +kernel
    · first | exact fun _ h => h | exact fun _ h => St.sub h subZ
    repeat'(first|refine yv' ?_|refine uv' ?_|refine un' ?_|(refine us' ?_ ?_;all_goals(intro hc;try simp only[hcs]at hc;try(exfalso;first|contradiction|omega)))|apply QL.nil)
    all_goals (show DW _ _ _ _ _ _ _ _))
  all_goals (first | (apply DW.done_thn; (· decide +kernel)) | (apply DW.done; (· decide +kernel)))
  repeat'(first|refine kv' ?_|apply jJ|refine jE' ?_|refine jp' ?_|(apply jc;kernel_rfl)|refine kg' ?_|refine kG' ?_|refine kB' fun _=>?_|refine kA' fun _=>?_|refine kK' fun _=>?_|refine kU' ?_|((first|refine kR' ?_ ?_|refine kQ' ?_ ?_);all_goals(intro hc;try simp only[hcs]at hc;try(exfalso;first|contradiction|omega))))
  (apply ret1; (· exact rfl); intro w' hS)
  exact ⟨rfl, hS.toKeep⟩
def mayP (x : Plc) : Bool := decide (0 ≤ x.ring ∧ x.ring < 4 ∧ ¬(x.seq = 0 ∧ x.rep = 0) ∧ ringE x.seq x.rep = 0) && membersC x.members
end Go.Proofs.Ytgblmkpfkcibiaa

namespace Go.Proofs.Ytgblmkpfkcibiaa
open Go.Hb
attribute [local irreducible] LR CW At Ev thn blk finK noG again CallsTo DW QL dnext TW DP gpost
set_option maxRecDepth 100000

theorem pcs_take (l : List Plc) (k : Nat) (h : k ≤ l.length) : (pcs l).take (k * 4) = pcs (l.take k) := by
  have e : pcs l = pcs (l.take k) ++ pcs (l.drop k) := by unfold pcs; rw [← List.flatMap_append, List.take_append_drop]
  have hl : (pcs (l.take k)).length = k * 4 := by rw [pcs_length, List.length_take]; omega
  rw [e, List.take_append_of_le_length (by omega), List.take_of_length_le (by omega)]
theorem pcs_ones (l : List Plc) : (pcs l).all Value.oneCell' = true := rows_all_one plc_one l
theorem subA0 {b o c sz : Nat} : subA (some ⟨b, o, none⟩) c 0 sz = some ⟨b, o, none⟩ := by
  unfold subA
  split
  · rfl
  · simp [addr_add]
end Go.Proofs.Ytgblmkpfkcibiaa

namespace Go.Proofs.Ytgblmkpfkcibiaa
open Go.Hb
attribute [local irreducible] LR CW At Ev thn blk finK noG again CallsTo DW QL dnext TW DP gpost
set_option maxRecDepth 100000

theorem m62 (K : List Plc) (a : Option Addr) (c : Nat) (w : World) (hk : Rd w a (pcs K)) (hz : a = none → c = 0) (hm : K.length * 32 ≤ 140737488355328) :
    CallsTo Try.prog 62 [.slice a K.length c] w fun v w' => plR w w' v K := by
  refine go_in (n := 8) (St.rd1 hk) Try.func62 rfl rfl ?_
  cases a with
  | none =>
    have hl : K.length = 0 := by have h1 := hk.none_nil; have h2 := pcs_length K; rw [h1, List.length_nil] at h2; omega
    have hK : K = [] := List.eq_nil_of_length_eq_zero hl
    subst hK
    have hc0 := hz rfl
    subst hc0
    repeat'(first|refine kv' ?_|apply jJ|refine jE' ?_|refine jp' ?_|(apply jc;kernel_rfl)|refine kg' ?_|refine kG' ?_|refine kB' fun _=>?_|refine kA' fun _=>?_|refine kK' fun _=>?_|refine kU' ?_|((first|refine kR' ?_ ?_|refine kQ' ?_ ?_);all_goals(intro hc;try simp only[hcs]at hc;try(exfalso;first|contradiction|omega))))
    (apply ret1; (· exact rfl); intro w' hS)
    exact plR_nil w hS.toKeep
  | some ad =>
    repeat'(first|(refine kK' fun bs => ?_)|refine kv' ?_|apply jJ|refine jE' ?_|refine jp' ?_|(apply jc;kernel_rfl)|refine kg' ?_|refine kG' ?_|refine kB' fun _=>?_|refine kA' fun _=>?_|refine kK' fun _=>?_|refine kU' ?_|((first|refine kR' ?_ ?_|refine kQ' ?_ ?_);all_goals(intro hc;try simp only[hcs]at hc;try(exfalso;first|contradiction|omega))))
    refine LR.own_osl (k := 0) (sz := 4) (E := 44) (sH _ _ _) rfl (by unfold maxLen; omega) ?_
    refine LR.append (k := 0) (c := 0) (xs := []) (news := pcs K) (m := K.length) rfl rfl (fun a' c' => by (repeat (first | exact sH _ _ _ | apply sT))) (fun w' hw' => hw'.rd_of memZ) (fun hx => by cases hx) (pcs_length K) (pcs_ones K) (by omega) (by unfold maxLen; omega) rfl fun a2 c2 => ?_
    repeat'(first|refine kv' ?_|apply jJ|refine jE' ?_|refine jp' ?_|(apply jc;kernel_rfl)|refine kg' ?_|refine kG' ?_|refine kB' fun _=>?_|refine kA' fun _=>?_|refine kK' fun _=>?_|refine kU' ?_|((first|refine kR' ?_ ?_|refine kQ' ?_ ?_);all_goals(intro hc;try simp only[hcs]at hc;try(exfalso;first|contradiction|omega))))
    (apply ret1; (· exact rfl); intro w' hS)
    rw [Nat.zero_add, List.nil_append] at hS
    refine ⟨a2, c2, ?_, hS.toNew memZ⟩
    show Value.slice a2 (0 + K.length) c2 = _
    rw [Nat.zero_add]
def anyR (K : List Plc) (x : Plc) : Bool := K.any fun y => decide (y.ring = x.ring) && decide (0 ≤ ringsM y.seq y.rep x.seq x.rep)
def takesP (K : List Plc) (x : Plc) : Bool := mayP x && !anyR K x
def keepP (tk : Bool) (x y : Plc) : Bool := !tk || decide (y.ring ≠ x.ring)
def lrnL (K : List Plc) (x : Plc) : List Plc := K.filter (keepP (takesP K x) x) ++ if takesP K x then [x] else []
def lrnP (K : List Plc) (x : Plc) : List Plc := isP (lrnL K x)
theorem any_take {α : Type} (l : List α) (f : α → Bool) {k : Nat} (h : k < l.length) : (l.take (k + 1)).any f = ((l.take k).any f || f (l[k]'h)) := by
  rw [List.take_add_one, List.getElem?_eq_getElem h, List.any_append]; simp
theorem filter_take {α : Type} (l : List α) (f : α → Bool) {k : Nat} (h : k < l.length) : (l.take (k + 1)).filter f = (l.take k).filter f ++ if f (l[k]'h) then [l[k]'h] else [] := by
  rw [List.take_add_one, List.getElem?_eq_getElem h, List.filter_append]
  congr 1
  show [l[k]].filter f = _
  rw [List.filter_cons]
  rfl
theorem plc_val (x : Plc) : x.val = .agg [.int .i64 x.ring, .int .i64 x.seq, .int .i64 x.rep, .int .i64 x.members].toArray := rfl
end Go.Proofs.Ytgblmkpfkcibiaa
