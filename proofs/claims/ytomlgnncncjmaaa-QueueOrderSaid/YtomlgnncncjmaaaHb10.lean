/-
  From a row's reading of the arguments to what may be read through them, and back: laws that leave all that was there as it was. Conditions: none; nothing here speaks of one program.
-/
import Derived.Test.YtomlgnncncjmaaaHb9
import Derived.ChangeStays
import Derived.ReadAgain
import Derived.RowKit3
import Derived.ChangeArms
import Derived.JoinedOf
import Derived.SizedLaws
namespace Go.Hb
open Go.ChangeShapes Go.WideShapes

/-- What cells of type t that can be read are. -/
def Opn (P : Program) (t : TypeId) (G : World → List Value → Prop) : Prop :=
  ∀ (H : Type) (enc : TypeId × Value → H) (w : World) (base fuel : Nat) (cs : List Value) (x : DataW H × List MemPlace),
    DataW.trod enc P w base (fun _ => true) true fuel t cs = some x → (∀ y ∈ x.1.weights P t, y ≤ reachBytes) → G w cs

section
variable {P : Program} {t e : TypeId}
theorem Opn.mono {G G' : World → List Value → Prop} (h : Opn P t G) (hg : ∀ w cs, G w cs → G' w cs) : Opn P t G' := fun H enc w base fuel cs x hx hw => hg w cs (h H enc w base fuel cs x hx hw)
theorem opn_int {k : IntKind} (ht : P.underlying t = some (.int k)) : Opn P t (fun _ cs => ∃ n, cs = [.int k n] ∧ (Lit.int k n).wf = true) := by
  intro H enc w base fuel cs x h _
  obtain ⟨n, h1, _, h2⟩ := DataW.trod_int ht h
  exact ⟨n, h1, h2⟩
theorem opn_bool (ht : P.underlying t = some .bool) : Opn P t (fun _ cs => ∃ b, cs = [.bool b]) := by
  intro H enc w base fuel cs x h _
  obtain ⟨b, h1, _⟩ := DataW.trod_bool ht h
  exact ⟨b, h1⟩

theorem mem_weightsAll {H : Type} {d : DataW H} {y : Nat} (hy : y ∈ d.weights P e) : ∀ {l : List (DataW H)}, d ∈ l → y ∈ DataW.weightsAll P e l
  | c :: r, h => by
    simp only [DataW.weightsAll, List.mem_append]
    rcases List.mem_cons.1 h with rfl | h
    · exact .inl hy
    · exact .inr (mem_weightsAll hy h)
theorem mem_weightsEach {H : Type} {d : DataW H} {y : Nat} {t : TypeId} (hy : y ∈ d.weights P t) : ∀ {ts : List TypeId} {ds : List (DataW H)} {i : Nat}, ts[i]? = some t → ds[i]? = some d → y ∈ DataW.weightsEach P ts ds
  | [], _, _, h, _ => by simp at h
  | _ :: _, [], _, _, h => by simp at h
  | a :: ts, b :: ds, 0, h1, h2 => by
    simp only [List.getElem?_cons_zero, Option.some.injEq] at h1 h2
    subst h1; subst h2
    simp only [DataW.weightsEach, List.mem_append]
    exact .inl hy
  | a :: ts, b :: ds, i + 1, h1, h2 => by
    simp only [List.getElem?_cons_succ] at h1 h2
    simp only [DataW.weightsEach, List.mem_append]
    exact .inr (mem_weightsEach hy h1 h2)

theorem rd_flat {w : World} {b off sz : Nat} : ∀ (css : List (List Value)) (k : Nat), (∀ i c, css[i]? = some c → c.length = sz ∧ ∀ j v, c[j]? = some v → w.cell? ⟨b, off + ((k + i) * sz + j), none⟩ = some v) →
    ∀ j v, css.flatten[j]? = some v → w.cell? ⟨b, off + (k * sz + j), none⟩ = some v
  | [], _, _, j, v, h => by simp at h
  | c :: r, k, hc, j, v, h => by
    obtain ⟨hl, h0⟩ := hc 0 c rfl
    rw [List.flatten_cons, List.getElem?_append] at h
    split at h
    · have := h0 j v h; simpa using this
    · rename_i hge
      have ih := rd_flat r (k + 1) (fun i c' hi => by
        have := hc (i + 1) c' (by simpa using hi)
        rw [show k + (i + 1) = k + 1 + i by omega] at this
        exact this) (j - c.length) v h
      have e : (k + 1) * sz + (j - c.length) = k * sz + j := by rw [Nat.add_mul, hl]; omega
      rw [e] at ih; exact ih

theorem opn_slice {sz by_ : Nat} {G : World → List Value → Prop} (ht : P.underlying t = some (.slice e)) (hs : P.cellsOf e = sz) (hpos : 0 < sz) (hb : P.bytesOf e = by_) (he : Opn P e G) :
    Opn P t (fun w cs => ∃ (a : Option Addr) (len cap : Nat) (css : List (List Value)), cs = [.slice a len cap] ∧ css.length = len ∧ (∀ c ∈ css, G w c ∧ c.length = sz) ∧ Rd w a css.flatten ∧ (a = none → cap = 0) ∧ len ≤ cap ∧ len * by_ ≤ reachBytes) := by
  intro H enc w base fuel cs x h hw
  rcases DataW.trod_slice ht h with ⟨rfl, rfl⟩ | ⟨a, len, cap, elems, rest, n, rfl, rfl, rfl, hbase, hlc, hcm, hel, hat, _, _⟩
  · exact ⟨none, 0, 0, [], rfl, rfl, fun c hc => by simp at hc, Rd.nil w none, fun _ => rfl, Nat.le_refl _, by simp [reachBytes]⟩
  · rw [hs] at hat
    have key : ∀ i, i < len → ∃ c y, w.cells? base (a.add (i * sz)) sz = some c ∧ DataW.trod enc P w base (fun _ => true) true n e c = some y ∧ elems[i]? = some y := by
      intro i hi
      have h1 := hat i hi
      rw [List.getElem?_eq_getElem (by omega), Option.bind_eq_some_iff] at h1
      obtain ⟨c, h2, h3⟩ := h1
      exact ⟨c, _, h2, h3, List.getElem?_eq_getElem (by omega)⟩
    let css := (List.range len).map fun i => (w.cells? base (a.add (i * sz)) sz).getD []
    have hget : ∀ i c, css[i]? = some c → i < len ∧ w.cells? base (a.add (i * sz)) sz = some c := by
      intro i c hi
      simp only [css, List.getElem?_map, Option.map_eq_some_iff] at hi
      obtain ⟨j, hj, hc⟩ := hi
      have hlt : i < len := by
        rcases Nat.lt_or_ge i len with h | h
        · exact h
        · rw [List.getElem?_eq_none (by simpa using h)] at hj; cases hj
      rw [List.getElem?_range hlt] at hj
      cases hj
      obtain ⟨c', y, h1, _, _⟩ := key i hlt
      rw [h1] at hc ⊢
      exact ⟨hlt, by simpa using hc⟩
    have hw0 : ∀ y ∈ (DataW.slice (elems.map (·.1)) (rest.map (·.1))).weights P t, y ≤ reachBytes := hw
    simp only [DataW.weights, ht] at hw0
    refine ⟨some a, len, cap, css, rfl, by simp [css], ?_, ?_, fun h => (by cases h), hlc, ?_⟩
    · intro c hc
      obtain ⟨i, hi, rfl⟩ := List.getElem_of_mem hc
      obtain ⟨hlt, hci⟩ := hget i _ (List.getElem?_eq_getElem hi)
      obtain ⟨c', y, h1, h2, h3⟩ := key i hlt
      rw [hci] at h1
      cases h1
      refine ⟨he H enc w base n _ y h2 (fun z hz => hw0 z ?_), (World.cells?_some hci).2.1⟩
      refine List.mem_cons_of_mem _ (List.mem_append_left _ (mem_weightsAll hz ?_))
      exact List.mem_map.2 ⟨y, List.mem_of_getElem? h3, rfl⟩
    · by_cases h0 : len = 0
      · subst h0
        simpa [css] using Rd.nil w (some a)
      · obtain ⟨c0, _, h1, _, _⟩ := key 0 (by omega)
        obtain ⟨_, hl0, hc0⟩ := World.cells?_some h1
        have h2 := hc0 0 hpos
        rw [List.getElem?_eq_getElem (by omega)] at h2
        have hsp : a.spot = none := by simpa [Addr.add] using World.cell?_spot h2
        obtain ⟨b, off, spot⟩ := a
        simp only at hsp
        subst hsp
        intro j v hj
        refine ⟨_, rfl, ?_⟩
        rw [addr_add]
        have := rd_flat (w := w) (b := b) (off := off) (sz := sz) css 0 (fun i c hi => by
          obtain ⟨_, hci⟩ := hget i c hi
          obtain ⟨_, hl, hc⟩ := World.cells?_some hci
          refine ⟨hl, fun j v hj => ?_⟩
          have hjl : j < sz := by have := (List.getElem?_eq_some_iff.1 hj).1; omega
          have := hc j hjl
          rw [hj, addr_add, addr_add] at this
          rw [Nat.zero_add, ← Nat.add_assoc]; exact this) j v hj
        simpa using this
    · have := hw0 _ (List.mem_cons_self)
      rw [hb, List.length_map, List.length_map, hel] at this
      exact Nat.le_trans (Nat.mul_le_mul_right _ (Nat.le_add_right _ _)) this

theorem opn_struct {fs : Array Field} (ht : P.underlying t = some (.struct fs)) :
    Opn P t (fun w cs => cs.length = P.cellsOf t ∧ ∀ (i : Nat) (f : Field), fs[i]? = some f → ∀ G, Opn P f.type G → G w ((cs.drop f.offset).take (P.cellsOf f.type))) := by
  intro H enc w base fuel cs x h hw
  obtain ⟨xs, n, rfl, rfl, hl, hsz, hat⟩ := DataW.trod_struct ht h
  refine ⟨hl, fun i f hf G hG => ?_⟩
  have h1 := hat i f hf
  have hi : i < xs.length := by rw [hsz]; exact (Array.getElem?_eq_some_iff.1 hf).1
  rw [List.getElem?_eq_getElem hi] at h1
  refine hG H enc w base n _ _ h1 (fun y hy => hw y ?_)
  simp only [DataW.weights, ht]
  refine mem_weightsEach (i := i) hy ?_ ?_
  · simp only [List.getElem?_map, Array.getElem?_toList, hf, Option.map_some]
  · simp only [List.getElem?_map, List.getElem?_eq_getElem hi, Option.map_some]

/-- An argument of a row. -/
theorem opn_arg {H : Type} {enc : TypeId × Value → H} {G : World → List Value → Prop} (hG : Opn P t G) {W : World} {ts' : List TypeId} {ds gs : List (DataW H)} {v : Value} {d : DataW H} {ps : List MemPlace} {i : Nat}
    (h : DataW.Trod enc P W 0 (fun _ => true) true t v d ps) (hw : (DataW.weightsEach P ts' (ds ++ gs)).all (· ≤ reachBytes) = true) (hi : ts'[i]? = some t) (hd : ds[i]? = some d) : G W v.cells.toList := by
  obtain ⟨fuel, hf⟩ := h
  refine hG H enc W 0 fuel _ _ hf (fun y hy => ?_)
  have := List.all_eq_true.1 hw y (mem_weightsEach (i := i) hy hi (by rw [List.getElem?_append_left ((List.getElem?_eq_some_iff.1 hd).1)]; exact hd))
  simpa using this
end

theorem CallsTo.calls {P : Program} {g : FuncId} {args : List Value} {w : World} {K : Value → World → Prop} {R : Ending → World → Prop} (h : CallsTo P g args w K) (hk : ∀ v w', K v w' → R (.returned v) w') : Calls P g args.toArray w R :=
  Calls.mono h fun _ _ ⟨v, he, hv⟩ => by subst he; exact hk v _ hv

/-! ### the way back -/
theorem Grew.keptBut {W W' : World} (h : Grew W W') (may : MemPlace → Prop) : W.keptBut W' may := by
  refine ⟨h.os, h.output, fun i hi => ?_⟩
  rw [h.keep i hi (fun x => x)]
  cases W.heap[i]? with
  | none => rfl
  | some o => cases o <;> simp
theorem Grew.sameAt {W W' : World} (h : Grew W W') (p : MemPlace) (hp : p.block < W.heap.size) : W.sameAt W' p := by
  have hk := h.keep p.block hp (fun x => x)
  cases p with
  | cell b off => simp only [World.sameAt, World.cell?]; simp only [MemPlace.block] at hk; rw [hk]
  | map b => exact hk

section
variable {H : Type} {enc : TypeId × Value → H} {P : Program}
theorem trodAll_grew (K : Kids P (· < P.types.size)) (hz : ∀ t e, t < P.types.size → P.underlying t = some (.slice e) → 0 < P.cellsOf e) {W W' : World} (hg : Grew W W') {sp : Nat → Bool} : ∀ {ts : List TypeId} {vs : List Value} {ds : List (DataW H)} {ps : List MemPlace},
    (∀ t ∈ ts, t < P.types.size) → (∀ p ∈ ps, p.block < W.heap.size) → (∀ p ∈ ps, sp p.block = true) → DataW.TrodAll enc P W 0 (fun _ => true) true ts vs ds ps → DataW.TrodAll enc P W' 0 sp true ts vs ds ps
  | [], [], [], _, _, _, _, h => h
  | t :: ts, v :: vs, d :: ds, ps, hT, hlt, hsp, ⟨p, q, h1, h2, e⟩ => by
    subst e
    refine ⟨p, q, ?_, trodAll_grew K hz hg (fun t ht => hT t (List.mem_cons_of_mem _ ht)) (fun x hx => hlt x (List.mem_append_right _ hx)) (fun x hx => hsp x (List.mem_append_right _ hx)) h2, rfl⟩
    obtain ⟨n, hn⟩ := h1
    exact ⟨n, DataW.trod_stays K (fun {t e} a b => hz t e a b) (fun h => by cases h) (hT t (List.mem_cons_self)) hn (fun x hx => hg.sameAt x (hlt x (List.mem_append_left _ hx))) (fun x hx => hsp x (List.mem_append_left _ hx))⟩

theorem law_post (K : Kids P (· < P.types.size)) (hz : ∀ t e, t < P.types.size → P.underlying t = some (.slice e) → 0 < P.cellsOf e) {f : Func} {s : ChangeSpec} {apart fresh handsOn : Bool} {W W' : World} {args : Array Value} {ds gs : List (DataW H)} {before : List MemPlace} {tb : TypeId}
    (hW : DataW.Whole enc P f.params.toList s.vars apart W args.toList ds gs before) (hg : Grew W W') (hv : s.vars = []) (hs : s.fn H (ds ++ gs) = { results := [.lit (.bool true)], args := ds })
    (hr : f.resultTypes = #[tb]) (hb : P.underlying tb = some .bool) (hT : ∀ t ∈ f.params.toList, t < P.types.size) : s.post enc P f apart fresh handsOn false W args (.bool true) W' := by
  have hlt := hW.lt
  have hW0 := hW
  obtain ⟨p, q, hA, hV, rfl, hfz, hnd⟩ := hW0
  rw [hv] at hV
  obtain ⟨rfl, rfl⟩ := trodVars_none hV
  simp only [List.append_nil] at *
  have hres : ∀ (b : Nat) (sp : Nat → Bool) (hd : Bool), DataW.TrodAll enc P W' b sp hd [tb] [Value.bool true] [.lit (.bool true)] [] := fun b sp hd => trodAll_mk1 ⟨1, by simp [DataW.trod, Value.cells, hb]⟩
  have hrl : (Value.bool true).resultList f.resultTypes.size = [Value.bool true] := by rw [hr]; rfl
  refine ⟨ds, [], p, [], p, [], hW, ?_, ?_, ?_, ?_, fun h => by cases h⟩
  · simp only [List.append_nil, hs, hr]; exact hres _ _ _
  · simp only [List.append_nil, hs]; exact trodAll_grew K hz hg hT hlt (fun x hx => by simpa using hlt x hx) hA
  · simp only [List.append_nil, hs, hv]; rfl
  · exact hg.keptBut _
end
end Go.Hb
