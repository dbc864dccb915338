/-
  The numbers and examples of chapter 5, both ends. Conditions: none.
-/
import Derived.Test.YtomlgnncncjmaaaRPNM3
import Derived.DeepKeys5
import Derived.WideKeyRuns
import Derived.Deep.AppendSrc

namespace Go.Hb

/-- What a search for a key finds. -/
def Finds {κ : Type} (P : Program) (kt : TypeId) (enc : κ → Value) (l : List (κ × Value)) (es : List MapEntry) (a : κ) (w : World) : Prop :=
  ((Instr.findKey kt (enc a) es).run P w = .ok none w ∧ ∀ p ∈ l, p.1 ≠ a) ∨ ∃ j u, (Instr.findKey kt (enc a) es).run P w = .ok (some (j, u)) w ∧ l[j]? = some (a, u)
/-- T is a map; enc writes a key of κ that may be; z is the zero of its elements. -/
class KMap (P : Program) (T : TypeId) {κ : Type} (enc : κ → Value) (ok : κ → Prop) (z : outParam Value) : Prop where
  ex : ∃ kt et, P.underlying T = some (.map kt et) ∧ (∀ em a w, ok a → (Instr.checkKey em 10000 kt (enc a)).run P w = .ok () w) ∧
    (∀ (l : List (κ × Value)) (es : List MapEntry) a w, es.map (fun e => (e.key, e.val)) = l.map (fun p => (enc p.1, p.2)) → (∀ p ∈ l, ok p.1) → ok a → Finds P kt enc l es a w) ∧ ∀ w, (zeroValue et).run P w = .ok z w
def kmH {κ : Type} (enc : κ → Value) (b : Nat) (l : List (κ × Value)) (w : World) : Prop := ∃ es clock, w.heap[b]? = some (.map es clock) ∧ es.toList.map (fun e => (e.key, e.val)) = l.map (fun p => (enc p.1, p.2))
/-- The map of block b has these keys and values, in some order of births. -/
def kmap {κ : Type} (enc : κ → Value) (b : Nat) (l : List (κ × Value)) : Asrt := .ex (fun j => j = b) (kmH enc b l)
section
variable {κ : Type} {enc : κ → Value} {ok : κ → Prop}
theorem kmap.dep (b : Nat) (l : List (κ × Value)) : (kmap enc b l).dep := by
  intro w w' hk h
  obtain ⟨es, clock, hb, he⟩ := h
  exact ⟨es, clock, by rw [hk b rfl]; exact hb, he⟩
theorem kmH_old {b : Nat} {l : List (κ × Value)} {w w1 : World} {L : List Asrt} (h : kmH enc b l w) (h1 : St w NoF L w1) : kmH enc b l w1 := by
  obtain ⟨es, clock, hb, he⟩ := h
  exact ⟨es, clock, by rw [h1.keep b (Array.getElem?_eq_some_iff.1 hb).1 (fun h => h)]; exact hb, he⟩
theorem kmap.live {b : Nat} {l : List (κ × Value)} {w : World} (h : kmH enc b l w) : ∀ j, (kmap enc b l).foot j → j < w.heap.size := by
  rintro j rfl
  obtain ⟨es, clock, hb, _⟩ := h
  exact (Array.getElem?_eq_some_iff.1 hb).1
variable {P : Program} {f : Frm} {T T' : TypeId} {x y z : Operand} {v zv : Value} {w0 : World} {F : Nat → Prop} {L L' : List Asrt}
variable {C : World → Prop} {n : Nat} {ops rest : List Oper} {Q : Post} {p : String} {af : Array Edge} {d : Nat}
theorem finds_law {kt : TypeId} {l : List (κ × Value)} {es : List MapEntry} {a : κ} (K : WideMaps.KeyLaw P kt) (hok : ∀ a, ok a → ∃ l, keyOf P kt (enc a) = some l) (hinj : ∀ a b, enc a = enc b → a = b)
    (he : es.map (fun e => (e.key, e.val)) = l.map (fun p => (enc p.1, p.2))) (hl : ∀ p ∈ l, ok p.1) (ha : ok a) (w : World) : Finds P kt enc l es a w := by
  obtain ⟨lx, hx⟩ := hok a ha
  have key : ∀ (j : Nat) (e : MapEntry), es[j]? = some e → ∃ p : κ × Value, l[j]? = some p ∧ enc p.1 = e.key ∧ p.2 = e.val := by
    intro j e hj
    have h1 : (es.map (fun e => (e.key, e.val)))[j]? = some (e.key, e.val) := by rw [List.getElem?_map, hj]; rfl
    rw [he, List.getElem?_map] at h1
    cases hq : l[j]? with
    | none => rw [hq] at h1; cases h1
    | some p =>
      rw [hq] at h1
      simp only [Option.map_some, Option.some.injEq, Prod.mk.injEq] at h1
      exact ⟨p, rfl, h1.1, h1.2⟩
  rcases K.find w hx es (fun e hm => by
    obtain ⟨j, hj⟩ := List.getElem?_of_mem hm
    obtain ⟨p, hp, h1, _⟩ := key j e hj
    obtain ⟨l1, h2⟩ := hok p.1 (hl p (List.mem_of_getElem? hp))
    exact ⟨l1, by rw [← h1]; exact h2⟩) with ⟨h1, h2⟩ | ⟨j, e, h1, h2, h3⟩
  · refine .inl ⟨h1, fun p hp hpa => ?_⟩
    have : (enc p.1, p.2) ∈ es.map (fun e => (e.key, e.val)) := by rw [he]; exact List.mem_map.2 ⟨p, hp, rfl⟩
    obtain ⟨e, hem, hee⟩ := List.mem_map.1 this
    simp only [Prod.mk.injEq] at hee
    exact h2 e hem (by rw [hee.1, hpa])
  · obtain ⟨q, hq, h4, h5⟩ := key j e h2
    have : q.1 = a := hinj _ _ (by rw [h4, h3])
    refine .inr ⟨j, e.val, h1, ?_⟩
    rw [hq, ← this, ← h5]
theorem finds_asking [DecidableEq κ] {kt : TypeId} {a : κ} {w : World} (heq : ∀ b, (Op.equal kt (enc a) (enc b)).run P w = .ok (decide (a = b)) w) : ∀ (es : List MapEntry) (l : List (κ × Value)) (i : Nat),
    es.map (fun e => (e.key, e.val)) = l.map (fun p => (enc p.1, p.2)) →
    ((Instr.findAsking kt (enc a) es i).run P w = .ok none w ∧ ∀ p ∈ l, p.1 ≠ a) ∨ ∃ j u, (Instr.findAsking kt (enc a) es i).run P w = .ok (some (i + j, u)) w ∧ l[j]? = some (a, u)
  | [], l, i, h => by
    have hl : l = [] := by cases l with | nil => rfl | cons p r => simp at h
    subst hl
    exact .inl ⟨by simp [Instr.findAsking], by simp⟩
  | e :: es, l, i, h => by
    cases l with
    | nil => simp at h
    | cons p r =>
      simp only [List.map_cons, List.cons.injEq, Prod.mk.injEq] at h
      obtain ⟨⟨h1, h2⟩, h3⟩ := h
      have hq := heq p.1
      rw [← h1] at hq
      by_cases hp : a = p.1
      · refine .inr ⟨0, e.val, ?_, ?_⟩
        · rw [decide_eq_true hp] at hq
          simp [Instr.findAsking, Sem.run_bind, hq]
        · simp [hp, h2]
      · rcases finds_asking heq es r (i + 1) h3 with ⟨h4, h5⟩ | ⟨j, u, h4, h5⟩
        · refine .inl ⟨by simp [Instr.findAsking, Sem.run_bind, hq, hp, h4], fun q hm => ?_⟩
          rcases List.mem_cons.1 hm with rfl | hm
          · exact fun e => hp e.symm
          · exact h5 q hm
        · refine .inr ⟨j + 1, u, ?_, by simpa using h5⟩
          rw [show i + (j + 1) = i + 1 + j by omega]
          simp [Instr.findAsking, Sem.run_bind, hq, hp, h4]
theorem finds_wide [DecidableEq κ] {kt : TypeId} (hwide : (match P.underlying kt with | some (.array _ _) | some (.struct _) => true | _ => false) = true) (heq : ∀ a b w, (Op.equal kt (enc a) (enc b)).run P w = .ok (decide (a = b)) w)
    (l : List (κ × Value)) (es : List MapEntry) (a : κ) (w : World) (h : es.map (fun e => (e.key, e.val)) = l.map (fun p => (enc p.1, p.2))) : Finds P kt enc l es a w := by
  unfold Finds
  rw [run_findKey_eq w hwide]
  rcases finds_asking (fun b => heq a b w) es l 0 h with h | ⟨j, u, h1, h2⟩
  · exact .inl h
  · exact .inr ⟨j, u, by rw [h1, Nat.zero_add], h2⟩
theorem LR.makeMapK [h : KMap P T enc ok zv] (hd : Nat.blt d n = true) (k : ∀ b, LR false P n ops rest Q (upd f d (.map (some b))) (St w0 F (kmap enc b [] :: L))) :
    LR false P n ops (⟨some d, .makeMap T none, T', p, af, none⟩ :: rest) Q f (St w0 F L) := by
  intro w hw a ha
  refine wpList_plain rfl fun K hK => ?_
  have hr : (execOp a.eval ⟨some d, .makeMap T none, T', p, af, none⟩).run P w = .ok (.value (.map (some w.heap.size))) { w with heap := w.heap.push (.map #[] 0) } := by
    simp [execOp, Instr.makeMap, newObj, Sem.run]
  simp only [Oper.wp, hr, Oper.upon_value]
  refine hK _ _ (k w.heap.size _ ?_ _ (ha.put _ hd))
  have h1 := hw.alloc (.map #[] 0)
  refine h1.turn (Sel.head _ _ _) rfl (St.refl _ _) ?_ (fun k hk => .inl hk) (kmap.dep _ _)
  exact ⟨#[], 0, h1.own_at (List.Mem.head _), rfl⟩
theorem Ev.lookup_no {b : Nat} {l : List (κ × Value)} {a : κ} [h : KMap P T enc ok zv] (hx : f.ev x = .map (some b)) (hy : f.ev y = enc a) (hm : ∀ w, C w → kmH enc b l w) (hl : ∀ p ∈ l, ok p.1) (ha : ok a) (hno : ∀ p ∈ l, p.1 ≠ a) :
    Ev P C f (.lookup T x y true) T' (.tuple [zv, .bool false].toArray) := fun w hw d p af g => by
  obtain ⟨kt, et, ht, K, hf, hz⟩ := h.ex
  obtain ⟨es, clock, hb, he⟩ : kmH enc b l w := hm w hw
  have hlx := fun em => K em a w ha
  rcases hf l es.toList a w he hl ha with ⟨h1, _⟩ | ⟨j, u, h1, h2⟩
  · simp [execOp, hx, hy, Instr.lookup, run_underlying ht, MapKept.run_getObj_map hb, hlx, h1, hz, Result.andThen]
  · exact absurd rfl (hno _ (List.mem_of_getElem? h2))
theorem Ev.lookup_yes {b : Nat} {l : List (κ × Value)} {a : κ} {u : Value} [h : KMap P T enc ok zv] (hx : f.ev x = .map (some b)) (hy : f.ev y = enc a) (hm : ∀ w, C w → kmH enc b l w) (hl : ∀ p ∈ l, ok p.1) (hd : (l.map Prod.fst).Nodup) (ha : (a, u) ∈ l) :
    Ev P C f (.lookup T x y true) T' (.tuple [u, .bool true].toArray) := fun w hw d p af g => by
  obtain ⟨kt, et, ht, K, hf, hz⟩ := h.ex
  obtain ⟨es, clock, hb, he⟩ : kmH enc b l w := hm w hw
  have hlx := fun em => K em a w (hl _ ha)
  rcases hf l es.toList a w he hl (hl _ ha) with ⟨h1, h2⟩ | ⟨j, u', h1, h2⟩
  · exact absurd rfl (h2 _ ha)
  · have hu : u' = u := by
      obtain ⟨i, hi⟩ := List.getElem?_of_mem ha
      have e1 : (l.map Prod.fst)[i]? = some a := by rw [List.getElem?_map, hi]; rfl
      have e2 : (l.map Prod.fst)[j]? = some a := by rw [List.getElem?_map, h2]; rfl
      have hi2 := (List.getElem?_eq_some_iff.1 e1).1
      have := (List.getElem?_inj hi2 hd).1 (e1.trans e2.symm)
      subst this
      rw [hi] at h2
      simpa using h2.symm
    subst hu
    simp [execOp, hx, hy, Instr.lookup, run_underlying ht, MapKept.run_getObj_map hb, hlx, h1, Result.andThen]
theorem Ev.lenK {b : Nat} {l : List (κ × Value)} [h : KMap P T' enc ok zv] (hx : f.ev x = .map (some b)) (hm : ∀ w, C w → kmH enc b l w) : Ev P C f (.call ⟨.builtin .len, [x].toArray, [T'].toArray⟩) T (.int .i64 l.length) := fun w hw d p af g => by
  obtain ⟨kt, et, ht, _⟩ := h.ex
  obtain ⟨es, clock, hb, he⟩ : kmH enc b l w := hm w hw
  have hlen : es.size = l.length := by have := congrArg List.length he; simpa using this
  simp [execOp, resolve, invoke, builtin, Builtin.len_, hx, run_underlying ht, MapKept.run_getObj_map hb, goInt, hlen]
theorem LR.insertK {b : Nat} {l : List (κ × Value)} {a : κ} [h : KMap P T enc ok zv] (hx : f.ev x = .map (some b)) (hy : f.ev y = enc a) (hz : f.ev z = v)
    (hs : Sel L (kmap enc b l) (kmap enc b (l ++ [(a, v)])) L') (hl : ∀ p ∈ l, ok p.1) (ha : ok a) (hno : ∀ p ∈ l, p.1 ≠ a)
    (k : LR false P n ops rest Q f (St w0 F L')) : LR false P n ops (⟨none, .mapUpdate T x y z, T', p, af, none⟩ :: rest) Q f (St w0 F L) := by
  intro w hw act hact
  refine wpList_plain rfl fun K' hK => ?_
  obtain ⟨kt, et, ht, K, hf, _⟩ := h.ex
  obtain ⟨es, clock, hb, he⟩ : kmH enc b l w := (hw.holds _ hs.mem)
  have hlx := fun em => K em a w ha
  rcases hf l es.toList a w he hl ha with ⟨h1, _⟩ | ⟨j, u, h1, h2⟩
  · have hr : (execOp act.eval ⟨none, .mapUpdate T x y z, T', p, af, none⟩).run P w = .ok .skip { w with heap := w.heap.setIfInBounds b (.map (es.push ⟨enc a, v, clock⟩) (clock + 1)) } := by
      rw [hact.eval]
      simp only [execOp, hx, hy, hz, Instr.mapUpdate, Sem.run_bind, run_underlying ht, Result.andThen_ok, MapKept.run_getObj_map hb, hlx, h1, MapKept.run_setObj_map _ hb, Sem.run_pure]
    simp only [Oper.wp, hr, Oper.upon_skip]
    have hsz : b < w.heap.size := (Array.getElem?_eq_some_iff.1 hb).1
    refine hK _ _ (k _ ?_ _ (hact.put_none undef))
    exact hw.turn hs rfl (Keep.setObj w b _ rfl) ⟨es.push ⟨enc a, v, clock⟩, clock + 1, by show (w.heap.setIfInBounds b _)[b]? = _; simp [hsz], by simp [he]⟩ (fun k hk => .inl hk) (kmap.dep _ _)
  · exact absurd rfl (hno _ (List.mem_of_getElem? h2))
theorem LR.deleteK [DecidableEq κ] {b : Nat} {l : List (κ × Value)} {a : κ} {K1 : TypeId} [h : KMap P T enc ok zv] (hu : (match P.underlying T with | some (.map k _) => Nat.beq k K1 | _ => false) = true) (hx : f.ev x = .map (some b)) (hy : f.ev y = enc a)
    (hs : Sel L (kmap enc b l) (kmap enc b (l.filter fun p => decide (p.1 ≠ a))) L') (hl : ∀ p ∈ l, ok p.1) (hnd : (l.map Prod.fst).Nodup) (ha : ok a)
    (k : LR false P n ops rest Q f (St w0 F L')) : LR false P n ops (⟨none, .call ⟨.builtin .delete, [x, y].toArray, [T, K1].toArray⟩, T', p, af, none⟩ :: rest) Q f (St w0 F L) := by
  intro w hw act hact
  refine wpList_plain rfl fun K' hK => ?_
  obtain ⟨kt, et, ht, K, hf, _⟩ := h.ex
  obtain ⟨es, clock, hb, he⟩ : kmH enc b l w := (hw.holds _ hs.mem)
  have hlx := fun em => K em a w ha
  have hsz : b < w.heap.size := (Array.getElem?_eq_some_iff.1 hb).1
  have fin : ∀ es', es'.toList.map (fun e => (e.key, e.val)) = (l.filter fun p => decide (p.1 ≠ a)).map (fun p => (enc p.1, p.2)) → (Builtin.delete_ #[T, K1] T' #[.map (some b), enc a]).run P w = .ok (.tuple #[]) { w with heap := w.heap.setIfInBounds b (.map es' clock) } →
      (⟨none, .call ⟨.builtin .delete, [x, y].toArray, [T, K1].toArray⟩, T', p, af, none⟩ : Oper).wp P act w K' (lift n Q) := by
    intro es' he' hr
    have hr' : (execOp act.eval ⟨none, .call ⟨.builtin .delete, [x, y].toArray, [T, K1].toArray⟩, T', p, af, none⟩).run P w = .ok (.value (.tuple #[])) { w with heap := w.heap.setIfInBounds b (.map es' clock) } := by
      rw [hact.eval]
      simp only [execOp, resolve, invoke, builtin, Sem.run_bind, Sem.run_pure, Result.andThen_ok, List.map_toArray, List.map_cons, List.map_nil, hx, hy, hr]
    simp only [Oper.wp, hr', Oper.upon_value]
    refine hK _ _ (k _ ?_ _ (hact.put_none _))
    exact hw.turn hs rfl (Keep.setObj w b _ rfl) ⟨es', clock, by show (w.heap.setIfInBounds b _)[b]? = _; simp [hsz], he'⟩ (fun k hk => .inl hk) (kmap.dep _ _)
  rcases hf l es.toList a w he hl ha with ⟨h1, h2⟩ | ⟨j, u, h1, h2⟩
  · refine fin es ?_ ?_
    · rw [List.filter_eq_self.2 (fun p hp => by simpa using h2 p hp), he]
    · simp [Builtin.delete_, run_underlying ht, MapKept.run_getObj_map hb, hlx, h1, MapKept.run_setObj_map _ hb, Result.andThen]
  · have hlen : es.toList.length = l.length := by have := congrArg List.length he; simpa using this
    have hj : j < l.length := (List.getElem?_eq_some_iff.1 h2).1
    have hjs : j < es.size := by rw [← Array.length_toList, hlen]; exact hj
    refine fin (es.eraseIdxIfInBounds j) ?_ ?_
    · have hsub : (es.eraseIdxIfInBounds j).toList = es.toList.eraseIdx j := by
        unfold Array.eraseIdxIfInBounds
        rw [dif_pos hjs]
        simp
      have hf := ChangeMaps.filter_eq_eraseIdx (fun p : κ × Value => decide (p.1 = a)) l j (a, u) h2 (by simp) (by
        rw [List.nodup_iff_pairwise_ne, List.pairwise_map] at hnd
        exact hnd.imp (fun {p q} hpq ⟨e1, e2⟩ => hpq (by simp at e1 e2; rw [e1, e2])))
      rw [hsub, ChangeMaps.map_eraseIdx, he, ← ChangeMaps.map_eraseIdx, ← hf]
      congr 1
      refine List.filter_congr fun p _ => ?_
      simp
    · simp [Builtin.delete_, run_underlying ht, MapKept.run_getObj_map hb, hlx, h1, MapKept.run_setObj_map _ hb, Result.andThen]
end
end Go.Hb

namespace Go.Hb
section
variable {w0 w : World} {F : Nat → Prop} {L L' : List Asrt}
def ownsAt (w : World) (E : TypeId) (sz : Nat) (v : Value) (n : Nat) (xs : List Value) : Prop :=
  xs.length = n * sz ∧ ((v = .slice none 0 0 ∧ n = 0) ∨
   ∃ g o cap cur, v = .slice (some ⟨g, o, none⟩) n cap ∧ w.heap[g]? = some (.cells cur E (0, 0)) ∧ n ≤ cap ∧ cap ≤ maxLen ∧ o + cap * sz ≤ cur.size ∧ (cur.toList.drop o).take (n * sz) = xs)
/-- The slice v of n elements is one's own, wherever it begins. -/
def odl (v : Value) (E : TypeId) (sz n : Nat) (xs : List Value) : Asrt := .ex (fun k => v.ownBlock = some k) (fun w => ownsAt w E sz v n xs)
theorem odl.dep (v : Value) (E : TypeId) (sz n : Nat) (xs : List Value) : (odl v E sz n xs).dep := by
  intro w w' hk h
  refine ⟨h.1, ?_⟩
  rcases h.2 with hn | ⟨g, o, cap, cur, rfl, hg, r⟩
  · exact .inl hn
  · refine .inr ⟨g, o, cap, cur, rfl, ?_, r⟩
    rw [hk g rfl]; exact hg
theorem ownsAt_of {E : TypeId} {sz n base : Nat} {v : Value} {xs : List Value} (h : w.ownsRow base E sz v n xs) : ownsAt w E sz v n xs := by
  refine ⟨h.1, ?_⟩
  rcases h.2 with hn | ⟨g, cap, cur, rfl, hb, hg, h1, h2, h3, h4⟩
  · exact .inl hn
  · exact .inr ⟨g, 0, cap, cur, rfl, hg, h1, h2, by omega, h4⟩
theorem ownsAt_rd {E : TypeId} {sz n c : Nat} {a : Option Addr} {xs : List Value} (h : ownsAt w E sz (.slice a n c) n xs) : Rd w a xs := by
  intro j v hj
  rcases h.2 with ⟨he, hn⟩ | ⟨g, o, cap, cur, he, hg, h1, h2, h3, h4⟩
  · subst hn
    have := h.1
    simp only [Nat.zero_mul] at this
    rw [List.eq_nil_of_length_eq_zero this] at hj; simp at hj
  · simp only [Value.slice.injEq] at he
    obtain ⟨rfl, _, rfl⟩ := he
    refine ⟨_, rfl, ?_⟩
    rw [addr_add, cell_own hg]
    rw [← h4, List.getElem?_take] at hj
    split at hj
    · rw [List.getElem?_drop] at hj
      simpa using hj
    · cases hj
theorem ownsAt_drop {E : TypeId} {sz k c l : Nat} {a : Option Addr} {xs : List Value} (h : ownsAt w E sz (.slice a k c) k xs) (hl : l ≤ k) :
    ownsAt w E sz (.slice (subA a c l sz) (k - l) (c - l)) (k - l) (xs.drop (l * sz)) := by
  refine ⟨by rw [List.length_drop, h.1, Nat.sub_mul], ?_⟩
  rcases h.2 with ⟨he, hn⟩ | ⟨g, o, cap, cur, he, hg, h1, h2, h3, h4⟩
  · simp only [Value.slice.injEq] at he
    obtain ⟨rfl, _, rfl⟩ := he
    subst hn
    left
    refine ⟨?_, by omega⟩
    unfold subA
    simp
  · simp only [Value.slice.injEq] at he
    obtain ⟨rfl, _, rfl⟩ := he
    right
    by_cases hc : c = l
    · refine ⟨g, o, c - l, cur, by simp [subA, hc], hg, by omega, by omega, by rw [hc, Nat.sub_self]; omega, ?_⟩
      rw [show k - l = 0 by omega, Nat.zero_mul, List.take_zero, List.drop_of_length_le (by rw [h.1, show k = l by omega]; exact Nat.le_refl _)]
    · have hm : l * sz + (c - l) * sz = c * sz := by rw [← Nat.add_mul]; congr 1; omega
      refine ⟨g, o + l * sz, c - l, cur, ?_, hg, by omega, by omega, by omega, ?_⟩
      · unfold subA
        rw [if_neg hc]
        show Value.slice (some ((⟨g, o, none⟩ : Addr).add (l * sz))) _ _ = _
        rw [addr_add]
      · rw [← h4, List.drop_take, List.drop_drop, Nat.sub_mul]
theorem St.osl_odl {E : TypeId} {sz n : Nat} {v : Value} {xs : List Value} (h : St w0 F L w) (hs : Sel L (osl v E sz n xs) (odl v E sz n xs) L') : St w0 F L' w :=
  h.turn hs rfl (St.refl w _) (ownsAt_of (h.holds _ hs.mem)) (fun _ hk => .inl hk) (odl.dep _ _ _ _ _)
theorem St.odl_drop {E : TypeId} {sz k c l : Nat} {a : Option Addr} {xs : List Value} (h : St w0 F L w) (hs : Sel L (odl (.slice a k c) E sz k xs) (odl (.slice (subA a c l sz) (k - l) (c - l)) E sz (k - l) (xs.drop (l * sz))) L') (hl : l ≤ k) : St w0 F L' w := by
  refine h.turn hs rfl (St.refl w _) (ownsAt_drop (h.holds _ hs.mem) hl) (fun j hj => .inl ?_) (odl.dep _ _ _ _ _)
  have hj : (Value.slice (subA a c l sz) (k - l) (c - l)).ownBlock = some j := hj
  show (Value.slice a k c).ownBlock = some j
  unfold subA at hj
  split at hj
  · cases a <;> exact hj
  · cases a with
    | none => cases hj
    | some ad =>
      have : (ad.add (l * sz)).block = ad.block := addr_add_block _ _
      simp only [Option.map_some, Value.ownBlock, this] at hj
      exact hj
theorem St.odl_foot {a : Option Addr} {n c : Nat} {E sz : Nat} {xs : List Value} {k : Nat} (h : rdFoot a xs k) : (odl (.slice a n c) E sz n xs).foot k := by
  obtain ⟨_, ad, rfl, rfl⟩ := h; rfl
theorem St.rd_of_odl {n : Nat} {E : TypeId} {sz c : Nat} {a : Option Addr} {xs : List Value} (h : St w0 F L w) (hm : odl (.slice a n c) E sz n xs ∈ L) : Rd w a xs := ownsAt_rd (h.holds _ hm)
theorem ownsAt_some {a : Option Addr} {c n E sz : Nat} {xs : List Value} (h : ownsAt w E sz (.slice a n c) n xs) : a = none → n = 0 ∧ c = 0 := by
  intro ha; subst ha
  rcases h.2 with ⟨he, hn⟩ | ⟨g, o, cap, cur, he, _⟩
  · simp only [Value.slice.injEq] at he; exact ⟨hn, he.2.2⟩
  · simp at he
theorem odl_form {E : TypeId} {sz n : Nat} {v : Value} {xs : List Value} (h : ownsAt w E sz v n xs) : ∃ a c, v = .slice a n c := by
  rcases h.2 with ⟨rfl, rfl⟩ | ⟨g, o, cap, cur, rfl, _⟩
  · exact ⟨_, _, rfl⟩
  · exact ⟨_, _, rfl⟩
end
section
variable {P : Program} {f : Frm} {T T' : TypeId} {s x y : Operand} {v : Value} {w0 : World} {F : Nat → Prop} {L : List Asrt} {C : World → Prop}
variable {n : Nat} {ops rest : List Oper} {Q : Post} {p : String} {af : Array Edge} {d : Nat}
theorem run_append_in (w : World) (t tx ty e : TypeId) (i : TypeInfo) (ht : P.underlying t = some (.slice e)) (hi : P.info? e = some i) (b off sLen sCap : Nat) (cur : Array Value) (x : Value) (n : Nat) (news : List Value) (hs : Src P i.size tx x n news w)
    (hg : w.heap[b]? = some (.cells cur e (0, 0))) (hroom : sLen + n ≤ sCap) (hfit : off + sLen * i.size + news.length ≤ cur.size) :
    (Builtin.append_ #[t, tx] ty #[.slice (some ⟨b, off, none⟩) sLen sCap, x]).run P w = .ok (.slice (some ⟨b, off, none⟩) (sLen + n) sCap) (w.setRow b (splice cur.toList (off + sLen * i.size) news).toArray) := by
  have hst := run_storeCells_at P b (off + sLen * i.size) e news 0 cur w hg (by simpa using hfit) hs.one
  simp only [Nat.add_zero] at hst
  rcases hs.kind with ⟨e', hk⟩ | hk <;> simp [Builtin.append_, run_underlying ht, run_underlying hk, sizeOf, typeInfo, hi, hs.len, hroom, hs.cells, Addr.add_lit, hst, splice]
/-- append, as it runs, to a slice of one's own that may begin inside its block. -/
theorem run_append_odl {E : TypeId} {sz by_ : Nat} (h : SliceOf P T E sz by_) (w : World) (ty : TypeId) {n m cx : Nat} {ax : Option Addr} {xs news : List Value} (hown : ownsAt w E sz v n xs)
    (hrd : Rd w ax news) (hnone : ax = none → m = 0 ∧ cx = 0) (hl : news.length = m * sz) (h1 : news.all Value.oneCell' = true) (hbytes : (n + m) * by_ ≤ 140737488355328) (hmax : n + m ≤ maxLen) :
    ∃ v' w', (Builtin.append_ #[T, T] ty #[v, .slice ax m cx]).run P w = .ok v' w' ∧ ownsAt w' E sz v' (n + m) (xs ++ news) ∧ w.grownBy w' v.ownBlock ∧
      (∀ k, v'.ownBlock = some k → v.ownBlock = some k ∨ (w.heap.size ≤ k ∧ k < w'.heap.size)) := by
  rcases hown.2 with ⟨rfl, rfl⟩ | ⟨g, o, cap, cur, rfl, hg, hnc, hcm, hcs, htake⟩
  · have hx : xs = [] := List.eq_nil_of_length_eq_zero (by simpa using hown.1)
    subst hx
    obtain ⟨v', w', a1, a2, a3, _, a5⟩ := run_append_any (P := P) h w ty (v := .slice none 0 0) (n := 0) (World.ownsRow_nil w 0 E sz) hrd hnone hl h1 hbytes hmax
    exact ⟨v', w', a1, ownsAt_of a2, a3, a5⟩
  · have hinf := h.inf
    obtain ⟨z, hz, hzs⟩ := h.zero
    cases hi : P.info? E with
    | none => simp [hi] at hinf
    | some inf =>
      simp only [hi, Option.map_some, Option.some.injEq, Prod.mk.injEq] at hinf
      simp only [hi, Option.bind_some] at hz
      obtain ⟨rfl, rfl⟩ := hinf
      have h1' : ∀ u ∈ news, u.oneCell' = true := fun u hu => List.all_eq_true.1 h1 u hu
      have hsrc : Src P inf.size T (.slice ax m cx) m news w := by
        cases ax with
        | none =>
          obtain ⟨rfl, rfl⟩ := hnone rfl
          have hn : news = [] := List.eq_nil_of_length_eq_zero (by simpa using hl)
          subst hn
          exact Src.ofNil w h.und 0
        | some ad =>
          exact Src.ofSlice w h.und ad m cx news hl (fun j u hj => by obtain ⟨ad', ha', hc⟩ := hrd j u hj; cases ha'; exact hc) h1'
      have hlen : (xs ++ news).length = (n + m) * inf.size := by rw [List.length_append, hown.1, hl, Nat.add_mul]
      by_cases hroom : n + m ≤ cap
      · have hm : n * inf.size + m * inf.size ≤ cap * inf.size := by rw [← Nat.add_mul]; exact Nat.mul_le_mul_right _ hroom
        have hr := run_append_in w T T ty E inf h.und hi g o n cap cur (.slice ax m cx) m news hsrc hg hroom (by omega)
        refine ⟨_, _, hr, ⟨hlen, .inr ⟨g, o, cap, _, rfl, setRow_heap w g cur _ E _ hg, hroom, hcm, ?_, ?_⟩⟩, ⟨rfl, rfl, rfl, by simp, fun k _ hk => setRow_other w g k _ (fun e => hk (by simp [Value.ownBlock, e]))⟩, fun k hk => .inl hk⟩
        · simp only [splice, List.size_toArray, List.length_append, List.length_take, List.length_drop, Array.length_toList]
          omega
        · have e1 : (splice cur.toList (o + n * inf.size) news).drop o = (cur.toList.drop o).take (n * inf.size) ++ news ++ cur.toList.drop (o + n * inf.size + news.length) := by
            unfold splice
            rw [List.append_assoc, List.drop_append, List.drop_take, List.length_take, Array.length_toList]
            rw [show o + n * inf.size - o = n * inf.size by omega, show o - min (o + n * inf.size) cur.size = 0 by omega, List.drop_zero, List.append_assoc]
          show ((splice cur.toList (o + n * inf.size) news).drop o).take ((n + m) * inf.size) = xs ++ news
          rw [e1, htake, ← hlen]
          exact List.take_left
      · have hx63 : n + m ≤ 9223372036854775807 := by simp only [maxLen] at hmax; omega
        have holds : ∀ j u, xs[j]? = some u → w.drew.cell? ((⟨g, o, none⟩ : Addr).add j) = some u := fun j u hj => by
          obtain ⟨ad, he, hc⟩ := ownsAt_rd hown j u hj
          cases he; exact hc
        have hr := run_append_grow_src (P := P) w T T ty E inf z h.und hi hz (some ⟨g, o, none⟩) n cap xs (run_firstCells_some w.drew inf.size n ⟨g, o, none⟩ n cap xs hown.1 holds) (.slice ax m cx) m news hsrc (by omega) (by omega) (growslice_fits (by omega) hbytes)
        have hge := grownCap_ge w (n + m) cap E
        have hcm2 : grownCap w (n + m) cap E ≤ maxLen := grownCap_le_maxLen w (n + m) cap E hmax
        refine ⟨_, _, hr, ⟨hlen, .inr ⟨w.heap.size, 0, _, _, rfl, heap_alloc_new w.drew _, hge, hcm2, ?_, ?_⟩⟩, ⟨rfl, rfl, rfl, by simp, fun k hk _ => by first | exact heap_alloc_old w.drew _ hk | exact heap_alloc_old w.drew _ k hk⟩, ?_⟩
        · simp only [Array.size_append, List.size_toArray, size_zeroCells, hzs, hlen, Nat.zero_add, ← Nat.add_mul]
          exact Nat.le_of_eq (congrArg (· * _) (by omega))
        · simp only [Array.toList_append, List.drop_zero]
          rw [← hlen]
          exact List.take_left
        · intro k hk
          simp only [Value.ownBlock, Option.some.injEq] at hk
          subst hk
          exact .inr ⟨Nat.le_refl _, by simp⟩
/-- append to a slice of one's own that may begin inside its block. -/
theorem LR.append_odl {E : TypeId} {sz by_ k c m cx : Nat} {a ax : Option Addr} {xs news : List Value} {L' : Option Addr → Nat → List Asrt} [h : SliceOf P T E sz by_]
    (hs : f.ev s = .slice a k c) (hx : f.ev x = .slice ax m cx) (hsel : ∀ a' c', Sel L (odl (.slice a k c) E sz k xs) (odl (.slice a' (k + m) c') E sz (k + m) (xs ++ news)) (L' a' c'))
    (hrd : ∀ w, St w0 F L w → Rd w ax news) (hnone : ax = none → m = 0 ∧ cx = 0) (hl : news.length = m * sz) (h1 : news.all Value.oneCell' = true) (hbytes : (k + m) * by_ ≤ 140737488355328) (hmax : k + m ≤ maxLen) (hd : Nat.blt d n = true)
    (kk : ∀ a' c', LR false P n ops rest Q (upd f d (.slice a' (k + m) c')) (St w0 F (L' a' c'))) :
    LR false P n ops (⟨some d, .call ⟨.builtin .append, [s, x].toArray, [T, T].toArray⟩, T', p, af, none⟩ :: rest) Q f (St w0 F L) := by
  intro w hw b hb
  refine wpList_plain rfl fun K hK => ?_
  have hown : ownsAt w E sz (.slice a k c) k xs := hw.holds _ (hsel none 0).mem
  obtain ⟨v', w', hr, ho, hg, hblk⟩ := run_append_odl (P := P) h w T' hown (hrd w hw) hnone hl h1 hbytes hmax
  obtain ⟨a', c', rfl⟩ := odl_form ho
  have hr' := run_builtin_append (P := P) (T' := T') (dst := some d) (p := p) (af := af) (g := none) hs hx hr
  rw [← hb.eval] at hr'
  simp only [Oper.wp, hr', Oper.upon_value]
  refine hK _ _ (kk a' c' w' ?_ _ (hb.put _ hd))
  exact hw.turn (hsel a' c') rfl (keep_of_grown hg fun k hk => hk) ho (fun k hk => hblk k hk) (odl.dep _ _ _ _ _)
end
/-! ### bundles, joined -/
section
variable {α : Type} {f : α → Asrt} {w0 w : World} {F : Nat → Prop} {R : List Asrt} {x : α} {l r : List α}
theorem St.bun_append (hd : ∀ x, (f x).dep) (h : St w0 F (bun f l :: bun f r :: R) w) : St w0 F (bun f (l ++ r) :: R) w := by
  obtain ⟨b1, b2, b3⟩ : (bun f l).holds w := h.g0
  obtain ⟨c1, c2, c3⟩ : (bun f r).holds w := h.g1
  have hdis := (List.pairwise_cons.1 h.dis).1 (bun f r) (by simp) rfl
  refine h.merge rfl rfl ⟨?_, ?_, ?_⟩ ?_ (bun_dep hd _)
  · intro y hy
    rcases List.mem_append.1 hy with hy | hy
    · exact b1 y hy
    · exact c1 y hy
  · exact List.pairwise_append.2 ⟨b2, c2, fun a ha b hb k hk hk2 => hdis k ⟨a, ha, hk⟩ ⟨b, hb, hk2⟩⟩
  · rintro k ⟨y, hy, hk⟩
    rcases List.mem_append.1 hy with hy | hy
    · exact b3 k ⟨y, hy, hk⟩
    · exact c3 k ⟨y, hy, hk⟩
  · rintro k ⟨y, hy, hk⟩
    rcases List.mem_append.1 hy with hy | hy
    · exact .inl ⟨y, hy, hk⟩
    · exact .inr ⟨y, hy, hk⟩
theorem St.bun_perm (hd : ∀ x, (f x).dep) (hp : l.Perm r) (h : St w0 F (bun f l :: R) w) : St w0 F (bun f r :: R) w := by
  obtain ⟨b1, b2, b3⟩ : (bun f l).holds w := h.g0
  refine h.turn (sH _ _ _) rfl (St.refl w _) ⟨fun x hx => b1 x (hp.mem_iff.2 hx), (hp.pairwise_iff (fun {x y} hxy k hk hk2 => hxy k hk2 hk)).1 b2, fun k ⟨x, hx, hk⟩ => b3 k ⟨x, hp.mem_iff.2 hx, hk⟩⟩ (fun k ⟨x, hx, hk⟩ => .inl ⟨x, hp.mem_iff.2 hx, hk⟩) (bun_dep hd _)
theorem St.bun_pick {q : List α} (hd : ∀ x, (f x).dep) (h : St w0 F (bun f (l ++ x :: q) :: R) w) : St w0 F (f x :: bun f (l ++ q) :: R) w := St.bun_head hd (St.bun_perm hd List.perm_middle h)
theorem St.bun_put {q : List α} (hd : ∀ x, (f x).dep) (he : ∀ x, (f x).excl = true) (h : St w0 F (f x :: bun f (l ++ q) :: R) w) : St w0 F (bun f (l ++ x :: q) :: R) w :=
  St.bun_perm hd ((List.perm_append_singleton x (l ++ q)).trans List.perm_middle.symm) (St.bun_snoc hd he h)
end
/-! ### stores into a slice that may begin inside its block -/
theorem splice_take {D vs : List Value} {i N : Nat} (h : i + vs.length ≤ N) (hN : N ≤ D.length) : (splice D i vs).take N = splice (D.take N) i vs := by
  have e2 : splice D i vs = splice (D.take N) i vs ++ D.drop N := by
    have e3 : D = D.take N ++ D.drop N := (List.take_append_drop N D).symm
    have hl : (D.take N).length = N := by simp; omega
    conv => lhs; rw [e3]
    unfold splice
    rw [List.take_append_of_le_length (by omega), List.drop_append_of_le_length (by omega)]
    simp
  have e4 : (splice (D.take N) i vs).length = N := by simp [splice]; omega
  rw [e2, List.take_append_of_le_length (by omega), List.take_of_length_le (by omega)]
theorem splice_drop {D vs : List Value} {o i : Nat} (h : o + i ≤ D.length) : (splice D (o + i) vs).drop o = splice (D.drop o) i vs := by
  unfold splice
  rw [List.append_assoc, List.drop_append, List.drop_take, List.length_take, show o - min (o + i) D.length = 0 by omega, List.drop_zero, show o + i - o = i by omega, List.drop_drop, List.append_assoc, Nat.add_assoc]
theorem Stores.odl {P : Program} {T : TypeId} {q b o i n c : Nat} {v : Value} {vs xs : List Value} {E : TypeId} {sz : Nat} (h : Sz P T q) (hv : v.cells = vs.toArray) (h1 : vs.all Value.oneCell' = true) (hm : vs.length = q) (hb : i + vs.length ≤ xs.length) :
    Stores P T ⟨b, o + i, none⟩ v (odl (.slice (some ⟨b, o, none⟩) n c) E sz n xs) (odl (.slice (some ⟨b, o, none⟩) n c) E sz n (splice xs i vs)) := by
  intro w hw
  have hw' : ownsAt w E sz (.slice (some ⟨b, o, none⟩) n c) n xs := hw
  obtain ⟨hl, hr⟩ := hw'
  rcases hr with ⟨he, _⟩ | ⟨g, o', cap, cur, he, hg, hnc, hcm, hcs, htake⟩
  · cases he
  simp only [Value.slice.injEq, Option.some.injEq, Addr.mk.injEq, and_true, true_and] at he
  obtain ⟨⟨rfl, rfl⟩, rfl⟩ := he
  have hmul : n * sz ≤ c * sz := Nat.mul_le_mul_right _ hnc
  have hg' : w.heap[b]? = some (.cells cur.toList.toArray E (0, 0)) := by simpa using hg
  have hsz : cur.toList.length = cur.size := Array.length_toList
  have hrun := run_storeVar (P := P) h w b (o + i) v vs cur.toList E hv hm hg' (by omega) h1
  refine ⟨_, hrun, ⟨Keep.setRow w b _ _ E hg' rfl, ?_, fun k hk => .inl hk⟩⟩
  refine ⟨by simp [splice]; omega, .inr ⟨b, o, c, (splice cur.toList (o + i) vs).toArray, rfl, setRow_heap w b _ _ E (0, 0) hg', hnc, hcm, ?_, ?_⟩⟩
  · simp [splice]; omega
  · show ((splice cur.toList (o + i) vs).drop o).take (n * sz) = splice xs i vs
    rw [splice_drop (by omega), splice_take (by omega) (by simp; omega), htake]
end Go.Hb

namespace Go.Hb
section
variable {P : Program} {f : Frm} {T T' T'' : TypeId} {x y : Operand} {C : World → Prop} {w0 w : World} {F : Nat → Prop} {L L' : List Asrt}
theorem Ev.min2 {k k' : IntKind} {a b : Int} {ts : Array TypeId} (hx : f.ev x = .int k a) (hy : f.ev y = .int k' b) : Ev P C f (.call ⟨.builtin .min, [x, y].toArray, ts⟩) T (.int k (if b < a then b else a)) := fun w _ d p af g => by
  simp [execOp, resolve, invoke, builtin, Builtin.min_, Builtin.min2, hx, hy]
theorem Ev.max2 {k k' : IntKind} {a b : Int} {ts : Array TypeId} (hx : f.ev x = .int k a) (hy : f.ev y = .int k' b) : Ev P C f (.call ⟨.builtin .max, [x, y].toArray, ts⟩) T (.int k (if b > a then b else a)) := fun w _ d p af g => by
  simp [execOp, resolve, invoke, builtin, Builtin.max_, Builtin.max2, hx, hy]
theorem minQ {a b q : Nat} {ts : Array TypeId} (h : min b a = q) (hx : f.ev x = .int .i64 (a : Int)) (hy : f.ev y = .int .i64 (b : Int)) : Ev P C f (.call ⟨.builtin .min, [x, y].toArray, ts⟩) T (.int .i64 (q : Int)) := by
  have h2 := Ev.min2 (P := P) (C := C) (T := T) (ts := ts) hx hy
  have e : (if (b : Int) < (a : Int) then (b : Int) else (a : Int)) = (q : Int) := by subst h; split <;> omega
  rwa [e] at h2
theorem maxQ {a b q : Nat} {ts : Array TypeId} (h : max b a = q) (hx : f.ev x = .int .i64 (a : Int)) (hy : f.ev y = .int .i64 (b : Int)) : Ev P C f (.call ⟨.builtin .max, [x, y].toArray, ts⟩) T (.int .i64 (q : Int)) := by
  have h2 := Ev.max2 (P := P) (C := C) (T := T) (ts := ts) hx hy
  have e : (if (b : Int) > (a : Int) then (b : Int) else (a : Int)) = (q : Int) := by subst h; split <;> omega
  rwa [e] at h2
theorem addQ {a b q : Nat} (h : a + b = q) (hx : f.ev x = .int .i64 (a : Int)) (hy : f.ev y = .int .i64 (b : Int)) (h1 : q ≤ 9223372036854775807) : Ev P C f (.binOp .add T' x y T'') T (.int .i64 (q : Int)) := by
  have := Ev.add (P := P) (C := C) (T := T) (T' := T') (T'' := T'') hx hy (by omega) (by omega)
  rwa [show (a : Int) + (b : Int) = (q : Int) by omega] at this
theorem subQ {a b q : Nat} (h : a - b = q) (hx : f.ev x = .int .i64 (a : Int)) (hy : f.ev y = .int .i64 (b : Int)) (h0 : b ≤ a) (h1 : a ≤ 9223372036854775807) : Ev P C f (.binOp .sub T' x y T'') T (.int .i64 (q : Int)) := by
  have := Ev.sub (P := P) (C := C) (T := T) (T' := T') (T'' := T'') hx hy (by omega) (by omega)
  rwa [show (a : Int) - (b : Int) = (q : Int) by omega] at this
theorem mulQ {a b q : Nat} (h : a * b = q) (hx : f.ev x = .int .i64 (a : Int)) (hy : f.ev y = .int .i64 (b : Int)) (h1 : q ≤ 9223372036854775807) : Ev P C f (.binOp .mul T' x y T'') T (.int .i64 (q : Int)) := by
  have e : (a : Int) * (b : Int) = (q : Int) := by subst h; simp
  have := Ev.mul (P := P) (C := C) (T := T) (T' := T') (T'' := T'') hx hy (by rw [e]; omega) (by rw [e]; omega)
  rwa [e] at this
theorem quoQ {a b q : Nat} (h : a / b = q) (hx : f.ev x = .int .i64 (a : Int)) (hy : f.ev y = .int .i64 (b : Int)) (h0 : b ≠ 0) (h1 : a ≤ 9223372036854775807) : Ev P C f (.binOp .quo T' x y T'') T (.int .i64 (q : Int)) := by
  have := Ev.quo (P := P) (C := C) (T := T) (T' := T') (T'' := T'') hx hy (by omega)
  have e : (a : Int).tdiv (b : Int) = (q : Int) := by subst h; exact (Int.ofNat_tdiv a b).symm
  have hq : q ≤ a := by subst h; exact Nat.div_le_self _ _
  rw [e, wrap_i64 (by omega) (by omega)] at this
  exact this
theorem remQ {a b q : Nat} (h : a % b = q) (hx : f.ev x = .int .i64 (a : Int)) (hy : f.ev y = .int .i64 (b : Int)) (h0 : b ≠ 0) : Ev P C f (.binOp .rem T' x y T'') T (.int .i64 (q : Int)) := by
  have := Ev.rem (P := P) (C := C) (T := T) (T' := T') (T'' := T'') hx hy (by omega)
  have e : (a : Int).tmod (b : Int) = (q : Int) := by subst h; exact (Int.ofNat_tmod a b).symm
  rwa [e] at this
theorem hiQ {E : TypeId} {sz by_ k c j : Nat} {a : Option Addr} [h : SliceOf P T E sz by_] (hx : f.ev x = .slice a k c) (hy : f.ev y = .int .i64 (j : Int)) (h1 : j ≤ c) : Ev P C f (.slice T x none (some y) none) T' (.slice (subA a c 0 sz) j c) := by
  have := Ev.slice_hi (P := P) (C := C) (T := T) (T' := T') (E := E) (sz := sz) (by_ := by_) (h := h) hx hy (by omega) (by omega)
  rwa [Int.toNat_natCast] at this
theorem loQ {E : TypeId} {sz by_ k c j q : Nat} {a : Option Addr} [h : SliceOf P T E sz by_] (h0 : k - j = q) (hx : f.ev x = .slice a k c) (hy : f.ev y = .int .i64 (j : Int)) (h1 : j ≤ k) : Ev P C f (.slice T x (some y) none none) T' (.slice (subA a c j sz) q (c - j)) := by
  have := Ev.slice_lo (P := P) (C := C) (T := T) (T' := T') (E := E) (sz := sz) (by_ := by_) (h := h) hx hy (by omega) (by omega)
  rwa [Int.toNat_natCast, h0] at this
theorem lohiQ {E : TypeId} {sz by_ k c i j q : Nat} {a : Option Addr} {z : Operand} [h : SliceOf P T E sz by_] (h0 : j - i = q) (hx : f.ev x = .slice a k c) (hy : f.ev y = .int .i64 (i : Int)) (hz : f.ev z = .int .i64 (j : Int)) (h1 : i ≤ j) (h2 : j ≤ c) : Ev P C f (.slice T x (some y) (some z) none) T' (.slice (subA a c i sz) q (c - i)) := by
  have := Ev.slice_lohi (P := P) (C := C) (T := T) (T' := T') (E := E) (sz := sz) (by_ := by_) (h := h) hx hy hz (by omega) (by omega) (by omega)
  rwa [Int.toNat_natCast, Int.toNat_natCast, h0] at this
class MapT (P : Program) (T : TypeId) : Prop where
  ex : ∃ k e, P.underlying T = some (.map k e)
theorem equalIn_map (w : World) (d : Nat) {t k e : TypeId} {r : Option Nat} (h : P.underlying t = some (.map k e)) : (Op.equalIn (d + 1) t (.map r) (.map none)).run P w = .ok r.isNone w := by
  cases r <;> simp [Op.equalIn, run_underlying h]
theorem Ev.map_nil [h : MapT P T'] {r : Option Nat} (hx : f.ev x = .map r) (hy : f.ev y = .map none) : Ev P C f (.binOp .eql T' x y T'') T (.bool r.isNone) :=
  ev_eql_of (fun w => by rw [hx, hy]; rfl) (by rw [hx, hy]; rfl) (fun w => by
    obtain ⟨k, e, hu⟩ := h.ex
    rw [hx, hy]
    exact equalIn_map w _ hu)
theorem ownsAt_take {E : TypeId} {sz k c l : Nat} {a : Option Addr} {xs : List Value} (h : ownsAt w E sz (.slice a k c) k xs) (hl : l ≤ k) : ownsAt w E sz (.slice a l c) l (xs.take (l * sz)) := by
  have hm : l * sz ≤ k * sz := Nat.mul_le_mul_right _ hl
  refine ⟨by rw [List.length_take, h.1]; omega, ?_⟩
  rcases h.2 with ⟨he, hn⟩ | ⟨g, o, cap, cur, he, hg, h1, h2, h3, h4⟩
  · simp only [Value.slice.injEq] at he
    obtain ⟨rfl, _, rfl⟩ := he
    have : l = 0 := by omega
    subst this
    exact .inl ⟨rfl, rfl⟩
  · simp only [Value.slice.injEq] at he
    obtain ⟨rfl, _, rfl⟩ := he
    refine .inr ⟨g, o, c, cur, rfl, hg, by omega, h2, h3, ?_⟩
    rw [← h4, List.take_take, Nat.min_eq_left hm]
theorem St.odl_take {E : TypeId} {sz k c l : Nat} {a : Option Addr} {xs : List Value} (h : St w0 F L w) (hs : Sel L (odl (.slice a k c) E sz k xs) (odl (.slice a l c) E sz l (xs.take (l * sz))) L') (hl : l ≤ k) : St w0 F L' w :=
  h.turn hs rfl (St.refl w _) (ownsAt_take (h.holds _ hs.mem) hl) (fun j hj => .inl (by cases a <;> exact hj)) (odl.dep _ _ _ _ _)
theorem subA_zero {b o c sz : Nat} : subA (some ⟨b, o, none⟩) c 0 sz = some ⟨b, o, none⟩ := by
  unfold subA
  split
  · rfl
  · simp [addr_add]
theorem ownsAt_subA {E : TypeId} {sz n c : Nat} {a : Option Addr} {xs : List Value} (h : ownsAt w E sz (.slice a n c) n xs) : subA a c 0 sz = a := by
  rcases h.2 with ⟨he, hn⟩ | ⟨g, o, cap, cur, he, _⟩
  · simp only [Value.slice.injEq] at he
    obtain ⟨rfl, _, rfl⟩ := he
    simp [subA]
  · simp only [Value.slice.injEq] at he
    obtain ⟨rfl, _, rfl⟩ := he
    exact subA_zero
end
end Go.Hb

namespace Go.Proofs.Ytomlgnncncjmaaa
open Go.Hb
attribute [local irreducible] LR CW At Ev thn blk finK noG again CallsTo DW QL dnext TW DP
set_option linter.unusedSimpArgs false
set_option linter.unusedVariables false
set_option maxRecDepth 100000

def pA : Plc := ⟨0, 3, 2, 6⟩
def qA : Plc := ⟨2, 1, 4, 16⟩
def bA : List Int := [2, 0, 3, 2, 6, 2, 1, 4, 16]
def byV (x : Option Addr × Nat × List Int) : Value := .slice x.1 x.2.2.length x.2.1
def tK : Msg := ⟨1, 1, 9, 2, 0, 1, 130, true, 0, 0, 0, 0, [65]⟩
def datR (x : Dat × Option Addr × Nat) : List Value := x.1.cells x.2.1 x.2.2
theorem datR_len (x : Dat × Option Addr × Nat) : (datR x).length = 18 := rfl
def plV (x : Option Addr × List Plc) : Value := .slice x.1 x.2.length x.2.length
theorem cell_at {w0 w : World} {F : Nat → Prop} {R : List Asrt} {b : Nat} {cs : List Value} {E : TypeId} {fr : Nat × Nat} {i : Nat} {v : Value} (h : St w0 F (.own b (.cells cs.toArray E fr) :: R) w) (hv : cs[i]? = some v) : w.cell? ⟨b, i, none⟩ = some v := by
  rw [cell_own (show w.heap[b]? = some (.cells cs.toArray E fr) from h.g0)]
  simpa using hv
def mK : Msg := ⟨2, 3, 0, 0, 0, 0, 0, false, 5, 2, 1, 7, []⟩
def cB : List Int := [2, 3, 0, 0, 0, 0, 0, 0, 5, 2, 1, 7, 0]
def dB : List Int := [2, 3, 0, 0, 0, 0, 0, 0, 5, 2, 1, 7, 0, 0]
def dK : Dat := ⟨3, 2, 1, 2, 0, mK⟩
def oK : Msg := ⟨5, 2, 0, 2, 0, 0, 0, false, 0, 3, 2, 1, [2, 3, 0, 0, 0, 0, 0, 0, 5, 2, 1, 7, 0]⟩
def xK : List Int := [5, 2, 0, 2, 0, 0, 0, 0, 0, 3, 2, 1, 13, 2, 3, 0, 0, 0, 0, 0, 0, 5, 2, 1, 7, 0]
theorem old_K : old dK = (oK, 0) := by kernel_rfl
theorem pack_O : pack oK = (xK, 0) := by kernel_rfl
theorem check_T : check { oK with body := xK } = 2 := by kernel_rfl
theorem pack_K : pack mK = (cB, 0) := by kernel_rfl
theorem charts_A : charts [pA, qA] = (bA, 0) := by kernel_rfl
set_option maxHeartbeats 8000000 in
theorem c9 (w : World) : CallsTo Try.prog 9 [] w fun v w' => v = .bool true ∧ Grew w w' := by
  refine go_in (n := 223) (St.refl _ NoF) Try.func9 rfl rfl ?_
  repeat'(first|(apply kA; (· exact rfl); intro bp)|(apply kp;iterate 2 exact rfl)|apply jJ|(apply jE;exact rfl)|(apply jp;exact rfl)|(apply jc;kernel_rfl)|((first|apply kf|apply kn|apply ke|apply kx|apply kc|apply kb);iterate 2 exact rfl)|((first|apply kz|apply ky);(·exact rfl);(·repeat(first|exact iO|exact iR rfl|apply iT));iterate 2 exact rfl)|(apply kg;iterate 2 exact rfl)|(apply kG;iterate 3 exact rfl)|(apply kB;(iterate 2 exact rfl);intro _)|(apply kA;exact rfl;intro _)|(apply kK;(iterate 4 exact rfl);intro _)|(apply kU;(iterate 2 exact rfl);(·repeat(first|exact sH _ _ _|apply sT));(first|exact nfL_eq rfl|exact rfl);exact rfl)|((first|apply kh|apply kl);(iterate 2 exact rfl);(first|decide|omega);exact rfl)|((first|(apply kR;iterate 2 exact rfl)|(apply kQ;exact rfl));all_goals(intro hc;try simp only[hcs]at hc;try(exfalso;first|contradiction|omega))))
  rename_i b1 b27
  apply LR.call
  · exact rfl
  intro w1 h1
  have hh := c28 (some ⟨b27, 0, none⟩) 2 [pA, qA] w1 (h1.rd_of_blk (mH _ _)) (by simp) (by intro p hp; simp at hp; rcases hp with rfl | rfl <;> (simp [pA, qA, i64]))
  rw [charts_A] at hh
  refine CallsTo.mono (show CallsTo Try.prog 28 _ w1 _ from hh) ?_
  rintro v w2 ⟨a3, k3, rfl, hn1⟩
  refine LR.back (h1.newSl hn1) ?_
  clear hn1 h1 hh
  have hbl : bA.length = 9 := rfl
  repeat'(first|(apply kp;iterate 2 exact rfl)|apply jJ|(apply jE;exact rfl)|(apply jp;exact rfl)|(apply jc;kernel_rfl)|((first|apply kf|apply kn|apply ke|apply kx|apply kc|apply kb);iterate 2 exact rfl)|((first|apply kz|apply ky);(·exact rfl);(·repeat(first|exact iO|exact iR rfl|apply iT));iterate 2 exact rfl)|(apply kg;iterate 2 exact rfl)|(apply kG;iterate 3 exact rfl)|(apply kB;(iterate 2 exact rfl);intro _)|(apply kA;exact rfl;intro _)|(apply kK;(iterate 4 exact rfl);intro _)|(apply kU;(iterate 2 exact rfl);(·repeat(first|exact sH _ _ _|apply sT));(first|exact nfL_eq rfl|exact rfl);exact rfl)|((first|apply kh|apply kl);(iterate 2 exact rfl);(first|decide|omega);exact rfl)|(apply kq; (· exact rfl); (· intro w1 h1; exact CallsTo.q (c19 a3 (some ⟨_, 0, none⟩) k3 9 bA bA w1 (h1.rd_of_own (by (repeat (first | exact mH _ _ | apply mT)))) (h1.rd_of_blk (mH _ _)) (by omega)) h1))|((first|(apply kR;iterate 2 exact rfl)|(apply kQ;exact rfl));all_goals(intro hc;try simp only[hcs]at hc;try(exfalso;first|contradiction|omega))))
  refine CW.sub (D := St w NoF [osl (.slice a3 9 k3) 5 1 9 (bv bA), .own bp (.cells ([Value.int .i64 2, .int .i64 1, .int .i64 4, .int .i64 16]).toArray 57 (0, 0)), .own b1 (.cells ([Value.int .i64 0, .int .i64 3, .int .i64 2, .int .i64 6]).toArray 57 (0, 0))]) ?_ (fun w' hw' => hw'.sub (by repeat (first | exact List.Sublist.refl _ | exact List.nil_sublist _ | apply List.Sublist.cons_cons | apply List.Sublist.cons)))
  apply CW.loop [0, 5, 6, 39, 40, 41, 42, 43, 44, 45, 46, 47, 48, 49, 50, 51, 52, 53, 54, 55, 56, 57, 58, 59, 60, 61, 62, 63, 64, 65, 66, 67] (fun i : Nat => i ≤ 28) (fun i => [(5, Value.int .i64 (i : Int))]) (fun _ => St w NoF [osl (.slice a3 9 k3) 5 1 9 (bv bA), .own bp (.cells ([Value.int .i64 2, .int .i64 1, .int .i64 4, .int .i64 16]).toArray 57 (0, 0)), .own b1 (.cells ([Value.int .i64 0, .int .i64 3, .int .i64 2, .int .i64 6]).toArray 57 (0, 0))]) (fun i => 28 - i)
  · exact fun w' hw' => ⟨0, by simp, ⟨rfl, trivial⟩, hw'⟩
  intro i g hi
  by_cases hlt : i < 28
  · repeat'(first|(apply kp;iterate 2 exact rfl)|apply jJ|(apply jE;exact rfl)|(apply jp;exact rfl)|(apply jc;kernel_rfl)|((first|apply kf|apply kn|apply ke|apply kx|apply kc|apply kb);iterate 2 exact rfl)|((first|apply kz|apply ky);(·exact rfl);(·repeat(first|exact iO|exact iR rfl|apply iT));iterate 2 exact rfl)|(apply kg;iterate 2 exact rfl)|(apply kG;iterate 3 exact rfl)|(apply kB;(iterate 2 exact rfl);intro _)|(apply kA;exact rfl;intro _)|(apply kK;(iterate 4 exact rfl);intro _)|(apply kU;(iterate 2 exact rfl);(·repeat(first|exact sH _ _ _|apply sT));(first|exact nfL_eq rfl|exact rfl);exact rfl)|((first|apply kh|apply kl);(iterate 2 exact rfl);(first|decide|omega);exact rfl)|((first|(apply kR;iterate 2 exact rfl)|(apply kQ;exact rfl));all_goals(intro hc;try simp only[hcs]at hc;try(exfalso;first|contradiction|omega))))
    apply LR.call
    · exact rfl
    intro w1 h1
    refine (c34 (i : Int) w1).mono ?_
    rintro v w2 ⟨m, a6, k6, rfl, hn1, hmb, hml⟩
    refine LR.back (h1.newSl hn1) ?_
    clear hn1 h1
    have hz6 : ∀ {L1 : List Asrt} {w1 : World}, St w NoF L1 w1 → osl (.slice a6 m.body.length k6) 5 1 m.body.length (bv m.body) ∈ L1 → (a6 = none → k6 = 0) := fun h1 hm e => (ownsRow_some (h1.holds _ hm) e).2
    repeat'(first|(apply kp;iterate 2 exact rfl)|apply jJ|(apply jE;exact rfl)|(apply jp;exact rfl)|(apply jc;kernel_rfl)|((first|apply kf|apply kn|apply ke|apply kx|apply kc|apply kb);iterate 2 exact rfl)|((first|apply kz|apply ky);(·exact rfl);(·repeat(first|exact iO|exact iR rfl|apply iT));iterate 2 exact rfl)|(apply kg;iterate 2 exact rfl)|(apply kG;iterate 3 exact rfl)|(apply kB;(iterate 2 exact rfl);intro _)|(apply kA;exact rfl;intro _)|(apply kK;(iterate 4 exact rfl);intro _)|(apply kU;(iterate 2 exact rfl);(·repeat(first|exact sH _ _ _|apply sT));(first|exact nfL_eq rfl|exact rfl);exact rfl)|((first|apply kh|apply kl);(iterate 2 exact rfl);(first|decide|omega);exact rfl)|(apply kq; (· exact rfl); (· intro w1 h1; first | (have hq := CallsTo.q (c3 m a6 k6 w1 (h1.rd_of_own (by (repeat (first | exact mH _ _ | apply mT)))) (hz6 h1 (by (repeat (first | exact mH _ _ | apply mT)))) (by omega) hmb) h1; show CallsTo Try.prog 3 [m.val a6 k6] w1 _; exact hq) | (have hq := CallsTo.q (c6 m a6 k6 w1 (h1.rd_of_own (by (repeat (first | exact mH _ _ | apply mT)))) (hz6 h1 (by (repeat (first | exact mH _ _ | apply mT)))) (by omega) hmb) h1; show CallsTo Try.prog 6 [m.val a6 k6] w1 _; exact hq) | (have hq := CallsTo.q (c35 ⟨3, 2, 1, 2, 0, m⟩ a6 k6 m a6 k6 w1 (h1.rd_of_own (by (repeat (first | exact mH _ _ | apply mT)))) (hz6 h1 (by (repeat (first | exact mH _ _ | apply mT)))) (by show m.body.length ≤ _; omega) hmb (h1.rd_of_own (by (repeat (first | exact mH _ _ | apply mT)))) (hz6 h1 (by (repeat (first | exact mH _ _ | apply mT)))) (by omega) hmb) h1; show CallsTo Try.prog 35 [Dat.val ⟨3, 2, 1, 2, 0, m⟩ a6 k6, m.val a6 k6] w1 _; exact hq) | (have hq := CallsTo.q (c8 ⟨0, 0, 0, 0, 0, m⟩ a6 k6 w1 (h1.rd_of_own (by (repeat (first | exact mH _ _ | apply mT)))) (hz6 h1 (by (repeat (first | exact mH _ _ | apply mT)))) (by show m.body.length ≤ _; omega) hmb) h1; show CallsTo Try.prog 8 [Dat.val ⟨0, 0, 0, 0, 0, m⟩ a6 k6] w1 _; exact hq)))|(apply addX;(iterate 2 exact rfl);(iterate 2(first|omega|(dsimp only;omega)));exact rfl)|((first|(apply kR;iterate 2 exact rfl)|(apply kQ;exact rfl));all_goals(intro hc;try simp only[hcs]at hc;try(exfalso;first|contradiction|omega))))
    apply At.again (i + 1)
    · show i + 1 ≤ 28
      omega
    · (repeat (first | exact Out.refl _ _ | exact Out.mix | (apply Out.upd; (· exact rfl)) | (apply Out.updL; (· exact rfl)) | (apply Out.mixs; (· exact rfl))))
    · exact ⟨rfl, trivial⟩
    · exact fun w' hw' => hw'.sub (by repeat (first | exact List.Sublist.refl _ | exact List.nil_sublist _ | apply List.Sublist.cons_cons | apply List.Sublist.cons))
    · show 28 - (i + 1) < 28 - i
      omega
  repeat'(first|(apply CW.reg_heldC)|(apply kp;iterate 2 exact rfl)|apply jJ|(apply jE;exact rfl)|(apply jp;exact rfl)|(apply jc;kernel_rfl)|((first|apply kf|apply kn|apply ke|apply kx|apply kc|apply kb);iterate 2 exact rfl)|((first|apply kz|apply ky);(·exact rfl);(·repeat(first|exact iO|exact iR rfl|apply iT));iterate 2 exact rfl)|(apply kg;iterate 2 exact rfl)|(apply kG;iterate 3 exact rfl)|(apply kB;(iterate 2 exact rfl);intro _)|(apply kA;exact rfl;intro _)|(apply kK;(iterate 4 exact rfl);intro _)|(apply kU;(iterate 2 exact rfl);(·repeat(first|exact sH _ _ _|apply sT));(first|exact nfL_eq rfl|exact rfl);exact rfl)|((first|apply kh|apply kl);(iterate 2 exact rfl);(first|decide|omega);exact rfl)|((first|(apply kR;iterate 2 exact rfl)|(apply kQ;exact rfl));all_goals(intro hc;try simp only[hcs]at hc;try(exfalso;first|contradiction|omega))))
  apply DW.quiet [0, 2, 3, 5, 6, 8, 9, 10, 11, 13, 14, 15, 17, 18, 19, 21, 22, 23, 25, 26, 27, 29, 31, 32]
  · decide +kernel
  · exact fun _ h => h
  repeat'(first|(apply yp;iterate 3 exact rfl)|(apply QL.ev;(·exact rfl);(·first|((first|apply Ez|apply Ey);(·exact rfl);(·repeat(first|exact iO|exact iR rfl|apply iT));exact rfl)|((first|apply Ev.fieldAddr|apply Ev.len|apply EqOf.eq|apply EqOf.ne|apply Ev.conv|apply Ev.buildN);exact rfl)|((first|apply Ev.shr|apply Ev.shl);(iterate 2 exact rfl);first|decide|omega));·exact rfl)|(apply yq;iterate 5 exact rfl)|(apply QL.evg;(iterate 3 exact rfl);(·first|((first|apply Ez|apply Ey);(·exact rfl);(·repeat(first|exact iO|exact iR rfl|apply iT));exact rfl)|((first|apply Ev.fieldAddr|apply Ev.len|apply EqOf.eq|apply EqOf.ne|apply Ev.conv|apply Ev.buildN);exact rfl)|((first|apply Ev.shr|apply Ev.shl);(iterate 2 exact rfl);first|decide|omega));·exact rfl)|(apply yn;iterate 4 exact rfl)|((apply QL.split;iterate 3 exact rfl);all_goals(intro hc;try simp only[hcs]at hc;try(exfalso;first|contradiction|omega)))|apply QL.nil)
  all_goals (show DW _ _ _ _ _ _ _ _)
  apply DP.begin []
  refine DP.more (PI.lr 1 69 [(68, .agg ([Value.int .i64 0, .int .i64 3, .int .i64 2, .int .i64 6]).toArray)] (fun b => .slice (some ⟨b, 0, none⟩) 1 1) (fun b => [.own b (.cells ([Value.int .i64 0, .int .i64 3, .int .i64 2, .int .i64 6]).toArray 57 (0, 0))]) rfl (fun b x hx => by simp only [List.mem_singleton] at hx; subst hx; rfl) ?_) ?_
  · intro h w2
    apply kK
    · exact rfl
    · exact rfl
    · exact rfl
    · exact rfl
    intro b
    apply kM
    exact At.made rfl
  refine DP.more (PI.lr 4 72 [(70, .agg ([Value.int .i64 2, .int .i64 1, .int .i64 4, .int .i64 16]).toArray), (71, .agg ([Value.int .i64 0, .int .i64 3, .int .i64 2, .int .i64 6]).toArray)] (fun b => .slice (some ⟨b, 0, none⟩) 2 2) (fun b => [.own b (.cells ([Value.int .i64 2, .int .i64 1, .int .i64 4, .int .i64 16, .int .i64 0, .int .i64 3, .int .i64 2, .int .i64 6]).toArray 57 (0, 0))]) rfl (fun b x hx => by simp only [List.mem_singleton] at hx; subst hx; rfl) ?_) ?_
  · intro h w2
    apply kK
    · exact rfl
    · exact rfl
    · exact rfl
    · exact rfl
    intro b
    apply kM
    exact At.made rfl
  refine DP.more (PI.lr 7 75 [(73, .agg ([Value.int .i64 0, .int .i64 3, .int .i64 2, .int .i64 6]).toArray), (74, .agg ([Value.int .i64 0, .int .i64 3, .int .i64 2, .int .i64 6]).toArray)] (fun b => .slice (some ⟨b, 0, none⟩) 2 2) (fun b => [.own b (.cells ([Value.int .i64 0, .int .i64 3, .int .i64 2, .int .i64 6, .int .i64 0, .int .i64 3, .int .i64 2, .int .i64 6]).toArray 57 (0, 0))]) rfl (fun b x hx => by simp only [List.mem_singleton] at hx; subst hx; rfl) ?_) ?_
  · intro h w2
    apply kK
    · exact rfl
    · exact rfl
    · exact rfl
    · exact rfl
    intro b
    apply kM
    exact At.made rfl
  refine DP.more (PI.lr 12 80 [(76, .agg ([Value.int .i64 0, .int .i64 3, .int .i64 2, .int .i64 6]).toArray), (79, .agg ([Value.int .i64 4, .int .i64 3, .int .i64 2, .int .i64 2]).toArray)] (fun b => .slice (some ⟨b, 0, none⟩) 2 2) (fun b => [.own b (.cells ([Value.int .i64 0, .int .i64 3, .int .i64 2, .int .i64 6, .int .i64 4, .int .i64 3, .int .i64 2, .int .i64 2]).toArray 57 (0, 0))]) rfl (fun b x hx => by simp only [List.mem_singleton] at hx; subst hx; rfl) ?_) ?_
  · intro h w2
    apply kK
    · exact rfl
    · exact rfl
    · exact rfl
    · exact rfl
    intro b
    apply kM
    exact At.made rfl
  refine DP.more (PI.lr 16 84 [(83, .agg ([Value.int .i64 (-1), .int .i64 3, .int .i64 2, .int .i64 2]).toArray)] (fun b => .slice (some ⟨b, 0, none⟩) 1 1) (fun b => [.own b (.cells ([Value.int .i64 (-1), .int .i64 3, .int .i64 2, .int .i64 2]).toArray 57 (0, 0))]) rfl (fun b x hx => by simp only [List.mem_singleton] at hx; subst hx; rfl) ?_) ?_
  · intro h w2
    apply kK
    · exact rfl
    · exact rfl
    · exact rfl
    · exact rfl
    intro b
    apply kM
    exact At.made rfl
  refine DP.more (PI.lr 20 88 [(87, .agg ([Value.int .i64 0, .int .i64 3, .int .i64 2, .int .i64 0]).toArray)] (fun b => .slice (some ⟨b, 0, none⟩) 1 1) (fun b => [.own b (.cells ([Value.int .i64 0, .int .i64 3, .int .i64 2, .int .i64 0]).toArray 57 (0, 0))]) rfl (fun b x hx => by simp only [List.mem_singleton] at hx; subst hx; rfl) ?_) ?_
  · intro h w2
    apply kK
    · exact rfl
    · exact rfl
    · exact rfl
    · exact rfl
    intro b
    apply kM
    exact At.made rfl
  refine DP.more (PI.lr 24 92 [(91, .agg ([Value.int .i64 0, .int .i64 3, .int .i64 2, .int .i64 1]).toArray)] (fun b => .slice (some ⟨b, 0, none⟩) 1 1) (fun b => [.own b (.cells ([Value.int .i64 0, .int .i64 3, .int .i64 2, .int .i64 1]).toArray 57 (0, 0))]) rfl (fun b x hx => by simp only [List.mem_singleton] at hx; subst hx; rfl) ?_) ?_
  · intro h w2
    apply kK
    · exact rfl
    · exact rfl
    · exact rfl
    · exact rfl
    intro b
    apply kM
    exact At.made rfl
  refine DP.more (PI.lr 28 96 [(95, .agg ([Value.int .i64 0, .int .i64 3, .int .i64 2, .int .i64 512]).toArray)] (fun b => .slice (some ⟨b, 0, none⟩) 1 1) (fun b => [.own b (.cells ([Value.int .i64 0, .int .i64 3, .int .i64 2, .int .i64 512]).toArray 57 (0, 0))]) rfl (fun b x hx => by simp only [List.mem_singleton] at hx; subst hx; rfl) ?_) ?_
  · intro h w2
    apply kK
    · exact rfl
    · exact rfl
    · exact rfl
    · exact rfl
    intro b
    apply kM
    exact At.made rfl
  refine DP.more (PI.lr 30 98 [(97, .agg ([Value.int .i64 0, .int .i64 0, .int .i64 0, .int .i64 2]).toArray)] (fun b => .slice (some ⟨b, 0, none⟩) 1 1) (fun b => [.own b (.cells ([Value.int .i64 0, .int .i64 0, .int .i64 0, .int .i64 2]).toArray 57 (0, 0))]) rfl (fun b x hx => by simp only [List.mem_singleton] at hx; subst hx; rfl) ?_) ?_
  · intro h w2
    apply kK
    · exact rfl
    · exact rfl
    · exact rfl
    · exact rfl
    intro b
    apply kM
    exact At.made rfl
  refine DP.more (PI.lr 33 101 [(100, .agg ([Value.int .i64 0, .int .i64 1, .int .i64 9, .int .i64 2]).toArray)] (fun b => .slice (some ⟨b, 0, none⟩) 1 1) (fun b => [.own b (.cells ([Value.int .i64 0, .int .i64 1, .int .i64 9, .int .i64 2]).toArray 57 (0, 0))]) rfl (fun b x hx => by simp only [List.mem_singleton] at hx; subst hx; rfl) ?_) ?_
  · intro h w2
    apply kK
    · exact rfl
    · exact rfl
    · exact rfl
    · exact rfl
    intro b
    apply kM
    exact At.made rfl
  refine DP.more (PI.lr 34 102 [] (fun b => .slice (some ⟨b, 0, none⟩) 5 5) (fun b => [.own b (.cells ((List.replicate 5 [Value.int .i64 0, .int .i64 0, .int .i64 0, .int .i64 0]).flatten).toArray 57 (0, 0))]) rfl (fun b x hx => by simp only [List.mem_singleton] at hx; subst hx; rfl) ?_) ?_
  · intro h w2
    apply LR.makeSlice (m := 5) (cs := [.int .i64 0, .int .i64 0, .int .i64 0, .int .i64 0])
    · exact rfl
    · exact rfl
    · omega
    · omega
    · exact rfl
    · exact rfl
    intro b
    apply kM
    exact At.made rfl
  refine DP.take 34 102 (fun b => .slice (some ⟨b, 0, none⟩) 5 5) (fun b => [.own b (.cells ((List.replicate 5 [Value.int .i64 0, .int .i64 0, .int .i64 0, .int .i64 0]).flatten).toArray 57 (0, 0))]) [33, 30, 28, 24, 20, 16, 12, 7, 4, 1] [102, 101, 98, 96, 92, 88, 84, 80, 75, 72, 69] [[], [100], [97], [95], [91], [87], [83], [76, 79], [73, 74], [70, 71], [68]] rfl rfl rfl rfl rfl rfl rfl (by decide +kernel) ⟨trivial, fun _ _ _ => trivial, ⟨⟨rfl, trivial⟩, fun _ _ _ => trivial, ⟨⟨rfl, trivial⟩, fun _ _ _ => trivial, ⟨⟨rfl, trivial⟩, fun _ _ _ => trivial, ⟨⟨rfl, trivial⟩, fun _ _ _ => trivial, ⟨⟨rfl, trivial⟩, fun _ _ _ => trivial, ⟨⟨rfl, trivial⟩, fun _ _ _ => trivial, ⟨⟨rfl, rfl, trivial⟩, fun _ _ _ => trivial, ⟨⟨rfl, rfl, trivial⟩, fun _ _ _ => trivial, ⟨⟨rfl, rfl, trivial⟩, fun _ _ _ => trivial, ⟨⟨rfl, trivial⟩, fun _ _ _ => trivial, trivial⟩⟩⟩⟩⟩⟩⟩⟩⟩⟩⟩ (fun A w' hA => St.sub hA (by simp only [List.cons_append, List.nil_append]; repeat (first | exact List.nil_sublist _ | exact List.Sublist.refl _ | apply List.Sublist.cons_cons | apply List.Sublist.cons))) (fun b102 => ?_)
  refine DP.take 33 101 (fun b => .slice (some ⟨b, 0, none⟩) 1 1) (fun b => [.own b (.cells ([Value.int .i64 0, .int .i64 1, .int .i64 9, .int .i64 2]).toArray 57 (0, 0))]) [30, 28, 24, 20, 16, 12, 7, 4, 1] [101, 98, 96, 92, 88, 84, 80, 75, 72, 69] [[100], [97], [95], [91], [87], [83], [76, 79], [73, 74], [70, 71], [68]] rfl rfl rfl rfl rfl rfl rfl (by decide +kernel) ⟨⟨rfl, trivial⟩, fun _ _ _ => trivial, ⟨⟨rfl, trivial⟩, fun _ _ _ => trivial, ⟨⟨rfl, trivial⟩, fun _ _ _ => trivial, ⟨⟨rfl, trivial⟩, fun _ _ _ => trivial, ⟨⟨rfl, trivial⟩, fun _ _ _ => trivial, ⟨⟨rfl, trivial⟩, fun _ _ _ => trivial, ⟨⟨rfl, rfl, trivial⟩, fun _ _ _ => trivial, ⟨⟨rfl, rfl, trivial⟩, fun _ _ _ => trivial, ⟨⟨rfl, rfl, trivial⟩, fun _ _ _ => trivial, ⟨⟨rfl, trivial⟩, fun _ _ _ => trivial, trivial⟩⟩⟩⟩⟩⟩⟩⟩⟩⟩ (fun A w' hA => St.sub hA (by simp only [List.cons_append, List.nil_append]; repeat (first | exact List.nil_sublist _ | exact List.Sublist.refl _ | apply List.Sublist.cons_cons | apply List.Sublist.cons))) (fun b101 => ?_)
  refine DP.take 30 98 (fun b => .slice (some ⟨b, 0, none⟩) 1 1) (fun b => [.own b (.cells ([Value.int .i64 0, .int .i64 0, .int .i64 0, .int .i64 2]).toArray 57 (0, 0))]) [28, 24, 20, 16, 12, 7, 4, 1] [98, 96, 92, 88, 84, 80, 75, 72, 69] [[97], [95], [91], [87], [83], [76, 79], [73, 74], [70, 71], [68]] rfl rfl rfl rfl rfl rfl rfl (by decide +kernel) ⟨⟨rfl, trivial⟩, fun _ _ _ => trivial, ⟨⟨rfl, trivial⟩, fun _ _ _ => trivial, ⟨⟨rfl, trivial⟩, fun _ _ _ => trivial, ⟨⟨rfl, trivial⟩, fun _ _ _ => trivial, ⟨⟨rfl, trivial⟩, fun _ _ _ => trivial, ⟨⟨rfl, rfl, trivial⟩, fun _ _ _ => trivial, ⟨⟨rfl, rfl, trivial⟩, fun _ _ _ => trivial, ⟨⟨rfl, rfl, trivial⟩, fun _ _ _ => trivial, ⟨⟨rfl, trivial⟩, fun _ _ _ => trivial, trivial⟩⟩⟩⟩⟩⟩⟩⟩⟩ (fun A w' hA => St.sub hA (by simp only [List.cons_append, List.nil_append]; repeat (first | exact List.nil_sublist _ | exact List.Sublist.refl _ | apply List.Sublist.cons_cons | apply List.Sublist.cons))) (fun b98 => ?_)
  refine DP.take 28 96 (fun b => .slice (some ⟨b, 0, none⟩) 1 1) (fun b => [.own b (.cells ([Value.int .i64 0, .int .i64 3, .int .i64 2, .int .i64 512]).toArray 57 (0, 0))]) [24, 20, 16, 12, 7, 4, 1] [96, 92, 88, 84, 80, 75, 72, 69] [[95], [91], [87], [83], [76, 79], [73, 74], [70, 71], [68]] rfl rfl rfl rfl rfl rfl rfl (by decide +kernel) ⟨⟨rfl, trivial⟩, fun _ _ _ => trivial, ⟨⟨rfl, trivial⟩, fun _ _ _ => trivial, ⟨⟨rfl, trivial⟩, fun _ _ _ => trivial, ⟨⟨rfl, trivial⟩, fun _ _ _ => trivial, ⟨⟨rfl, rfl, trivial⟩, fun _ _ _ => trivial, ⟨⟨rfl, rfl, trivial⟩, fun _ _ _ => trivial, ⟨⟨rfl, rfl, trivial⟩, fun _ _ _ => trivial, ⟨⟨rfl, trivial⟩, fun _ _ _ => trivial, trivial⟩⟩⟩⟩⟩⟩⟩⟩ (fun A w' hA => St.sub hA (by simp only [List.cons_append, List.nil_append]; repeat (first | exact List.nil_sublist _ | exact List.Sublist.refl _ | apply List.Sublist.cons_cons | apply List.Sublist.cons))) (fun b96 => ?_)
  refine DP.take 24 92 (fun b => .slice (some ⟨b, 0, none⟩) 1 1) (fun b => [.own b (.cells ([Value.int .i64 0, .int .i64 3, .int .i64 2, .int .i64 1]).toArray 57 (0, 0))]) [20, 16, 12, 7, 4, 1] [92, 88, 84, 80, 75, 72, 69] [[91], [87], [83], [76, 79], [73, 74], [70, 71], [68]] rfl rfl rfl rfl rfl rfl rfl (by decide +kernel) ⟨⟨rfl, trivial⟩, fun _ _ _ => trivial, ⟨⟨rfl, trivial⟩, fun _ _ _ => trivial, ⟨⟨rfl, trivial⟩, fun _ _ _ => trivial, ⟨⟨rfl, rfl, trivial⟩, fun _ _ _ => trivial, ⟨⟨rfl, rfl, trivial⟩, fun _ _ _ => trivial, ⟨⟨rfl, rfl, trivial⟩, fun _ _ _ => trivial, ⟨⟨rfl, trivial⟩, fun _ _ _ => trivial, trivial⟩⟩⟩⟩⟩⟩⟩ (fun A w' hA => St.sub hA (by simp only [List.cons_append, List.nil_append]; repeat (first | exact List.nil_sublist _ | exact List.Sublist.refl _ | apply List.Sublist.cons_cons | apply List.Sublist.cons))) (fun b92 => ?_)
  refine DP.take 20 88 (fun b => .slice (some ⟨b, 0, none⟩) 1 1) (fun b => [.own b (.cells ([Value.int .i64 0, .int .i64 3, .int .i64 2, .int .i64 0]).toArray 57 (0, 0))]) [16, 12, 7, 4, 1] [88, 84, 80, 75, 72, 69] [[87], [83], [76, 79], [73, 74], [70, 71], [68]] rfl rfl rfl rfl rfl rfl rfl (by decide +kernel) ⟨⟨rfl, trivial⟩, fun _ _ _ => trivial, ⟨⟨rfl, trivial⟩, fun _ _ _ => trivial, ⟨⟨rfl, rfl, trivial⟩, fun _ _ _ => trivial, ⟨⟨rfl, rfl, trivial⟩, fun _ _ _ => trivial, ⟨⟨rfl, rfl, trivial⟩, fun _ _ _ => trivial, ⟨⟨rfl, trivial⟩, fun _ _ _ => trivial, trivial⟩⟩⟩⟩⟩⟩ (fun A w' hA => St.sub hA (by simp only [List.cons_append, List.nil_append]; repeat (first | exact List.nil_sublist _ | exact List.Sublist.refl _ | apply List.Sublist.cons_cons | apply List.Sublist.cons))) (fun b88 => ?_)
  refine DP.take 16 84 (fun b => .slice (some ⟨b, 0, none⟩) 1 1) (fun b => [.own b (.cells ([Value.int .i64 (-1), .int .i64 3, .int .i64 2, .int .i64 2]).toArray 57 (0, 0))]) [12, 7, 4, 1] [84, 80, 75, 72, 69] [[83], [76, 79], [73, 74], [70, 71], [68]] rfl rfl rfl rfl rfl rfl rfl (by decide +kernel) ⟨⟨rfl, trivial⟩, fun _ _ _ => trivial, ⟨⟨rfl, rfl, trivial⟩, fun _ _ _ => trivial, ⟨⟨rfl, rfl, trivial⟩, fun _ _ _ => trivial, ⟨⟨rfl, rfl, trivial⟩, fun _ _ _ => trivial, ⟨⟨rfl, trivial⟩, fun _ _ _ => trivial, trivial⟩⟩⟩⟩⟩ (fun A w' hA => St.sub hA (by simp only [List.cons_append, List.nil_append]; repeat (first | exact List.nil_sublist _ | exact List.Sublist.refl _ | apply List.Sublist.cons_cons | apply List.Sublist.cons))) (fun b84 => ?_)
  refine DP.take 12 80 (fun b => .slice (some ⟨b, 0, none⟩) 2 2) (fun b => [.own b (.cells ([Value.int .i64 0, .int .i64 3, .int .i64 2, .int .i64 6, .int .i64 4, .int .i64 3, .int .i64 2, .int .i64 2]).toArray 57 (0, 0))]) [7, 4, 1] [80, 75, 72, 69] [[76, 79], [73, 74], [70, 71], [68]] rfl rfl rfl rfl rfl rfl rfl (by decide +kernel) ⟨⟨rfl, rfl, trivial⟩, fun _ _ _ => trivial, ⟨⟨rfl, rfl, trivial⟩, fun _ _ _ => trivial, ⟨⟨rfl, rfl, trivial⟩, fun _ _ _ => trivial, ⟨⟨rfl, trivial⟩, fun _ _ _ => trivial, trivial⟩⟩⟩⟩ (fun A w' hA => St.sub hA (by simp only [List.cons_append, List.nil_append]; repeat (first | exact List.nil_sublist _ | exact List.Sublist.refl _ | apply List.Sublist.cons_cons | apply List.Sublist.cons))) (fun b80 => ?_)
  refine DP.take 7 75 (fun b => .slice (some ⟨b, 0, none⟩) 2 2) (fun b => [.own b (.cells ([Value.int .i64 0, .int .i64 3, .int .i64 2, .int .i64 6, .int .i64 0, .int .i64 3, .int .i64 2, .int .i64 6]).toArray 57 (0, 0))]) [4, 1] [75, 72, 69] [[73, 74], [70, 71], [68]] rfl rfl rfl rfl rfl rfl rfl (by decide +kernel) ⟨⟨rfl, rfl, trivial⟩, fun _ _ _ => trivial, ⟨⟨rfl, rfl, trivial⟩, fun _ _ _ => trivial, ⟨⟨rfl, trivial⟩, fun _ _ _ => trivial, trivial⟩⟩⟩ (fun A w' hA => St.sub hA (by simp only [List.cons_append, List.nil_append]; repeat (first | exact List.nil_sublist _ | exact List.Sublist.refl _ | apply List.Sublist.cons_cons | apply List.Sublist.cons))) (fun b75 => ?_)
  refine DP.take 4 72 (fun b => .slice (some ⟨b, 0, none⟩) 2 2) (fun b => [.own b (.cells ([Value.int .i64 2, .int .i64 1, .int .i64 4, .int .i64 16, .int .i64 0, .int .i64 3, .int .i64 2, .int .i64 6]).toArray 57 (0, 0))]) [1] [72, 69] [[70, 71], [68]] rfl rfl rfl rfl rfl rfl rfl (by decide +kernel) ⟨⟨rfl, rfl, trivial⟩, fun _ _ _ => trivial, ⟨⟨rfl, trivial⟩, fun _ _ _ => trivial, trivial⟩⟩ (fun A w' hA => St.sub hA (by simp only [List.cons_append, List.nil_append]; repeat (first | exact List.nil_sublist _ | exact List.Sublist.refl _ | apply List.Sublist.cons_cons | apply List.Sublist.cons))) (fun b72 => ?_)
  refine DP.take 1 69 (fun b => .slice (some ⟨b, 0, none⟩) 1 1) (fun b => [.own b (.cells ([Value.int .i64 0, .int .i64 3, .int .i64 2, .int .i64 6]).toArray 57 (0, 0))]) [] [69] [[68]] rfl rfl rfl rfl rfl rfl rfl (by decide +kernel) ⟨⟨rfl, trivial⟩, fun _ _ _ => trivial, trivial⟩ (fun A w' hA => St.sub hA (by simp only [List.cons_append, List.nil_append]; repeat (first | exact List.nil_sublist _ | exact List.Sublist.refl _ | apply List.Sublist.cons_cons | apply List.Sublist.cons))) (fun b69 => ?_)
  refine DP.nil ?_
  refine DW.castL (by simp only [List.cons_append, List.nil_append]; exact rfl) ?_
  apply DW.loud 35
  · exact rfl
  · decide +kernel
  repeat'(first|(apply kg;iterate 2 exact rfl)|(apply kG;iterate 3 exact rfl)|apply kM|(apply kp;iterate 2 exact rfl)|((first|apply kz|apply ky);(·exact rfl);(·repeat(first|exact iO|exact iR rfl|apply iT));iterate 2 exact rfl)|(apply kK;(iterate 4 exact rfl);intro _)|(apply kU;(iterate 2 exact rfl);(·repeat(first|exact sH _ _ _|apply sT));(first|exact nfL_eq rfl|exact rfl);exact rfl)|(apply kB;(iterate 2 exact rfl);intro _)|(apply kA;exact rfl;intro _))
  refine At.stage_same (fun _ h => St.sub h (by repeat (first | exact List.Sublist.refl _ | apply List.Sublist.cons_cons | apply List.Sublist.cons))) ?_
  apply DW.quiet [36]
  · decide +kernel
  · exact fun _ h => St.sub h (by repeat (first | exact List.Sublist.refl _ | apply List.Sublist.cons_cons | apply List.Sublist.cons))
  repeat'(first|(apply yp;iterate 3 exact rfl)|(apply QL.ev;(·exact rfl);(·first|((first|apply Ez|apply Ey);(·exact rfl);(·repeat(first|exact iO|exact iR rfl|apply iT));exact rfl)|((first|apply Ev.fieldAddr|apply Ev.len|apply EqOf.eq|apply EqOf.ne|apply Ev.conv|apply Ev.buildN);exact rfl)|((first|apply Ev.shr|apply Ev.shl);(iterate 2 exact rfl);first|decide|omega));·exact rfl)|(apply yq;iterate 5 exact rfl)|(apply QL.evg;(iterate 3 exact rfl);(·first|((first|apply Ez|apply Ey);(·exact rfl);(·repeat(first|exact iO|exact iR rfl|apply iT));exact rfl)|((first|apply Ev.fieldAddr|apply Ev.len|apply EqOf.eq|apply EqOf.ne|apply Ev.conv|apply Ev.buildN);exact rfl)|((first|apply Ev.shr|apply Ev.shl);(iterate 2 exact rfl);first|decide|omega));·exact rfl)|(apply yn;iterate 4 exact rfl)|((apply QL.split;iterate 3 exact rfl);all_goals(intro hc;try simp only[hcs]at hc;try(exfalso;first|contradiction|omega)))|apply QL.nil)
  all_goals (show DW _ _ _ _ _ _ _ _)
  first | (apply DW.done_thn; (· decide +kernel)) | (apply DW.done; (· decide +kernel))
  repeat'(first|(apply kp;iterate 2 exact rfl)|apply jJ|(apply jE;exact rfl)|(apply jp;exact rfl)|(apply jc;kernel_rfl)|((first|apply kf|apply kn|apply ke|apply kx|apply kc|apply kb);iterate 2 exact rfl)|((first|apply kz|apply ky);(·exact rfl);(·repeat(first|exact iO|exact iR rfl|apply iT));iterate 2 exact rfl)|(apply kg;iterate 2 exact rfl)|(apply kG;iterate 3 exact rfl)|(apply kB;(iterate 2 exact rfl);intro _)|(apply kA;exact rfl;intro _)|(apply kK;(iterate 4 exact rfl);intro _)|(apply kU;(iterate 2 exact rfl);(·repeat(first|exact sH _ _ _|apply sT));(first|exact nfL_eq rfl|exact rfl);exact rfl)|((first|apply kh|apply kl);(iterate 2 exact rfl);(first|decide|omega);exact rfl)|((first|(apply kR;iterate 2 exact rfl)|(apply kQ;exact rfl));all_goals(intro hc;try simp only[hcs]at hc;try(exfalso;first|contradiction|omega))))
  obtain ⟨ls, hls⟩ : ∃ ls : List (Option Addr × List Plc), ls = [(none, []), (some ⟨b69, 0, none⟩, [pA]), (some ⟨b72, 0, none⟩, [qA, pA]), (some ⟨b75, 0, none⟩, [pA, pA]), (some ⟨b80, 0, none⟩, [pA, ⟨4, 3, 2, 2⟩]), (some ⟨b84, 0, none⟩, [⟨-1, 3, 2, 2⟩]), (some ⟨b88, 0, none⟩, [⟨0, 3, 2, 0⟩]), (some ⟨b92, 0, none⟩, [⟨0, 3, 2, 1⟩]), (some ⟨b96, 0, none⟩, [⟨0, 3, 2, 512⟩]), (some ⟨b98, 0, none⟩, [⟨0, 0, 0, 2⟩]), (some ⟨b101, 0, none⟩, [⟨0, 1, 9, 2⟩]), (some ⟨b102, 0, none⟩, List.replicate 5 ⟨0, 0, 0, 0⟩)] := ⟨_, rfl⟩
  refine CW.sub (D := St w NoF (.own _ (.cells (ls.map plV).toArray 41 (0, 0)) :: [.own b69 (.cells ([Value.int .i64 0, .int .i64 3, .int .i64 2, .int .i64 6]).toArray 57 (0, 0)), .own b72 (.cells ([Value.int .i64 2, .int .i64 1, .int .i64 4, .int .i64 16, .int .i64 0, .int .i64 3, .int .i64 2, .int .i64 6]).toArray 57 (0, 0)), .own b75 (.cells ([Value.int .i64 0, .int .i64 3, .int .i64 2, .int .i64 6, .int .i64 0, .int .i64 3, .int .i64 2, .int .i64 6]).toArray 57 (0, 0)), .own b80 (.cells ([Value.int .i64 0, .int .i64 3, .int .i64 2, .int .i64 6, .int .i64 4, .int .i64 3, .int .i64 2, .int .i64 2]).toArray 57 (0, 0)), .own b84 (.cells ([Value.int .i64 (-1), .int .i64 3, .int .i64 2, .int .i64 2]).toArray 57 (0, 0)), .own b88 (.cells ([Value.int .i64 0, .int .i64 3, .int .i64 2, .int .i64 0]).toArray 57 (0, 0)), .own b92 (.cells ([Value.int .i64 0, .int .i64 3, .int .i64 2, .int .i64 1]).toArray 57 (0, 0)), .own b96 (.cells ([Value.int .i64 0, .int .i64 3, .int .i64 2, .int .i64 512]).toArray 57 (0, 0)), .own b98 (.cells ([Value.int .i64 0, .int .i64 0, .int .i64 0, .int .i64 2]).toArray 57 (0, 0)), .own b101 (.cells ([Value.int .i64 0, .int .i64 1, .int .i64 9, .int .i64 2]).toArray 57 (0, 0)), .own b102 (.cells ((List.replicate 5 [Value.int .i64 0, .int .i64 0, .int .i64 0, .int .i64 0]).flatten).toArray 57 (0, 0)), osl (.slice a3 9 k3) 5 1 9 (bv bA), .own bp (.cells ([Value.int .i64 2, .int .i64 1, .int .i64 4, .int .i64 16]).toArray 57 (0, 0)), .own b1 (.cells ([Value.int .i64 0, .int .i64 3, .int .i64 2, .int .i64 6]).toArray 57 (0, 0))])) ?_ (fun w' hw' => by subst hls; exact hw')
  have hall : ∀ w' x0, St w NoF (x0 :: [.own b69 (.cells ([Value.int .i64 0, .int .i64 3, .int .i64 2, .int .i64 6]).toArray 57 (0, 0)), .own b72 (.cells ([Value.int .i64 2, .int .i64 1, .int .i64 4, .int .i64 16, .int .i64 0, .int .i64 3, .int .i64 2, .int .i64 6]).toArray 57 (0, 0)), .own b75 (.cells ([Value.int .i64 0, .int .i64 3, .int .i64 2, .int .i64 6, .int .i64 0, .int .i64 3, .int .i64 2, .int .i64 6]).toArray 57 (0, 0)), .own b80 (.cells ([Value.int .i64 0, .int .i64 3, .int .i64 2, .int .i64 6, .int .i64 4, .int .i64 3, .int .i64 2, .int .i64 2]).toArray 57 (0, 0)), .own b84 (.cells ([Value.int .i64 (-1), .int .i64 3, .int .i64 2, .int .i64 2]).toArray 57 (0, 0)), .own b88 (.cells ([Value.int .i64 0, .int .i64 3, .int .i64 2, .int .i64 0]).toArray 57 (0, 0)), .own b92 (.cells ([Value.int .i64 0, .int .i64 3, .int .i64 2, .int .i64 1]).toArray 57 (0, 0)), .own b96 (.cells ([Value.int .i64 0, .int .i64 3, .int .i64 2, .int .i64 512]).toArray 57 (0, 0)), .own b98 (.cells ([Value.int .i64 0, .int .i64 0, .int .i64 0, .int .i64 2]).toArray 57 (0, 0)), .own b101 (.cells ([Value.int .i64 0, .int .i64 1, .int .i64 9, .int .i64 2]).toArray 57 (0, 0)), .own b102 (.cells ((List.replicate 5 [Value.int .i64 0, .int .i64 0, .int .i64 0, .int .i64 0]).flatten).toArray 57 (0, 0)), osl (.slice a3 9 k3) 5 1 9 (bv bA), .own bp (.cells ([Value.int .i64 2, .int .i64 1, .int .i64 4, .int .i64 16]).toArray 57 (0, 0)), .own b1 (.cells ([Value.int .i64 0, .int .i64 3, .int .i64 2, .int .i64 6]).toArray 57 (0, 0))]) w' → ∀ x ∈ ls, Rd w' x.1 (pcs x.2) := by
    intro w' x0 h x hx
    subst hls
    simp only [List.mem_cons, List.not_mem_nil, or_false] at hx
    rcases hx with rfl | rfl | rfl | rfl | rfl | rfl | rfl | rfl | rfl | rfl | rfl | rfl <;> first | exact Rd.nil _ _ | exact h.rd_of_blk (by (repeat (first | exact mH _ _ | apply mT)))
  have hlen : ls.length = 12 := by subst hls; rfl
  have hsm : ∀ x ∈ ls, x.2.length ≤ 5 ∧ (x.1 = none → x.2.length = 0) ∧ plcsI x.2 := by
    intro x hx
    subst hls
    simp only [List.mem_cons, List.not_mem_nil, or_false] at hx
    rcases hx with rfl | rfl | rfl | rfl | rfl | rfl | rfl | rfl | rfl | rfl | rfl | rfl <;> refine ⟨by simp, by simp, ?_⟩ <;> (intro p hp; simp at hp <;> first | (subst hp; simp [pA, qA, i64]; done) | (rcases hp with rfl | rfl <;> (simp [pA, qA, i64]; done)) | (obtain ⟨_, rfl⟩ := hp; simp [i64]; done))
  clear hls
  apply CW.loop [0, 8, 104, 105, 106, 107, 108, 109, 110, 111, 112, 113, 114, 115] (fun i : Nat => i ≤ 12) (fun i => [(8, Value.int .i64 (i : Int))]) (fun _ => St w NoF (.own _ (.cells (ls.map plV).toArray 41 (0, 0)) :: [.own b69 (.cells ([Value.int .i64 0, .int .i64 3, .int .i64 2, .int .i64 6]).toArray 57 (0, 0)), .own b72 (.cells ([Value.int .i64 2, .int .i64 1, .int .i64 4, .int .i64 16, .int .i64 0, .int .i64 3, .int .i64 2, .int .i64 6]).toArray 57 (0, 0)), .own b75 (.cells ([Value.int .i64 0, .int .i64 3, .int .i64 2, .int .i64 6, .int .i64 0, .int .i64 3, .int .i64 2, .int .i64 6]).toArray 57 (0, 0)), .own b80 (.cells ([Value.int .i64 0, .int .i64 3, .int .i64 2, .int .i64 6, .int .i64 4, .int .i64 3, .int .i64 2, .int .i64 2]).toArray 57 (0, 0)), .own b84 (.cells ([Value.int .i64 (-1), .int .i64 3, .int .i64 2, .int .i64 2]).toArray 57 (0, 0)), .own b88 (.cells ([Value.int .i64 0, .int .i64 3, .int .i64 2, .int .i64 0]).toArray 57 (0, 0)), .own b92 (.cells ([Value.int .i64 0, .int .i64 3, .int .i64 2, .int .i64 1]).toArray 57 (0, 0)), .own b96 (.cells ([Value.int .i64 0, .int .i64 3, .int .i64 2, .int .i64 512]).toArray 57 (0, 0)), .own b98 (.cells ([Value.int .i64 0, .int .i64 0, .int .i64 0, .int .i64 2]).toArray 57 (0, 0)), .own b101 (.cells ([Value.int .i64 0, .int .i64 1, .int .i64 9, .int .i64 2]).toArray 57 (0, 0)), .own b102 (.cells ((List.replicate 5 [Value.int .i64 0, .int .i64 0, .int .i64 0, .int .i64 0]).flatten).toArray 57 (0, 0)), osl (.slice a3 9 k3) 5 1 9 (bv bA), .own bp (.cells ([Value.int .i64 2, .int .i64 1, .int .i64 4, .int .i64 16]).toArray 57 (0, 0)), .own b1 (.cells ([Value.int .i64 0, .int .i64 3, .int .i64 2, .int .i64 6]).toArray 57 (0, 0))])) (fun i => 12 - i)
  · exact fun w' hw' => ⟨0, by simp, ⟨rfl, trivial⟩, hw'⟩
  intro i g hi
  by_cases hlt : i < 12
  · have hx := hsm ls[i] (List.getElem_mem _)
    repeat'(first|(apply kp;iterate 2 exact rfl)|apply jJ|(apply jE;exact rfl)|(apply jp;exact rfl)|(apply jc;kernel_rfl)|((first|apply kf|apply kn|apply ke|apply kx|apply kc|apply kb);iterate 2 exact rfl)|((first|apply kz|apply ky);(·exact rfl);(·repeat(first|exact iO|exact iR rfl|apply iT));iterate 2 exact rfl)|(apply kg;iterate 2 exact rfl)|(apply kG;iterate 3 exact rfl)|(apply kB;(iterate 2 exact rfl);intro _)|(apply kA;exact rfl;intro _)|(apply kK;(iterate 4 exact rfl);intro _)|(apply kU;(iterate 2 exact rfl);(·repeat(first|exact sH _ _ _|apply sT));(first|exact nfL_eq rfl|exact rfl);exact rfl)|((first|apply kh|apply kl);(iterate 2 exact rfl);(first|decide|omega);exact rfl)|(apply idxX;(iterate 2 exact rfl);(iterate 2(first|omega|(dsimp only;omega)));exact rfl)|(apply LR.ev; (· apply Ev.load; (· exact rfl); (· intro w' hw'; rw [show ((i : Int)).toNat * 1 = i by omega, Nat.zero_add]; exact cell_at hw' (by rw [List.getElem?_map, List.getElem?_eq_getElem (by omega)]; rfl))); (· exact rfl))|((first|(apply kR;iterate 2 exact rfl)|(apply kQ;exact rfl));all_goals(intro hc;try simp only[hcs]at hc;try(exfalso;first|contradiction|omega))))
    have e0 : ∀ w1 : World, Rd w1 ls[i].1 (pcs ls[i].2) → CallsTo Try.prog 5 [plV ls[i]] w1 fun v w' => v = .bool true ∧ Grew w1 w' := fun w1 h => c5 ls[i].1 ls[i].2.length ls[i].2 w1 h hx.2.1 (by omega) hx.2.2
    repeat'(first|(apply kp;iterate 2 exact rfl)|apply jJ|(apply jE;exact rfl)|(apply jp;exact rfl)|(apply jc;kernel_rfl)|((first|apply kf|apply kn|apply ke|apply kx|apply kc|apply kb);iterate 2 exact rfl)|((first|apply kz|apply ky);(·exact rfl);(·repeat(first|exact iO|exact iR rfl|apply iT));iterate 2 exact rfl)|(apply kg;iterate 2 exact rfl)|(apply kG;iterate 3 exact rfl)|(apply kB;(iterate 2 exact rfl);intro _)|(apply kA;exact rfl;intro _)|(apply kK;(iterate 4 exact rfl);intro _)|(apply kU;(iterate 2 exact rfl);(·repeat(first|exact sH _ _ _|apply sT));(first|exact nfL_eq rfl|exact rfl);exact rfl)|((first|apply kh|apply kl);(iterate 2 exact rfl);(first|decide|omega);exact rfl)|(apply kq; (· exact rfl); (· intro w1 h1; exact CallsTo.q (e0 w1 (hall w1 _ h1 _ (List.getElem_mem _))) h1))|(apply addX;(iterate 2 exact rfl);(iterate 2(first|omega|(dsimp only;omega)));exact rfl)|((first|(apply kR;iterate 2 exact rfl)|(apply kQ;exact rfl));all_goals(intro hc;try simp only[hcs]at hc;try(exfalso;first|contradiction|omega))))
    apply At.again (i + 1)
    · show i + 1 ≤ 12
      omega
    · (repeat (first | exact Out.refl _ _ | exact Out.mix | (apply Out.upd; (· exact rfl)) | (apply Out.updL; (· exact rfl)) | (apply Out.mixs; (· exact rfl))))
    · exact ⟨rfl, trivial⟩
    · exact fun w' hw' => hw'
    · show 12 - (i + 1) < 12 - i
      omega
  refine CW.sub (D := St w NoF [osl (.slice a3 9 k3) 5 1 9 (bv bA), .own bp (.cells ([Value.int .i64 2, .int .i64 1, .int .i64 4, .int .i64 16]).toArray 57 (0, 0)), .own b1 (.cells ([Value.int .i64 0, .int .i64 3, .int .i64 2, .int .i64 6]).toArray 57 (0, 0))]) ?_ (fun w' hw' => hw'.sub (by repeat (first | exact List.Sublist.refl _ | exact List.nil_sublist _ | apply List.Sublist.cons_cons | apply List.Sublist.cons)))
  repeat'(first|(apply kp;iterate 2 exact rfl)|apply jJ|(apply jE;exact rfl)|(apply jp;exact rfl)|(apply jc;kernel_rfl)|((first|apply kf|apply kn|apply ke|apply kx|apply kc|apply kb);iterate 2 exact rfl)|((first|apply kz|apply ky);(·exact rfl);(·repeat(first|exact iO|exact iR rfl|apply iT));iterate 2 exact rfl)|(apply kg;iterate 2 exact rfl)|(apply kG;iterate 3 exact rfl)|(apply kB;(iterate 2 exact rfl);intro _)|(apply kA;exact rfl;intro _)|(apply kK;(iterate 4 exact rfl);intro _)|(apply kU;(iterate 2 exact rfl);(·repeat(first|exact sH _ _ _|apply sT));(first|exact nfL_eq rfl|exact rfl);exact rfl)|((first|apply kh|apply kl);(iterate 2 exact rfl);(first|decide|omega);exact rfl)|(apply kq; (· exact rfl); (· intro w1 h1; exact CallsTo.q (c36 w1) h1))|((first|(apply kR;iterate 2 exact rfl)|(apply kQ;exact rfl));all_goals(intro hc;try simp only[hcs]at hc;try(exfalso;first|contradiction|omega))))
  apply LR.call
  · exact rfl
  intro w1 h1
  refine CallsTo.mono (show CallsTo Try.prog 15 _ w1 _ from c15 mK none 0 w1 (Rd.nil _ _) (fun _ => rfl) (by decide) (by intro b hb; cases hb)) ?_
  rintro v w2 ⟨a9, k9, rfl, hn1⟩
  rw [pack_K] at hn1 ⊢
  have hk9 : cB.length ≤ k9 := ownsRow_cap (h1.newSl hn1).g0
  have hk3 : bA.length ≤ k3 := ownsRow_cap (h1.holds (osl (.slice a3 9 k3) 5 1 9 (bv bA)) (by (repeat (first | exact mH _ _ | apply mT))))
  refine LR.back (h1.newSl hn1) ?_
  clear hn1 h1
  repeat'(first|(apply kp;iterate 2 exact rfl)|apply jJ|(apply jE;exact rfl)|(apply jp;exact rfl)|(apply jc;kernel_rfl)|((first|apply kf|apply kn|apply ke|apply kx|apply kc|apply kb);iterate 2 exact rfl)|((first|apply kz|apply ky);(·exact rfl);(·repeat(first|exact iO|exact iR rfl|apply iT));iterate 2 exact rfl)|(apply kg;iterate 2 exact rfl)|(apply kG;iterate 3 exact rfl)|(apply kB;(iterate 2 exact rfl);intro _)|(apply kA;exact rfl;intro _)|(apply kK;(iterate 4 exact rfl);intro _)|(apply kU;(iterate 2 exact rfl);(·repeat(first|exact sH _ _ _|apply sT));(first|exact nfL_eq rfl|exact rfl);exact rfl)|((first|apply kh|apply kl);(iterate 2 exact rfl);(first|decide|omega);exact rfl)|((first|(apply kR;iterate 2 exact rfl)|(apply kQ;exact rfl));all_goals(intro hc;try simp only[hcs]at hc;try(exfalso;first|contradiction|omega))))
  apply LR.call
  · exact rfl
  intro w1 h1
  refine CallsTo.mono (show CallsTo Try.prog 22 _ w1 _ from c22 a9 k9 cB w1 (h1.rd_of_own (by (repeat (first | exact mH _ _ | apply mT)))) (fun e => (ownsRow_some h1.g0 e).2) (by decide)) ?_
  rintro v w2 ⟨a11, k11, rfl, hn1⟩
  refine LR.back (h1.newSl hn1) ?_
  clear hn1 h1
  repeat'(first|(apply kp;iterate 2 exact rfl)|apply jJ|(apply jE;exact rfl)|(apply jp;exact rfl)|(apply jc;kernel_rfl)|((first|apply kf|apply kn|apply ke|apply kx|apply kc|apply kb);iterate 2 exact rfl)|((first|apply kz|apply ky);(·exact rfl);(·repeat(first|exact iO|exact iR rfl|apply iT));iterate 2 exact rfl)|(apply kg;iterate 2 exact rfl)|(apply kG;iterate 3 exact rfl)|(apply kB;(iterate 2 exact rfl);intro _)|(apply kA;exact rfl;intro _)|(apply kK;(iterate 4 exact rfl);intro _)|(apply kU;(iterate 2 exact rfl);(·repeat(first|exact sH _ _ _|apply sT));(first|exact nfL_eq rfl|exact rfl);exact rfl)|((first|apply kh|apply kl);(iterate 2 exact rfl);(first|decide|omega);exact rfl)|((first|(apply kR;iterate 2 exact rfl)|(apply kQ;exact rfl));all_goals(intro hc;try simp only[hcs]at hc;try(exfalso;first|contradiction|omega))))
  apply LR.append (xs := bv cB) (news := [.int .u8 0]) (m := 1)
  · exact rfl
  · exact rfl
  · intro a' c'; (repeat (first | exact sH _ _ _ | apply sT))
  · intro w' hw'; exact hw'.rd_of_blk (mH _ _)
  · intro hx; cases hx
  · exact rfl
  · exact rfl
  · decide
  · decide
  · exact rfl
  intro a12 k12
  refine LR.sub (D := St w NoF (osl (.slice a12 14 k12) 5 1 14 (bv dB) :: osl (.slice a9 13 k9) 5 1 13 (bv cB) :: [osl (.slice a3 9 k3) 5 1 9 (bv bA), .own bp (.cells ([Value.int .i64 2, .int .i64 1, .int .i64 4, .int .i64 16]).toArray 57 (0, 0)), .own b1 (.cells ([Value.int .i64 0, .int .i64 3, .int .i64 2, .int .i64 6]).toArray 57 (0, 0))])) (fun w' hw' => ?_) ?_
  · have h2 := hw'.tail1
    exact h2.sub (by repeat (first | exact List.Sublist.refl _ | exact List.nil_sublist _ | apply List.Sublist.cons_cons | apply List.Sublist.cons))
  repeat'(first|(apply CW.reg_heldC)|(apply kp;iterate 2 exact rfl)|apply jJ|(apply jE;exact rfl)|(apply jp;exact rfl)|(apply jc;kernel_rfl)|((first|apply kf|apply kn|apply ke|apply kx|apply kc|apply kb);iterate 2 exact rfl)|((first|apply kz|apply ky);(·exact rfl);(·repeat(first|exact iO|exact iR rfl|apply iT));iterate 2 exact rfl)|(apply kg;iterate 2 exact rfl)|(apply kG;iterate 3 exact rfl)|(apply kB;(iterate 2 exact rfl);intro _)|(apply kA;exact rfl;intro _)|(apply kK;(iterate 4 exact rfl);intro _)|(apply kU;(iterate 2 exact rfl);(·repeat(first|exact sH _ _ _|apply sT));(first|exact nfL_eq rfl|exact rfl);exact rfl)|((first|apply kh|apply kl);(iterate 2 exact rfl);(first|decide|omega);exact rfl)|((first|(apply kR;iterate 2 exact rfl)|(apply kQ;exact rfl));all_goals(intro hc;try simp only[hcs]at hc;try(exfalso;first|contradiction|omega))))
  apply DW.quiet [0, 1, 2, 3, 7, 8, 9]
  · decide +kernel
  · exact fun _ h => h
  repeat'(first|(apply yp;iterate 3 exact rfl)|(apply QL.ev;(·exact rfl);(·first|((first|apply Ez|apply Ey);(·exact rfl);(·repeat(first|exact iO|exact iR rfl|apply iT));exact rfl)|((first|apply Ev.fieldAddr|apply Ev.len|apply EqOf.eq|apply EqOf.ne|apply Ev.conv|apply Ev.buildN);exact rfl)|((first|apply Ev.shr|apply Ev.shl);(iterate 2 exact rfl);first|decide|omega));·exact rfl)|(apply QL.ev; (· exact rfl); (· first | (apply hiQ (j := 12); (· exact rfl); (· exact rfl); (· exact Nat.le_trans (by decide) hk9)) | (apply hiQ (j := 8); (· exact rfl); (· exact rfl); (· exact Nat.le_trans (by decide) hk3))); (· exact rfl))|(apply yq;iterate 5 exact rfl)|(apply QL.evg;(iterate 3 exact rfl);(·first|((first|apply Ez|apply Ey);(·exact rfl);(·repeat(first|exact iO|exact iR rfl|apply iT));exact rfl)|((first|apply Ev.fieldAddr|apply Ev.len|apply EqOf.eq|apply EqOf.ne|apply Ev.conv|apply Ev.buildN);exact rfl)|((first|apply Ev.shr|apply Ev.shl);(iterate 2 exact rfl);first|decide|omega));·exact rfl)|(apply yn;iterate 4 exact rfl)|((apply QL.split;iterate 3 exact rfl);all_goals(intro hc;try simp only[hcs]at hc;try(exfalso;first|contradiction|omega)))|apply QL.nil)
  all_goals (show DW _ _ _ _ _ _ _ _)
  apply DP.begin []
  refine DP.more (PI.lr 4 129 [] (fun b => .slice (some ⟨b, 0, none⟩) 1 1) (fun b => [.own b (.cells ([Value.int .u8 5]).toArray 5 (0, 0))]) rfl (fun b x hx => by simp only [List.mem_singleton] at hx; subst hx; rfl) ?_) ?_
  · intro h w2
    apply kK
    · exact rfl
    · exact rfl
    · exact rfl
    · exact rfl
    intro b
    apply kM
    exact At.made rfl
  refine DP.more (PI.lr 5 130 [] (fun b => .slice (some ⟨b, 0, none⟩) 1 1) (fun b => [.own b (.cells ([Value.int .u8 0]).toArray 5 (0, 0))]) rfl (fun b x hx => by simp only [List.mem_singleton] at hx; subst hx; rfl) ?_) ?_
  · intro h w2
    apply kK
    · exact rfl
    · exact rfl
    · exact rfl
    · exact rfl
    intro b
    apply kM
    exact At.made rfl
  refine DP.more (PI.lr 6 131 [] (fun b => .slice (some ⟨b, 0, none⟩) 2 2) (fun b => [.own b (.cells ([Value.int .u8 4, .int .u8 0]).toArray 5 (0, 0))]) rfl (fun b x hx => by simp only [List.mem_singleton] at hx; subst hx; rfl) ?_) ?_
  · intro h w2
    apply kK
    · exact rfl
    · exact rfl
    · exact rfl
    · exact rfl
    intro b
    apply kM
    exact At.made rfl
  refine DP.more (PI.lr 10 135 [] (fun b => .slice (some ⟨b, 0, none⟩) 6 6) (fun b => [.own b (.cells ([Value.int .u8 1, .int .u8 0, .int .u8 131, .int .u8 0, .int .u8 2, .int .u8 6]).toArray 5 (0, 0))]) rfl (fun b x hx => by simp only [List.mem_singleton] at hx; subst hx; rfl) ?_) ?_
  · intro h w2
    apply kK
    · exact rfl
    · exact rfl
    · exact rfl
    · exact rfl
    intro b
    apply kM
    exact At.made rfl
  refine DP.more (PI.lr 11 136 [] (fun b => .slice (some ⟨b, 0, none⟩) 13 13) (fun b => [.own b (.cells ([Value.int .u8 2, .int .u8 3, .int .u8 0, .int .u8 0, .int .u8 0, .int .u8 0, .int .u8 0, .int .u8 2, .int .u8 5, .int .u8 2, .int .u8 1, .int .u8 7, .int .u8 0]).toArray 5 (0, 0))]) rfl (fun b x hx => by simp only [List.mem_singleton] at hx; subst hx; rfl) ?_) ?_
  · intro h w2
    apply kK
    · exact rfl
    · exact rfl
    · exact rfl
    · exact rfl
    intro b
    apply kM
    exact At.made rfl
  refine DP.more (PI.lr 12 137 [] (fun b => .slice (some ⟨b, 0, none⟩) 14 14) (fun b => [.own b (.cells ([Value.int .u8 2, .int .u8 3, .int .u8 0, .int .u8 0, .int .u8 0, .int .u8 0, .int .u8 0, .int .u8 0, .int .u8 5, .int .u8 2, .int .u8 1, .int .u8 7, .int .u8 161, .int .u8 1]).toArray 5 (0, 0))]) rfl (fun b x hx => by simp only [List.mem_singleton] at hx; subst hx; rfl) ?_) ?_
  · intro h w2
    apply kK
    · exact rfl
    · exact rfl
    · exact rfl
    · exact rfl
    intro b
    apply kM
    exact At.made rfl
  refine DP.take 12 137 (fun b => .slice (some ⟨b, 0, none⟩) 14 14) (fun b => [.own b (.cells ([Value.int .u8 2, .int .u8 3, .int .u8 0, .int .u8 0, .int .u8 0, .int .u8 0, .int .u8 0, .int .u8 0, .int .u8 5, .int .u8 2, .int .u8 1, .int .u8 7, .int .u8 161, .int .u8 1]).toArray 5 (0, 0))]) [11, 10, 6, 5, 4] [137, 136, 135, 131, 130, 129] [[], [], [], [], [], []] rfl rfl rfl rfl rfl rfl rfl (by decide +kernel) ⟨trivial, fun _ _ _ => trivial, ⟨trivial, fun _ _ _ => trivial, ⟨trivial, fun _ _ _ => trivial, ⟨trivial, fun _ _ _ => trivial, ⟨trivial, fun _ _ _ => trivial, ⟨trivial, fun _ _ _ => trivial, trivial⟩⟩⟩⟩⟩⟩ (fun A w' hA => St.sub hA (by simp only [List.cons_append, List.nil_append]; repeat (first | exact List.nil_sublist _ | exact List.Sublist.refl _ | apply List.Sublist.cons_cons | apply List.Sublist.cons))) (fun b137 => ?_)
  refine DP.take 11 136 (fun b => .slice (some ⟨b, 0, none⟩) 13 13) (fun b => [.own b (.cells ([Value.int .u8 2, .int .u8 3, .int .u8 0, .int .u8 0, .int .u8 0, .int .u8 0, .int .u8 0, .int .u8 2, .int .u8 5, .int .u8 2, .int .u8 1, .int .u8 7, .int .u8 0]).toArray 5 (0, 0))]) [10, 6, 5, 4] [136, 135, 131, 130, 129] [[], [], [], [], []] rfl rfl rfl rfl rfl rfl rfl (by decide +kernel) ⟨trivial, fun _ _ _ => trivial, ⟨trivial, fun _ _ _ => trivial, ⟨trivial, fun _ _ _ => trivial, ⟨trivial, fun _ _ _ => trivial, ⟨trivial, fun _ _ _ => trivial, trivial⟩⟩⟩⟩⟩ (fun A w' hA => St.sub hA (by simp only [List.cons_append, List.nil_append]; repeat (first | exact List.nil_sublist _ | exact List.Sublist.refl _ | apply List.Sublist.cons_cons | apply List.Sublist.cons))) (fun b136 => ?_)
  refine DP.take 10 135 (fun b => .slice (some ⟨b, 0, none⟩) 6 6) (fun b => [.own b (.cells ([Value.int .u8 1, .int .u8 0, .int .u8 131, .int .u8 0, .int .u8 2, .int .u8 6]).toArray 5 (0, 0))]) [6, 5, 4] [135, 131, 130, 129] [[], [], [], []] rfl rfl rfl rfl rfl rfl rfl (by decide +kernel) ⟨trivial, fun _ _ _ => trivial, ⟨trivial, fun _ _ _ => trivial, ⟨trivial, fun _ _ _ => trivial, ⟨trivial, fun _ _ _ => trivial, trivial⟩⟩⟩⟩ (fun A w' hA => St.sub hA (by simp only [List.cons_append, List.nil_append]; repeat (first | exact List.nil_sublist _ | exact List.Sublist.refl _ | apply List.Sublist.cons_cons | apply List.Sublist.cons))) (fun b135 => ?_)
  refine DP.take 6 131 (fun b => .slice (some ⟨b, 0, none⟩) 2 2) (fun b => [.own b (.cells ([Value.int .u8 4, .int .u8 0]).toArray 5 (0, 0))]) [5, 4] [131, 130, 129] [[], [], []] rfl rfl rfl rfl rfl rfl rfl (by decide +kernel) ⟨trivial, fun _ _ _ => trivial, ⟨trivial, fun _ _ _ => trivial, ⟨trivial, fun _ _ _ => trivial, trivial⟩⟩⟩ (fun A w' hA => St.sub hA (by simp only [List.cons_append, List.nil_append]; repeat (first | exact List.nil_sublist _ | exact List.Sublist.refl _ | apply List.Sublist.cons_cons | apply List.Sublist.cons))) (fun b131 => ?_)
  refine DP.take 5 130 (fun b => .slice (some ⟨b, 0, none⟩) 1 1) (fun b => [.own b (.cells ([Value.int .u8 0]).toArray 5 (0, 0))]) [4] [130, 129] [[], []] rfl rfl rfl rfl rfl rfl rfl (by decide +kernel) ⟨trivial, fun _ _ _ => trivial, ⟨trivial, fun _ _ _ => trivial, trivial⟩⟩ (fun A w' hA => St.sub hA (by simp only [List.cons_append, List.nil_append]; repeat (first | exact List.nil_sublist _ | exact List.Sublist.refl _ | apply List.Sublist.cons_cons | apply List.Sublist.cons))) (fun b130 => ?_)
  refine DP.take 4 129 (fun b => .slice (some ⟨b, 0, none⟩) 1 1) (fun b => [.own b (.cells ([Value.int .u8 5]).toArray 5 (0, 0))]) [] [129] [[]] rfl rfl rfl rfl rfl rfl rfl (by decide +kernel) ⟨trivial, fun _ _ _ => trivial, trivial⟩ (fun A w' hA => St.sub hA (by simp only [List.cons_append, List.nil_append]; repeat (first | exact List.nil_sublist _ | exact List.Sublist.refl _ | apply List.Sublist.cons_cons | apply List.Sublist.cons))) (fun b129 => ?_)
  refine DP.nil ?_
  refine DW.castL (by simp only [List.cons_append, List.nil_append]; exact rfl) ?_
  apply DW.loud 13
  · exact rfl
  · decide +kernel
  repeat'(first|(apply kg;iterate 2 exact rfl)|(apply kG;iterate 3 exact rfl)|apply kM|(apply kp;iterate 2 exact rfl)|((first|apply kz|apply ky);(·exact rfl);(·repeat(first|exact iO|exact iR rfl|apply iT));iterate 2 exact rfl)|(apply kK;(iterate 4 exact rfl);intro _)|(apply kU;(iterate 2 exact rfl);(·repeat(first|exact sH _ _ _|apply sT));(first|exact nfL_eq rfl|exact rfl);exact rfl)|(apply kB;(iterate 2 exact rfl);intro _)|(apply kA;exact rfl;intro _))
  refine At.stage_same (fun _ h => St.sub h (by repeat (first | exact List.Sublist.refl _ | apply List.Sublist.cons_cons | apply List.Sublist.cons))) ?_
  apply DW.quiet [14]
  · decide +kernel
  · exact fun _ h => St.sub h (by repeat (first | exact List.Sublist.refl _ | apply List.Sublist.cons_cons | apply List.Sublist.cons))
  repeat'(first|(apply yp;iterate 3 exact rfl)|(apply QL.ev;(·exact rfl);(·first|((first|apply Ez|apply Ey);(·exact rfl);(·repeat(first|exact iO|exact iR rfl|apply iT));exact rfl)|((first|apply Ev.fieldAddr|apply Ev.len|apply EqOf.eq|apply EqOf.ne|apply Ev.conv|apply Ev.buildN);exact rfl)|((first|apply Ev.shr|apply Ev.shl);(iterate 2 exact rfl);first|decide|omega));·exact rfl)|(apply yq;iterate 5 exact rfl)|(apply QL.evg;(iterate 3 exact rfl);(·first|((first|apply Ez|apply Ey);(·exact rfl);(·repeat(first|exact iO|exact iR rfl|apply iT));exact rfl)|((first|apply Ev.fieldAddr|apply Ev.len|apply EqOf.eq|apply EqOf.ne|apply Ev.conv|apply Ev.buildN);exact rfl)|((first|apply Ev.shr|apply Ev.shl);(iterate 2 exact rfl);first|decide|omega));·exact rfl)|(apply yn;iterate 4 exact rfl)|((apply QL.split;iterate 3 exact rfl);all_goals(intro hc;try simp only[hcs]at hc;try(exfalso;first|contradiction|omega)))|apply QL.nil)
  all_goals (show DW _ _ _ _ _ _ _ _)
  first | (apply DW.done_thn; (· decide +kernel)) | (apply DW.done; (· decide +kernel))
  repeat'(first|(apply kp;iterate 2 exact rfl)|apply jJ|(apply jE;exact rfl)|(apply jp;exact rfl)|(apply jc;kernel_rfl)|((first|apply kf|apply kn|apply ke|apply kx|apply kc|apply kb);iterate 2 exact rfl)|((first|apply kz|apply ky);(·exact rfl);(·repeat(first|exact iO|exact iR rfl|apply iT));iterate 2 exact rfl)|(apply kg;iterate 2 exact rfl)|(apply kG;iterate 3 exact rfl)|(apply kB;(iterate 2 exact rfl);intro _)|(apply kA;exact rfl;intro _)|(apply kK;(iterate 4 exact rfl);intro _)|(apply kU;(iterate 2 exact rfl);(·repeat(first|exact sH _ _ _|apply sT));(first|exact nfL_eq rfl|exact rfl);exact rfl)|((first|apply kh|apply kl);(iterate 2 exact rfl);(first|decide|omega);exact rfl)|((first|(apply kR;iterate 2 exact rfl)|(apply kQ;exact rfl));all_goals(intro hc;try simp only[hcs]at hc;try(exfalso;first|contradiction|omega))))
  clear hall hsm hlen
  obtain ⟨ls2, hls⟩ : ∃ l : List (Option Addr × Nat × List Int), l = [(none, 0, []), (subA a9 k9 0 1, k9, cB.take 12), (a9, k9, cB), (a12, k12, dB), (some ⟨b129, 0, none⟩, 1, [5]), (some ⟨b130, 0, none⟩, 1, [0]), (some ⟨b131, 0, none⟩, 2, [4, 0]), (a3, k3, bA), (subA a3 k3 0 1, k3, bA.take 8), (some ⟨b135, 0, none⟩, 6, [1, 0, 131, 0, 2, 6]), (some ⟨b136, 0, none⟩, 13, [2, 3, 0, 0, 0, 0, 0, 2, 5, 2, 1, 7, 0]), (some ⟨b137, 0, none⟩, 14, [2, 3, 0, 0, 0, 0, 0, 0, 5, 2, 1, 7, 161, 1])] := ⟨_, rfl⟩
  refine CW.sub (D := St w NoF (.own _ (.cells (ls2.map byV).toArray 26 (0, 0)) :: [.own b129 (.cells ([Value.int .u8 5]).toArray 5 (0, 0)), .own b130 (.cells ([Value.int .u8 0]).toArray 5 (0, 0)), .own b131 (.cells ([Value.int .u8 4, .int .u8 0]).toArray 5 (0, 0)), .own b135 (.cells ([Value.int .u8 1, .int .u8 0, .int .u8 131, .int .u8 0, .int .u8 2, .int .u8 6]).toArray 5 (0, 0)), .own b136 (.cells ([Value.int .u8 2, .int .u8 3, .int .u8 0, .int .u8 0, .int .u8 0, .int .u8 0, .int .u8 0, .int .u8 2, .int .u8 5, .int .u8 2, .int .u8 1, .int .u8 7, .int .u8 0]).toArray 5 (0, 0)), .own b137 (.cells ([Value.int .u8 2, .int .u8 3, .int .u8 0, .int .u8 0, .int .u8 0, .int .u8 0, .int .u8 0, .int .u8 0, .int .u8 5, .int .u8 2, .int .u8 1, .int .u8 7, .int .u8 161, .int .u8 1]).toArray 5 (0, 0)), osl (.slice a12 14 k12) 5 1 14 (bv dB), osl (.slice a9 13 k9) 5 1 13 (bv cB), osl (.slice a3 9 k3) 5 1 9 (bv bA), .own bp (.cells ([Value.int .i64 2, .int .i64 1, .int .i64 4, .int .i64 16]).toArray 57 (0, 0)), .own b1 (.cells ([Value.int .i64 0, .int .i64 3, .int .i64 2, .int .i64 6]).toArray 57 (0, 0))])) ?_ (fun w' hw' => by subst hls; exact hw')
  have hall : ∀ w' x0, St w NoF (x0 :: [.own b129 (.cells ([Value.int .u8 5]).toArray 5 (0, 0)), .own b130 (.cells ([Value.int .u8 0]).toArray 5 (0, 0)), .own b131 (.cells ([Value.int .u8 4, .int .u8 0]).toArray 5 (0, 0)), .own b135 (.cells ([Value.int .u8 1, .int .u8 0, .int .u8 131, .int .u8 0, .int .u8 2, .int .u8 6]).toArray 5 (0, 0)), .own b136 (.cells ([Value.int .u8 2, .int .u8 3, .int .u8 0, .int .u8 0, .int .u8 0, .int .u8 0, .int .u8 0, .int .u8 2, .int .u8 5, .int .u8 2, .int .u8 1, .int .u8 7, .int .u8 0]).toArray 5 (0, 0)), .own b137 (.cells ([Value.int .u8 2, .int .u8 3, .int .u8 0, .int .u8 0, .int .u8 0, .int .u8 0, .int .u8 0, .int .u8 0, .int .u8 5, .int .u8 2, .int .u8 1, .int .u8 7, .int .u8 161, .int .u8 1]).toArray 5 (0, 0)), osl (.slice a12 14 k12) 5 1 14 (bv dB), osl (.slice a9 13 k9) 5 1 13 (bv cB), osl (.slice a3 9 k3) 5 1 9 (bv bA), .own bp (.cells ([Value.int .i64 2, .int .i64 1, .int .i64 4, .int .i64 16]).toArray 57 (0, 0)), .own b1 (.cells ([Value.int .i64 0, .int .i64 3, .int .i64 2, .int .i64 6]).toArray 57 (0, 0))]) w' → ∀ x ∈ ls2, Rd w' x.1 (bv x.2.2) ∧ (x.1 = none → x.2.1 = 0) := by
    intro w' x0 h x hx
    have o9 := h.holds (osl (.slice a9 13 k9) 5 1 13 (bv cB)) (by (repeat (first | exact mH _ _ | apply mT)))
    have o3 := h.holds (osl (.slice a3 9 k3) 5 1 9 (bv bA)) (by (repeat (first | exact mH _ _ | apply mT)))
    have o12 := h.holds (osl (.slice a12 14 k12) 5 1 14 (bv dB)) (by (repeat (first | exact mH _ _ | apply mT)))
    have z9 : a9 = none → k9 = 0 := fun e => (ownsRow_some o9 e).2
    have z3 : a3 = none → k3 = 0 := fun e => (ownsRow_some o3 e).2
    subst hls
    simp only [List.mem_cons, List.not_mem_nil, or_false] at hx
    rcases hx with rfl | rfl | rfl | rfl | rfl | rfl | rfl | rfl | rfl | rfl | rfl | rfl
    · exact ⟨Rd.nil _ _, fun _ => rfl⟩
    · exact ⟨rd_mid (n := 0) (k := 12) (ownsRow_rd o9) hk9, fun e => by have := subA_none (n := 0) z9 e; simpa using this⟩
    · exact ⟨ownsRow_rd o9, z9⟩
    · exact ⟨ownsRow_rd o12, fun e => (ownsRow_some o12 e).2⟩
    · exact ⟨h.rd_of_blk (by (repeat (first | exact mH _ _ | apply mT))), fun e => by cases e⟩
    · exact ⟨h.rd_of_blk (by (repeat (first | exact mH _ _ | apply mT))), fun e => by cases e⟩
    · exact ⟨h.rd_of_blk (by (repeat (first | exact mH _ _ | apply mT))), fun e => by cases e⟩
    · exact ⟨ownsRow_rd o3, z3⟩
    · exact ⟨rd_mid (n := 0) (k := 8) (ownsRow_rd o3) hk3, fun e => by have := subA_none (n := 0) z3 e; simpa using this⟩
    · exact ⟨h.rd_of_blk (by (repeat (first | exact mH _ _ | apply mT))), fun e => by cases e⟩
    · exact ⟨h.rd_of_blk (by (repeat (first | exact mH _ _ | apply mT))), fun e => by cases e⟩
    · exact ⟨h.rd_of_blk (by (repeat (first | exact mH _ _ | apply mT))), fun e => by cases e⟩
  have hlen : ls2.length = 12 := by subst hls; rfl
  have hsm : ∀ x ∈ ls2, x.2.2.length ≤ 20 ∧ Byt x.2.2 := by
    intro x hx
    subst hls
    simp only [List.mem_cons, List.not_mem_nil, or_false] at hx
    rcases hx with rfl | rfl | rfl | rfl | rfl | rfl | rfl | rfl | rfl | rfl | rfl | rfl <;> refine ⟨by dsimp only; decide, ?_⟩ <;> (unfold Byt; dsimp only; decide)
  clear hls
  apply CW.loop [0, 13, 139, 140, 141, 142, 143, 144, 145, 146, 147, 148, 149, 150, 151, 152, 153, 154, 155, 156, 157, 158] (fun i : Nat => i ≤ 12) (fun i => [(13, Value.int .i64 (i : Int))]) (fun _ => St w NoF (.own _ (.cells (ls2.map byV).toArray 26 (0, 0)) :: [.own b129 (.cells ([Value.int .u8 5]).toArray 5 (0, 0)), .own b130 (.cells ([Value.int .u8 0]).toArray 5 (0, 0)), .own b131 (.cells ([Value.int .u8 4, .int .u8 0]).toArray 5 (0, 0)), .own b135 (.cells ([Value.int .u8 1, .int .u8 0, .int .u8 131, .int .u8 0, .int .u8 2, .int .u8 6]).toArray 5 (0, 0)), .own b136 (.cells ([Value.int .u8 2, .int .u8 3, .int .u8 0, .int .u8 0, .int .u8 0, .int .u8 0, .int .u8 0, .int .u8 2, .int .u8 5, .int .u8 2, .int .u8 1, .int .u8 7, .int .u8 0]).toArray 5 (0, 0)), .own b137 (.cells ([Value.int .u8 2, .int .u8 3, .int .u8 0, .int .u8 0, .int .u8 0, .int .u8 0, .int .u8 0, .int .u8 0, .int .u8 5, .int .u8 2, .int .u8 1, .int .u8 7, .int .u8 161, .int .u8 1]).toArray 5 (0, 0)), osl (.slice a12 14 k12) 5 1 14 (bv dB), osl (.slice a9 13 k9) 5 1 13 (bv cB), osl (.slice a3 9 k3) 5 1 9 (bv bA), .own bp (.cells ([Value.int .i64 2, .int .i64 1, .int .i64 4, .int .i64 16]).toArray 57 (0, 0)), .own b1 (.cells ([Value.int .i64 0, .int .i64 3, .int .i64 2, .int .i64 6]).toArray 57 (0, 0))])) (fun i => 12 - i)
  · exact fun w' hw' => ⟨0, by simp, ⟨rfl, trivial⟩, hw'⟩
  intro i2 g2 hi2
  by_cases hlt2 : i2 < 12
  · have hx := hsm ls2[i2] (List.getElem_mem _)
    have e0 : ∀ w1 : World, (Rd w1 ls2[i2].1 (bv ls2[i2].2.2) ∧ (ls2[i2].1 = none → ls2[i2].2.1 = 0)) → CallsTo Try.prog 4 [byV ls2[i2]] w1 fun v w' => v = .bool true ∧ Grew w1 w' := fun w1 h => c4 ls2[i2].1 ls2[i2].2.1 ls2[i2].2.2 w1 h.1 h.2 (by omega) hx.2
    have e1 : ∀ w1 : World, (Rd w1 ls2[i2].1 (bv ls2[i2].2.2) ∧ (ls2[i2].1 = none → ls2[i2].2.1 = 0)) → CallsTo Try.prog 7 [byV ls2[i2], .int .u8 0] w1 fun v w' => v = .bool true ∧ Grew w1 w' := fun w1 h => c7 ls2[i2].1 ls2[i2].2.1 ls2[i2].2.2 0 w1 h.1 h.2 (by omega) hx.2 (by omega)
    repeat'(first|(apply kp;iterate 2 exact rfl)|apply jJ|(apply jE;exact rfl)|(apply jp;exact rfl)|(apply jc;kernel_rfl)|((first|apply kf|apply kn|apply ke|apply kx|apply kc|apply kb);iterate 2 exact rfl)|((first|apply kz|apply ky);(·exact rfl);(·repeat(first|exact iO|exact iR rfl|apply iT));iterate 2 exact rfl)|(apply kg;iterate 2 exact rfl)|(apply kG;iterate 3 exact rfl)|(apply kB;(iterate 2 exact rfl);intro _)|(apply kA;exact rfl;intro _)|(apply kK;(iterate 4 exact rfl);intro _)|(apply kU;(iterate 2 exact rfl);(·repeat(first|exact sH _ _ _|apply sT));(first|exact nfL_eq rfl|exact rfl);exact rfl)|((first|apply kh|apply kl);(iterate 2 exact rfl);(first|decide|omega);exact rfl)|(apply idxX;(iterate 2 exact rfl);(iterate 2(first|omega|(dsimp only;omega)));exact rfl)|(apply LR.ev; (· apply Ev.load; (· exact rfl); (· intro w' hw'; rw [show ((i2 : Int)).toNat * 1 = i2 by omega, Nat.zero_add]; exact cell_at hw' (by rw [List.getElem?_map, List.getElem?_eq_getElem (by omega)]; rfl))); (· exact rfl))|(apply kq; (· exact rfl); (· intro w1 h1; first | exact CallsTo.q (e0 w1 (hall w1 _ h1 _ (List.getElem_mem _))) h1 | exact CallsTo.q (e1 w1 (hall w1 _ h1 _ (List.getElem_mem _))) h1))|(apply addX;(iterate 2 exact rfl);(iterate 2(first|omega|(dsimp only;omega)));exact rfl)|((first|(apply kR;iterate 2 exact rfl)|(apply kQ;exact rfl));all_goals(intro hc;try simp only[hcs]at hc;try(exfalso;first|contradiction|omega))))
    apply At.again (i2 + 1)
    · show i2 + 1 ≤ 12
      omega
    · (repeat (first | exact Out.refl _ _ | exact Out.mix | (apply Out.upd; (· exact rfl)) | (apply Out.updL; (· exact rfl)) | (apply Out.mixs; (· exact rfl))))
    · exact ⟨rfl, trivial⟩
    · exact fun w' hw' => hw'
    · show 12 - (i2 + 1) < 12 - i2
      omega
  refine CW.sub (D := St w NoF [osl (.slice a3 9 k3) 5 1 9 (bv bA), .own bp (.cells ([Value.int .i64 2, .int .i64 1, .int .i64 4, .int .i64 16]).toArray 57 (0, 0)), .own b1 (.cells ([Value.int .i64 0, .int .i64 3, .int .i64 2, .int .i64 6]).toArray 57 (0, 0))]) ?_ (fun w' hw' => hw'.sub (by repeat (first | exact List.Sublist.refl _ | exact List.nil_sublist _ | apply List.Sublist.cons_cons | apply List.Sublist.cons)))
  clear hall hsm hlen
  repeat'(first|(apply CW.reg_held (St w NoF [osl (.slice a3 9 k3) 5 1 9 (bv bA), .own bp (.cells ([Value.int .i64 2, .int .i64 1, .int .i64 4, .int .i64 16]).toArray 57 (0, 0)), .own b1 (.cells ([Value.int .i64 0, .int .i64 3, .int .i64 2, .int .i64 6]).toArray 57 (0, 0))]))|(apply kp;iterate 2 exact rfl)|apply jJ|(apply jE;exact rfl)|(apply jp;exact rfl)|(apply jc;kernel_rfl)|((first|apply kf|apply kn|apply ke|apply kx|apply kc|apply kb);iterate 2 exact rfl)|((first|apply kz|apply ky);(·exact rfl);(·repeat(first|exact iO|exact iR rfl|apply iT));iterate 2 exact rfl)|(apply kg;iterate 2 exact rfl)|(apply kG;iterate 3 exact rfl)|(apply kB;(iterate 2 exact rfl);intro _)|(apply kA;exact rfl;intro _)|(apply kK;(iterate 4 exact rfl);intro _)|(apply kU;(iterate 2 exact rfl);(·repeat(first|exact sH _ _ _|apply sT));(first|exact nfL_eq rfl|exact rfl);exact rfl)|((first|apply kh|apply kl);(iterate 2 exact rfl);(first|decide|omega);exact rfl)|((first|(apply kR;iterate 2 exact rfl)|(apply kQ;exact rfl));all_goals(intro hc;try simp only[hcs]at hc;try(exfalso;first|contradiction|omega))))
  all_goals (
    apply DW.quiet [0, 1, 2, 3, 4, 5, 8, 9, 12, 13]
    · decide +kernel
    · first | exact fun _ h => h | exact fun _ h => St.sub h (by repeat (first | exact List.Sublist.refl _ | apply List.Sublist.cons_cons | apply List.Sublist.cons))
    repeat'(first|(apply yp;iterate 3 exact rfl)|(apply QL.ev;(·exact rfl);(·first|((first|apply Ez|apply Ey);(·exact rfl);(·repeat(first|exact iO|exact iR rfl|apply iT));exact rfl)|((first|apply Ev.fieldAddr|apply Ev.len|apply EqOf.eq|apply EqOf.ne|apply Ev.conv|apply Ev.buildN);exact rfl)|((first|apply Ev.shr|apply Ev.shl);(iterate 2 exact rfl);first|decide|omega));·exact rfl)|(apply yq;iterate 5 exact rfl)|(apply QL.evg;(iterate 3 exact rfl);(·first|((first|apply Ez|apply Ey);(·exact rfl);(·repeat(first|exact iO|exact iR rfl|apply iT));exact rfl)|((first|apply Ev.fieldAddr|apply Ev.len|apply EqOf.eq|apply EqOf.ne|apply Ev.conv|apply Ev.buildN);exact rfl)|((first|apply Ev.shr|apply Ev.shl);(iterate 2 exact rfl);first|decide|omega));·exact rfl)|(apply yn;iterate 4 exact rfl)|((apply QL.split;iterate 3 exact rfl);all_goals(intro hc;try simp only[hcs]at hc;try(exfalso;first|contradiction|omega)))|apply QL.nil)
    all_goals (show DW _ _ _ _ _ _ _ _))
  all_goals (
    apply DW.loud 6
    · exact rfl
    · decide +kernel
    repeat'(first|(apply kg;iterate 2 exact rfl)|(apply kG;iterate 3 exact rfl)|apply kM|(apply kp;iterate 2 exact rfl)|((first|apply kz|apply ky);(·exact rfl);(·repeat(first|exact iO|exact iR rfl|apply iT));iterate 2 exact rfl)|(apply kK;(iterate 4 exact rfl);intro _)|(apply kU;(iterate 2 exact rfl);(·repeat(first|exact sH _ _ _|apply sT));(first|exact nfL_eq rfl|exact rfl);exact rfl)|(apply kB;(iterate 2 exact rfl);intro _)|(apply kA;exact rfl;intro _)|(apply LR.call; (· exact rfl); (intro w1 h1; refine (c37 w1).mono ?_; rintro v w2 ⟨at6, kt6, rfl, hn⟩; refine LR.back (h1.newSl hn) ?_; clear h1 hn; apply kM)))
    all_goals (refine At.stage_same (fun _ h => St.sub h (by repeat (first | exact List.Sublist.refl _ | apply List.Sublist.cons_cons | apply List.Sublist.cons))) ?_))
  all_goals (
    apply DW.quiet [7]
    · decide +kernel
    · first | exact fun _ h => h | exact fun _ h => St.sub h (by repeat (first | exact List.Sublist.refl _ | apply List.Sublist.cons_cons | apply List.Sublist.cons))
    repeat'(first|(apply yp;iterate 3 exact rfl)|(apply QL.ev;(·exact rfl);(·first|((first|apply Ez|apply Ey);(·exact rfl);(·repeat(first|exact iO|exact iR rfl|apply iT));exact rfl)|((first|apply Ev.fieldAddr|apply Ev.len|apply EqOf.eq|apply EqOf.ne|apply Ev.conv|apply Ev.buildN);exact rfl)|((first|apply Ev.shr|apply Ev.shl);(iterate 2 exact rfl);first|decide|omega));·exact rfl)|(apply yq;iterate 5 exact rfl)|(apply QL.evg;(iterate 3 exact rfl);(·first|((first|apply Ez|apply Ey);(·exact rfl);(·repeat(first|exact iO|exact iR rfl|apply iT));exact rfl)|((first|apply Ev.fieldAddr|apply Ev.len|apply EqOf.eq|apply EqOf.ne|apply Ev.conv|apply Ev.buildN);exact rfl)|((first|apply Ev.shr|apply Ev.shl);(iterate 2 exact rfl);first|decide|omega));·exact rfl)|(apply yn;iterate 4 exact rfl)|((apply QL.split;iterate 3 exact rfl);all_goals(intro hc;try simp only[hcs]at hc;try(exfalso;first|contradiction|omega)))|apply QL.nil)
    all_goals (show DW _ _ _ _ _ _ _ _))
  all_goals (
    apply DW.loud 10
    · exact rfl
    · decide +kernel
    repeat'(first|(apply kg;iterate 2 exact rfl)|(apply kG;iterate 3 exact rfl)|apply kM|(apply kp;iterate 2 exact rfl)|((first|apply kz|apply ky);(·exact rfl);(·repeat(first|exact iO|exact iR rfl|apply iT));iterate 2 exact rfl)|(apply kK;(iterate 4 exact rfl);intro _)|(apply kU;(iterate 2 exact rfl);(·repeat(first|exact sH _ _ _|apply sT));(first|exact nfL_eq rfl|exact rfl);exact rfl)|(apply kB;(iterate 2 exact rfl);intro _)|(apply kA;exact rfl;intro _)|(apply LR.call; (· exact rfl); (intro w1 h1; refine (c37 w1).mono ?_; rintro v w2 ⟨at10, kt10, rfl, hn⟩; refine LR.back (h1.newSl hn) ?_; clear h1 hn; apply kM)))
    all_goals (refine At.stage_same (fun _ h => St.sub h (by repeat (first | exact List.Sublist.refl _ | apply List.Sublist.cons_cons | apply List.Sublist.cons))) ?_))
  all_goals (
    apply DW.quiet [11]
    · decide +kernel
    · first | exact fun _ h => h | exact fun _ h => St.sub h (by repeat (first | exact List.Sublist.refl _ | apply List.Sublist.cons_cons | apply List.Sublist.cons))
    repeat'(first|(apply yp;iterate 3 exact rfl)|(apply QL.ev;(·exact rfl);(·first|((first|apply Ez|apply Ey);(·exact rfl);(·repeat(first|exact iO|exact iR rfl|apply iT));exact rfl)|((first|apply Ev.fieldAddr|apply Ev.len|apply EqOf.eq|apply EqOf.ne|apply Ev.conv|apply Ev.buildN);exact rfl)|((first|apply Ev.shr|apply Ev.shl);(iterate 2 exact rfl);first|decide|omega));·exact rfl)|(apply yq;iterate 5 exact rfl)|(apply QL.evg;(iterate 3 exact rfl);(·first|((first|apply Ez|apply Ey);(·exact rfl);(·repeat(first|exact iO|exact iR rfl|apply iT));exact rfl)|((first|apply Ev.fieldAddr|apply Ev.len|apply EqOf.eq|apply EqOf.ne|apply Ev.conv|apply Ev.buildN);exact rfl)|((first|apply Ev.shr|apply Ev.shl);(iterate 2 exact rfl);first|decide|omega));·exact rfl)|(apply yn;iterate 4 exact rfl)|((apply QL.split;iterate 3 exact rfl);all_goals(intro hc;try simp only[hcs]at hc;try(exfalso;first|contradiction|omega)))|apply QL.nil)
    all_goals (show DW _ _ _ _ _ _ _ _))
  all_goals (
    apply DW.loud 14
    · exact rfl
    · decide +kernel
    repeat'(first|(apply kg;iterate 2 exact rfl)|(apply kG;iterate 3 exact rfl)|apply kM|(apply kp;iterate 2 exact rfl)|((first|apply kz|apply ky);(·exact rfl);(·repeat(first|exact iO|exact iR rfl|apply iT));iterate 2 exact rfl)|(apply kK;(iterate 4 exact rfl);intro _)|(apply kU;(iterate 2 exact rfl);(·repeat(first|exact sH _ _ _|apply sT));(first|exact nfL_eq rfl|exact rfl);exact rfl)|(apply kB;(iterate 2 exact rfl);intro _)|(apply kA;exact rfl;intro _)|(apply LR.call; (· exact rfl); (intro w1 h1; refine (c37 w1).mono ?_; rintro v w2 ⟨at14, kt14, rfl, hn⟩; refine LR.back (h1.newSl hn) ?_; clear h1 hn; apply kM)))
    all_goals (refine At.stage_same (fun _ h => St.sub h (by repeat (first | exact List.Sublist.refl _ | apply List.Sublist.cons_cons | apply List.Sublist.cons))) ?_))
  all_goals (
    apply DW.quiet [15]
    · decide +kernel
    · first | exact fun _ h => h | exact fun _ h => St.sub h (by repeat (first | exact List.Sublist.refl _ | apply List.Sublist.cons_cons | apply List.Sublist.cons))
    repeat'(first|(apply yp;iterate 3 exact rfl)|(apply QL.ev;(·exact rfl);(·first|((first|apply Ez|apply Ey);(·exact rfl);(·repeat(first|exact iO|exact iR rfl|apply iT));exact rfl)|((first|apply Ev.fieldAddr|apply Ev.len|apply EqOf.eq|apply EqOf.ne|apply Ev.conv|apply Ev.buildN);exact rfl)|((first|apply Ev.shr|apply Ev.shl);(iterate 2 exact rfl);first|decide|omega));·exact rfl)|(apply yq;iterate 5 exact rfl)|(apply QL.evg;(iterate 3 exact rfl);(·first|((first|apply Ez|apply Ey);(·exact rfl);(·repeat(first|exact iO|exact iR rfl|apply iT));exact rfl)|((first|apply Ev.fieldAddr|apply Ev.len|apply EqOf.eq|apply EqOf.ne|apply Ev.conv|apply Ev.buildN);exact rfl)|((first|apply Ev.shr|apply Ev.shl);(iterate 2 exact rfl);first|decide|omega));·exact rfl)|(apply yn;iterate 4 exact rfl)|((apply QL.split;iterate 3 exact rfl);all_goals(intro hc;try simp only[hcs]at hc;try(exfalso;first|contradiction|omega)))|apply QL.nil)
    all_goals (show DW _ _ _ _ _ _ _ _))
  all_goals (
    apply DW.loud 16
    · exact rfl
    · decide +kernel
    repeat'(first|(apply kg;iterate 2 exact rfl)|(apply kG;iterate 3 exact rfl)|apply kM|(apply kp;iterate 2 exact rfl)|((first|apply kz|apply ky);(·exact rfl);(·repeat(first|exact iO|exact iR rfl|apply iT));iterate 2 exact rfl)|(apply kK;(iterate 4 exact rfl);intro _)|(apply kU;(iterate 2 exact rfl);(·repeat(first|exact sH _ _ _|apply sT));(first|exact nfL_eq rfl|exact rfl);exact rfl)|(apply kB;(iterate 2 exact rfl);intro _)|(apply kA;exact rfl;intro _)|(apply LR.call; (· exact rfl); (intro w1 h1; refine (c37 w1).mono ?_; rintro v w2 ⟨at16, kt16, rfl, hn⟩; refine LR.back (h1.newSl hn) ?_; clear h1 hn; apply kM)))
    all_goals (refine At.stage_same (fun _ h => St.sub h (by repeat (first | exact List.Sublist.refl _ | apply List.Sublist.cons_cons | apply List.Sublist.cons))) ?_))
  all_goals (
    apply DW.quiet [17]
    · decide +kernel
    · first | exact fun _ h => h | exact fun _ h => St.sub h (by repeat (first | exact List.Sublist.refl _ | apply List.Sublist.cons_cons | apply List.Sublist.cons))
    repeat'(first|(apply yp;iterate 3 exact rfl)|(apply QL.ev;(·exact rfl);(·first|((first|apply Ez|apply Ey);(·exact rfl);(·repeat(first|exact iO|exact iR rfl|apply iT));exact rfl)|((first|apply Ev.fieldAddr|apply Ev.len|apply EqOf.eq|apply EqOf.ne|apply Ev.conv|apply Ev.buildN);exact rfl)|((first|apply Ev.shr|apply Ev.shl);(iterate 2 exact rfl);first|decide|omega));·exact rfl)|(apply yq;iterate 5 exact rfl)|(apply QL.evg;(iterate 3 exact rfl);(·first|((first|apply Ez|apply Ey);(·exact rfl);(·repeat(first|exact iO|exact iR rfl|apply iT));exact rfl)|((first|apply Ev.fieldAddr|apply Ev.len|apply EqOf.eq|apply EqOf.ne|apply Ev.conv|apply Ev.buildN);exact rfl)|((first|apply Ev.shr|apply Ev.shl);(iterate 2 exact rfl);first|decide|omega));·exact rfl)|(apply yn;iterate 4 exact rfl)|((apply QL.split;iterate 3 exact rfl);all_goals(intro hc;try simp only[hcs]at hc;try(exfalso;first|contradiction|omega)))|apply QL.nil)
    all_goals (show DW _ _ _ _ _ _ _ _))
  all_goals (
    apply DW.loud 18
    · exact rfl
    · decide +kernel
    repeat'(first|(apply kg;iterate 2 exact rfl)|(apply kG;iterate 3 exact rfl)|apply kM|(apply kp;iterate 2 exact rfl)|((first|apply kz|apply ky);(·exact rfl);(·repeat(first|exact iO|exact iR rfl|apply iT));iterate 2 exact rfl)|(apply kK;(iterate 4 exact rfl);intro _)|(apply kU;(iterate 2 exact rfl);(·repeat(first|exact sH _ _ _|apply sT));(first|exact nfL_eq rfl|exact rfl);exact rfl)|(apply kB;(iterate 2 exact rfl);intro _)|(apply kA;exact rfl;intro _)|(apply LR.call; (· exact rfl); (intro w1 h1; refine (c37 w1).mono ?_; rintro v w2 ⟨at18, kt18, rfl, hn⟩; refine LR.back (h1.newSl hn) ?_; clear h1 hn; apply kM)))
    all_goals (refine At.stage_same (fun _ h => St.sub h (by repeat (first | exact List.Sublist.refl _ | apply List.Sublist.cons_cons | apply List.Sublist.cons))) ?_))
  all_goals (
    apply DW.quiet [19]
    · decide +kernel
    · first | exact fun _ h => h | exact fun _ h => St.sub h (by repeat (first | exact List.Sublist.refl _ | apply List.Sublist.cons_cons | apply List.Sublist.cons))
    repeat'(first|(apply yp;iterate 3 exact rfl)|(apply QL.ev;(·exact rfl);(·first|((first|apply Ez|apply Ey);(·exact rfl);(·repeat(first|exact iO|exact iR rfl|apply iT));exact rfl)|((first|apply Ev.fieldAddr|apply Ev.len|apply EqOf.eq|apply EqOf.ne|apply Ev.conv|apply Ev.buildN);exact rfl)|((first|apply Ev.shr|apply Ev.shl);(iterate 2 exact rfl);first|decide|omega));·exact rfl)|(apply yq;iterate 5 exact rfl)|(apply QL.evg;(iterate 3 exact rfl);(·first|((first|apply Ez|apply Ey);(·exact rfl);(·repeat(first|exact iO|exact iR rfl|apply iT));exact rfl)|((first|apply Ev.fieldAddr|apply Ev.len|apply EqOf.eq|apply EqOf.ne|apply Ev.conv|apply Ev.buildN);exact rfl)|((first|apply Ev.shr|apply Ev.shl);(iterate 2 exact rfl);first|decide|omega));·exact rfl)|(apply yn;iterate 4 exact rfl)|((apply QL.split;iterate 3 exact rfl);all_goals(intro hc;try simp only[hcs]at hc;try(exfalso;first|contradiction|omega)))|apply QL.nil)
    all_goals (show DW _ _ _ _ _ _ _ _))
  all_goals (first | (apply DW.done_thn; (· decide +kernel)) | (apply DW.done; (· decide +kernel)))
  repeat'(first|(apply kp;iterate 2 exact rfl)|apply jJ|(apply jE;exact rfl)|(apply jp;exact rfl)|(apply jc;kernel_rfl)|((first|apply kf|apply kn|apply ke|apply kx|apply kc|apply kb);iterate 2 exact rfl)|((first|apply kz|apply ky);(·exact rfl);(·repeat(first|exact iO|exact iR rfl|apply iT));iterate 2 exact rfl)|(apply kg;iterate 2 exact rfl)|(apply kG;iterate 3 exact rfl)|(apply kB;(iterate 2 exact rfl);intro _)|(apply kA;exact rfl;intro _)|(apply kK;(iterate 4 exact rfl);intro _)|(apply kU;(iterate 2 exact rfl);(·repeat(first|exact sH _ _ _|apply sT));(first|exact nfL_eq rfl|exact rfl);exact rfl)|((first|apply kh|apply kl);(iterate 2 exact rfl);(first|decide|omega);exact rfl)|((first|(apply kR;iterate 2 exact rfl)|(apply kQ;exact rfl));all_goals(intro hc;try simp only[hcs]at hc;try(exfalso;first|contradiction|omega))))
  obtain ⟨ls3, hls⟩ : ∃ l : List (Dat × Option Addr × Nat), l = [(zeroDat, none, 0), (⟨3, 2, 0, 0, 0, zeroMsg⟩, none, 0), (⟨3, 2, 1, 9, 0, tK⟩, at6, kt6), (⟨3, 2, 9007199254740992, 1, 0, tK⟩, at10, kt10), (⟨3, 2, 1, 1, -1, tK⟩, at14, kt14), (⟨0, 0, 1, 1, 0, tK⟩, at16, kt16)] := ⟨_, rfl⟩
  refine CW.sub (D := St w NoF (.own _ (.cells (ls3.flatMap datR).toArray 50 (0, 0)) :: [osl (.slice at16 1 kt16) 5 1 1 (bv [65]), osl (.slice at14 1 kt14) 5 1 1 (bv [65]), osl (.slice at10 1 kt10) 5 1 1 (bv [65]), osl (.slice at6 1 kt6) 5 1 1 (bv [65]), osl (.slice a3 9 k3) 5 1 9 (bv bA), .own bp (.cells ([Value.int .i64 2, .int .i64 1, .int .i64 4, .int .i64 16]).toArray 57 (0, 0)), .own b1 (.cells ([Value.int .i64 0, .int .i64 3, .int .i64 2, .int .i64 6]).toArray 57 (0, 0))])) ?_ (fun w' hw' => by subst hls; exact hw')
  have hall : ∀ w' x0, St w NoF (x0 :: [osl (.slice at16 1 kt16) 5 1 1 (bv [65]), osl (.slice at14 1 kt14) 5 1 1 (bv [65]), osl (.slice at10 1 kt10) 5 1 1 (bv [65]), osl (.slice at6 1 kt6) 5 1 1 (bv [65]), osl (.slice a3 9 k3) 5 1 9 (bv bA), .own bp (.cells ([Value.int .i64 2, .int .i64 1, .int .i64 4, .int .i64 16]).toArray 57 (0, 0)), .own b1 (.cells ([Value.int .i64 0, .int .i64 3, .int .i64 2, .int .i64 6]).toArray 57 (0, 0))]) w' → ∀ x ∈ ls3, Rd w' x.2.1 (bv x.1.msg.body) ∧ (x.2.1 = none → x.2.2 = 0) := by
    intro w' x0 h x hx
    have oo := fun (a : Option Addr) (k : Nat) (hm : osl (.slice a 1 k) 5 1 1 (bv [65]) ∈ (x0 :: [osl (.slice at16 1 kt16) 5 1 1 (bv [65]), osl (.slice at14 1 kt14) 5 1 1 (bv [65]), osl (.slice at10 1 kt10) 5 1 1 (bv [65]), osl (.slice at6 1 kt6) 5 1 1 (bv [65]), osl (.slice a3 9 k3) 5 1 9 (bv bA), .own bp (.cells ([Value.int .i64 2, .int .i64 1, .int .i64 4, .int .i64 16]).toArray 57 (0, 0)), .own b1 (.cells ([Value.int .i64 0, .int .i64 3, .int .i64 2, .int .i64 6]).toArray 57 (0, 0))])) => h.holds _ hm
    subst hls
    simp only [List.mem_cons, List.not_mem_nil, or_false] at hx
    rcases hx with rfl | rfl | rfl | rfl | rfl | rfl
    · exact ⟨Rd.nil _ _, fun _ => rfl⟩
    · exact ⟨Rd.nil _ _, fun _ => rfl⟩
    · exact ⟨ownsRow_rd (oo at6 kt6 (by (repeat (first | exact mH _ _ | apply mT)))), fun e => (ownsRow_some (oo at6 kt6 (by (repeat (first | exact mH _ _ | apply mT)))) e).2⟩
    · exact ⟨ownsRow_rd (oo at10 kt10 (by (repeat (first | exact mH _ _ | apply mT)))), fun e => (ownsRow_some (oo at10 kt10 (by (repeat (first | exact mH _ _ | apply mT)))) e).2⟩
    · exact ⟨ownsRow_rd (oo at14 kt14 (by (repeat (first | exact mH _ _ | apply mT)))), fun e => (ownsRow_some (oo at14 kt14 (by (repeat (first | exact mH _ _ | apply mT)))) e).2⟩
    · exact ⟨ownsRow_rd (oo at16 kt16 (by (repeat (first | exact mH _ _ | apply mT)))), fun e => (ownsRow_some (oo at16 kt16 (by (repeat (first | exact mH _ _ | apply mT)))) e).2⟩
  have hlen : ls3.length = 6 := by subst hls; rfl
  have hsm : ∀ x ∈ ls3, x.1.msg.body.length ≤ 20 ∧ Byt x.1.msg.body := by
    intro x hx
    subst hls
    simp only [List.mem_cons, List.not_mem_nil, or_false] at hx
    rcases hx with rfl | rfl | rfl | rfl | rfl | rfl <;> refine ⟨by dsimp only; decide, ?_⟩ <;> (unfold Byt; dsimp only; decide)
  clear hls
  apply CW.loop [0, 15, 178, 179, 180, 181, 182, 183, 184, 185, 186, 187, 188, 189, 190] (fun i : Nat => i ≤ 6) (fun i => [(15, Value.int .i64 (i : Int))]) (fun _ => St w NoF (.own _ (.cells (ls3.flatMap datR).toArray 50 (0, 0)) :: [osl (.slice at16 1 kt16) 5 1 1 (bv [65]), osl (.slice at14 1 kt14) 5 1 1 (bv [65]), osl (.slice at10 1 kt10) 5 1 1 (bv [65]), osl (.slice at6 1 kt6) 5 1 1 (bv [65]), osl (.slice a3 9 k3) 5 1 9 (bv bA), .own bp (.cells ([Value.int .i64 2, .int .i64 1, .int .i64 4, .int .i64 16]).toArray 57 (0, 0)), .own b1 (.cells ([Value.int .i64 0, .int .i64 3, .int .i64 2, .int .i64 6]).toArray 57 (0, 0))])) (fun i => 6 - i)
  · exact fun w' hw' => ⟨0, by simp, ⟨rfl, trivial⟩, hw'⟩
  intro i3 g3 hi3
  by_cases hlt3 : i3 < 6
  · have hx := hsm ls3[i3] (List.getElem_mem _)
    have hlt3' : i3 < ls3.length := by omega
    repeat'(first|(apply CW.reg_heldC)|(apply kp;iterate 2 exact rfl)|apply jJ|(apply jE;exact rfl)|(apply jp;exact rfl)|(apply jc;kernel_rfl)|((first|apply kf|apply kn|apply ke|apply kx|apply kc|apply kb);iterate 2 exact rfl)|((first|apply kz|apply ky);(·exact rfl);(·repeat(first|exact iO|exact iR rfl|apply iT));iterate 2 exact rfl)|(apply kg;iterate 2 exact rfl)|(apply kG;iterate 3 exact rfl)|(apply kB;(iterate 2 exact rfl);intro _)|(apply kA;exact rfl;intro _)|(apply kK;(iterate 4 exact rfl);intro _)|(apply kU;(iterate 2 exact rfl);(·repeat(first|exact sH _ _ _|apply sT));(first|exact nfL_eq rfl|exact rfl);exact rfl)|((first|apply kh|apply kl);(iterate 2 exact rfl);(first|decide|omega);exact rfl)|((first|(apply kR;iterate 2 exact rfl)|(apply kQ;exact rfl));all_goals(intro hc;try simp only[hcs]at hc;try(exfalso;first|contradiction|omega))))
    all_goals (
      apply DW.quiet [0, 1, 2, 3]
      · decide +kernel
      · first | exact fun _ h => h | exact fun _ h => St.sub h (by repeat (first | exact List.Sublist.refl _ | apply List.Sublist.cons_cons | apply List.Sublist.cons))
      repeat'(first|(apply yp;iterate 3 exact rfl)|(apply QL.ev;(·exact rfl);(·first|((first|apply Ez|apply Ey);(·exact rfl);(·repeat(first|exact iO|exact iR rfl|apply iT));exact rfl)|((first|apply Ev.fieldAddr|apply Ev.len|apply EqOf.eq|apply EqOf.ne|apply Ev.conv|apply Ev.buildN);exact rfl)|((first|apply Ev.shr|apply Ev.shl);(iterate 2 exact rfl);first|decide|omega));·exact rfl)|(apply QL.ev; (· exact rfl); (· first | (apply Ev.indexAddr; (· exact rfl); (· exact rfl); (· omega); (· omega)) | (apply Ev.load_agg_at (cs := datR ls3[i3]); (· exact rfl); (· exact rfl); (· intro w' hw'; refine rd_row (l := ls3) (i := i3) datR_len (hw'.rd_of_blk (by (repeat (first | exact mH _ _ | apply mT)))) hlt3' ?_; (· simp; done)))); (· exact rfl))|(apply yq;iterate 5 exact rfl)|(apply QL.evg;(iterate 3 exact rfl);(·first|((first|apply Ez|apply Ey);(·exact rfl);(·repeat(first|exact iO|exact iR rfl|apply iT));exact rfl)|((first|apply Ev.fieldAddr|apply Ev.len|apply EqOf.eq|apply EqOf.ne|apply Ev.conv|apply Ev.buildN);exact rfl)|((first|apply Ev.shr|apply Ev.shl);(iterate 2 exact rfl);first|decide|omega));·exact rfl)|(apply yn;iterate 4 exact rfl)|((apply QL.split;iterate 3 exact rfl);all_goals(intro hc;try simp only[hcs]at hc;try(exfalso;first|contradiction|omega)))|apply QL.nil)
      all_goals (show DW _ _ _ _ _ _ _ _))
    all_goals (
      apply DW.loud 4
      · exact rfl
      · decide +kernel
      repeat'(first|(apply kg;iterate 2 exact rfl)|(apply kG;iterate 3 exact rfl)|apply kM|(apply kp;iterate 2 exact rfl)|((first|apply kz|apply ky);(·exact rfl);(·repeat(first|exact iO|exact iR rfl|apply iT));iterate 2 exact rfl)|(apply kK;(iterate 4 exact rfl);intro _)|(apply kU;(iterate 2 exact rfl);(·repeat(first|exact sH _ _ _|apply sT));(first|exact nfL_eq rfl|exact rfl);exact rfl)|(apply kB;(iterate 2 exact rfl);intro _)|(apply kA;exact rfl;intro _)|(apply LR.call; (· exact rfl); (intro w1 h1; refine (c37 w1).mono ?_; rintro v w2 ⟨at4, kt4, rfl, hn⟩; refine LR.back (h1.newSl hn) ?_; clear h1 hn; apply kM))|(apply kq; (· exact rfl); (· intro w1 h1; have ha := hall w1 _ h1.tail1 ls3[i3] (List.getElem_mem _); have ho := h1.g0; have hq := CallsTo.q (c35 ls3[i3].1 ls3[i3].2.1 ls3[i3].2.2 tK at4 kt4 w1 ha.1 ha.2 (by omega) hx.2 (ownsRow_rd ho) (fun e => (ownsRow_some ho e).2) (by decide) (by unfold Byt; decide)) h1; show CallsTo Try.prog 35 [ls3[i3].1.val ls3[i3].2.1 ls3[i3].2.2, tK.val at4 kt4] w1 _; exact hq)))
      all_goals (refine At.stage_same (fun _ h => St.sub h (by repeat (first | exact List.Sublist.refl _ | apply List.Sublist.cons_cons | apply List.Sublist.cons))) ?_))
    all_goals (
      apply DW.loud 5
      · exact rfl
      · decide +kernel
      repeat'(first|(apply kg;iterate 2 exact rfl)|(apply kG;iterate 3 exact rfl)|apply kM|(apply kp;iterate 2 exact rfl)|((first|apply kz|apply ky);(·exact rfl);(·repeat(first|exact iO|exact iR rfl|apply iT));iterate 2 exact rfl)|(apply kK;(iterate 4 exact rfl);intro _)|(apply kU;(iterate 2 exact rfl);(·repeat(first|exact sH _ _ _|apply sT));(first|exact nfL_eq rfl|exact rfl);exact rfl)|(apply kB;(iterate 2 exact rfl);intro _)|(apply kA;exact rfl;intro _)|(apply LR.call; (· exact rfl); (intro w1 h1; refine (c37 w1).mono ?_; rintro v w2 ⟨at4, kt4, rfl, hn⟩; refine LR.back (h1.newSl hn) ?_; clear h1 hn; apply kM))|(apply kq; (· exact rfl); (· intro w1 h1; have ha := hall w1 _ h1.tail1 ls3[i3] (List.getElem_mem _); have ho := h1.g0; have hq := CallsTo.q (c35 ls3[i3].1 ls3[i3].2.1 ls3[i3].2.2 tK at4 kt4 w1 ha.1 ha.2 (by omega) hx.2 (ownsRow_rd ho) (fun e => (ownsRow_some ho e).2) (by decide) (by unfold Byt; decide)) h1; show CallsTo Try.prog 35 [ls3[i3].1.val ls3[i3].2.1 ls3[i3].2.2, tK.val at4 kt4] w1 _; exact hq)))
      all_goals (refine At.stage_same (fun _ h => St.sub h (by repeat (first | exact List.Sublist.refl _ | apply List.Sublist.cons_cons | apply List.Sublist.cons))) ?_))
    all_goals (
      apply DW.quiet [6]
      · decide +kernel
      · first | exact fun _ h => h | exact fun _ h => St.sub h (by repeat (first | exact List.Sublist.refl _ | apply List.Sublist.cons_cons | apply List.Sublist.cons))
      repeat'(first|(apply yp;iterate 3 exact rfl)|(apply QL.ev;(·exact rfl);(·first|((first|apply Ez|apply Ey);(·exact rfl);(·repeat(first|exact iO|exact iR rfl|apply iT));exact rfl)|((first|apply Ev.fieldAddr|apply Ev.len|apply EqOf.eq|apply EqOf.ne|apply Ev.conv|apply Ev.buildN);exact rfl)|((first|apply Ev.shr|apply Ev.shl);(iterate 2 exact rfl);first|decide|omega));·exact rfl)|(apply QL.ev; (· exact rfl); (· first | (apply Ev.indexAddr; (· exact rfl); (· exact rfl); (· omega); (· omega)) | (apply Ev.load_agg_at (cs := datR ls3[i3]); (· exact rfl); (· exact rfl); (· intro w' hw'; refine rd_row (l := ls3) (i := i3) datR_len (hw'.rd_of_blk (by (repeat (first | exact mH _ _ | apply mT)))) hlt3' ?_; (· simp; done)))); (· exact rfl))|(apply yq;iterate 5 exact rfl)|(apply QL.evg;(iterate 3 exact rfl);(·first|((first|apply Ez|apply Ey);(·exact rfl);(·repeat(first|exact iO|exact iR rfl|apply iT));exact rfl)|((first|apply Ev.fieldAddr|apply Ev.len|apply EqOf.eq|apply EqOf.ne|apply Ev.conv|apply Ev.buildN);exact rfl)|((first|apply Ev.shr|apply Ev.shl);(iterate 2 exact rfl);first|decide|omega));·exact rfl)|(apply yn;iterate 4 exact rfl)|((apply QL.split;iterate 3 exact rfl);all_goals(intro hc;try simp only[hcs]at hc;try(exfalso;first|contradiction|omega)))|apply QL.nil)
      all_goals (show DW _ _ _ _ _ _ _ _))
    all_goals (first | (apply DW.done_thn; (· decide +kernel)) | (apply DW.done; (· decide +kernel)))
    repeat'(first|(apply kp;iterate 2 exact rfl)|apply jJ|(apply jE;exact rfl)|(apply jp;exact rfl)|(apply jc;kernel_rfl)|((first|apply kf|apply kn|apply ke|apply kx|apply kc|apply kb);iterate 2 exact rfl)|((first|apply kz|apply ky);(·exact rfl);(·repeat(first|exact iO|exact iR rfl|apply iT));iterate 2 exact rfl)|(apply kg;iterate 2 exact rfl)|(apply kG;iterate 3 exact rfl)|(apply kB;(iterate 2 exact rfl);intro _)|(apply kA;exact rfl;intro _)|(apply kK;(iterate 4 exact rfl);intro _)|(apply kU;(iterate 2 exact rfl);(·repeat(first|exact sH _ _ _|apply sT));(first|exact nfL_eq rfl|exact rfl);exact rfl)|((first|apply kh|apply kl);(iterate 2 exact rfl);(first|decide|omega);exact rfl)|(apply addX;(iterate 2 exact rfl);(iterate 2(first|omega|(dsimp only;omega)));exact rfl)|((first|(apply kR;iterate 2 exact rfl)|(apply kQ;exact rfl));all_goals(intro hc;try simp only[hcs]at hc;try(exfalso;first|contradiction|omega))))
    apply At.again (i3 + 1)
    · show i3 + 1 ≤ 6
      omega
    · (repeat (first | exact Out.refl _ _ | exact Out.mix | (apply Out.upd; (· exact rfl)) | (apply Out.updL; (· exact rfl)) | (apply Out.mixs; (· exact rfl))))
    · exact ⟨rfl, trivial⟩
    · exact fun w' hw' => hw'.tail1
    · show 6 - (i3 + 1) < 6 - i3
      omega
  refine CW.sub (D := St w NoF [osl (.slice a3 9 k3) 5 1 9 (bv bA), .own bp (.cells ([Value.int .i64 2, .int .i64 1, .int .i64 4, .int .i64 16]).toArray 57 (0, 0)), .own b1 (.cells ([Value.int .i64 0, .int .i64 3, .int .i64 2, .int .i64 6]).toArray 57 (0, 0))]) ?_ (fun w' hw' => hw'.sub (by repeat (first | exact List.Sublist.refl _ | exact List.nil_sublist _ | apply List.Sublist.cons_cons | apply List.Sublist.cons)))
  clear hall hsm hlen
  repeat'(first|(apply CW.reg_held (St w NoF [osl (.slice a3 9 k3) 5 1 9 (bv bA), .own bp (.cells ([Value.int .i64 2, .int .i64 1, .int .i64 4, .int .i64 16]).toArray 57 (0, 0)), .own b1 (.cells ([Value.int .i64 0, .int .i64 3, .int .i64 2, .int .i64 6]).toArray 57 (0, 0))]))|(apply kp;iterate 2 exact rfl)|apply jJ|(apply jE;exact rfl)|(apply jp;exact rfl)|(apply jc;kernel_rfl)|((first|apply kf|apply kn|apply ke|apply kx|apply kc|apply kb);iterate 2 exact rfl)|((first|apply kz|apply ky);(·exact rfl);(·repeat(first|exact iO|exact iR rfl|apply iT));iterate 2 exact rfl)|(apply kg;iterate 2 exact rfl)|(apply kG;iterate 3 exact rfl)|(apply kB;(iterate 2 exact rfl);intro _)|(apply kA;exact rfl;intro _)|(apply kK;(iterate 4 exact rfl);intro _)|(apply kU;(iterate 2 exact rfl);(·repeat(first|exact sH _ _ _|apply sT));(first|exact nfL_eq rfl|exact rfl);exact rfl)|((first|apply kh|apply kl);(iterate 2 exact rfl);(first|decide|omega);exact rfl)|((first|(apply kR;iterate 2 exact rfl)|(apply kQ;exact rfl));all_goals(intro hc;try simp only[hcs]at hc;try(exfalso;first|contradiction|omega))))
  apply DW.quiet [0, 1]
  · decide +kernel
  · exact fun _ h => St.sub h (by repeat (first | exact List.Sublist.refl _ | apply List.Sublist.cons_cons | apply List.Sublist.cons))
  repeat'(first|(apply yp;iterate 3 exact rfl)|(apply QL.ev;(·exact rfl);(·first|((first|apply Ez|apply Ey);(·exact rfl);(·repeat(first|exact iO|exact iR rfl|apply iT));exact rfl)|((first|apply Ev.fieldAddr|apply Ev.len|apply EqOf.eq|apply EqOf.ne|apply Ev.conv|apply Ev.buildN);exact rfl)|((first|apply Ev.shr|apply Ev.shl);(iterate 2 exact rfl);first|decide|omega));·exact rfl)|(apply yq;iterate 5 exact rfl)|(apply QL.evg;(iterate 3 exact rfl);(·first|((first|apply Ez|apply Ey);(·exact rfl);(·repeat(first|exact iO|exact iR rfl|apply iT));exact rfl)|((first|apply Ev.fieldAddr|apply Ev.len|apply EqOf.eq|apply EqOf.ne|apply Ev.conv|apply Ev.buildN);exact rfl)|((first|apply Ev.shr|apply Ev.shl);(iterate 2 exact rfl);first|decide|omega));·exact rfl)|(apply yn;iterate 4 exact rfl)|((apply QL.split;iterate 3 exact rfl);all_goals(intro hc;try simp only[hcs]at hc;try(exfalso;first|contradiction|omega)))|apply QL.nil)
  all_goals (show DW _ _ _ _ _ _ _ _)
  apply DP.begin []
  refine DP.more (PI.lr 8 16 [] (fun b => .pointer (some ⟨b, 0, none⟩)) (fun b => [.own b (.cells [.int .i64 0, .int .i64 0, .int .i64 0, .int .i64 0, .int .i64 0, .int .i64 0, .int .i64 0, .bool false, .int .i64 0, .int .i64 0, .int .i64 0, .int .i64 0, .slice none 0 0].toArray 28 (0, 0))]) rfl (fun b x hx => by simp at hx; subst hx; rfl) ?_) ?_
  · intro h w2
    apply kA
    · exact rfl
    intro b
    apply kM
    exact At.made rfl
  refine DP.go 2 [8] [16] [[]] rfl rfl rfl rfl (by decide +kernel) ⟨trivial, fun _ _ _ => trivial, trivial⟩ (fun A w' hA => St.sub hA (by simp only [List.cons_append, List.nil_append]; repeat (first | exact List.nil_sublist _ | exact List.Sublist.refl _ | apply List.Sublist.cons_cons | apply List.Sublist.cons))) ?_
  intro gg A LA hLA
  simp only [List.cons_append, List.nil_append] at hLA
  subst hLA
  apply kq
  · exact rfl
  · intro w1 h1
    exact CallsTo.q (c36 w1) h1
  apply kM
  apply At.pdone (ds := [16]) rfl
  · repeat (first | exact MixR.base _ | (apply MixR.upd; case hd => exact rfl))
  · repeat (first | exact Tl.nil | apply Tl.cons)
  · exact (fun A w' hA => St.sub hA (by simp only [List.cons_append, List.nil_append]; repeat (first | exact List.nil_sublist _ | exact List.Sublist.refl _ | apply List.Sublist.cons_cons | apply List.Sublist.cons)))
  refine DP.quiet [3] [8] [16] rfl rfl (by decide +kernel) (fun A w' hA => St.sub hA (by simp only [List.cons_append, List.nil_append]; repeat (first | exact List.nil_sublist _ | exact List.Sublist.refl _ | apply List.Sublist.cons_cons | apply List.Sublist.cons))) (fun gg => ?_)
  repeat'(first|(apply yp;iterate 3 exact rfl)|(apply QL.ev;(·exact rfl);(·first|((first|apply Ez|apply Ey);(·exact rfl);(·repeat(first|exact iO|exact iR rfl|apply iT));exact rfl)|((first|apply Ev.fieldAddr|apply Ev.len|apply EqOf.eq|apply EqOf.ne|apply Ev.conv|apply Ev.buildN);exact rfl)|((first|apply Ev.shr|apply Ev.shl);(iterate 2 exact rfl);first|decide|omega));·exact rfl)|(apply yq;iterate 5 exact rfl)|(apply QL.evg;(iterate 3 exact rfl);(·first|((first|apply Ez|apply Ey);(·exact rfl);(·repeat(first|exact iO|exact iR rfl|apply iT));exact rfl)|((first|apply Ev.fieldAddr|apply Ev.len|apply EqOf.eq|apply EqOf.ne|apply Ev.conv|apply Ev.buildN);exact rfl)|((first|apply Ev.shr|apply Ev.shl);(iterate 2 exact rfl);first|decide|omega));·exact rfl)|(apply yn;iterate 4 exact rfl)|((apply QL.split;iterate 3 exact rfl);all_goals(intro hc;try simp only[hcs]at hc;try(exfalso;first|contradiction|omega)))|apply QL.nil)
  apply pq_done
  · repeat (first | exact MixR.base _ | (apply MixR.upd; case hd => exact rfl))
  refine DP.go 4 [8] [16] [[]] rfl rfl rfl rfl (by decide +kernel) ⟨trivial, fun _ _ _ => trivial, trivial⟩ (fun A w' hA => St.sub hA (by simp only [List.cons_append, List.nil_append]; repeat (first | exact List.nil_sublist _ | exact List.Sublist.refl _ | apply List.Sublist.cons_cons | apply List.Sublist.cons))) ?_
  intro gg A LA hLA
  simp only [List.cons_append, List.nil_append] at hLA
  subst hLA
  apply LR.call
  · exact rfl
  intro w1 h1
  have hh := c32 dK none 0 w1 (Rd.nil _ _) (fun _ => rfl) (by decide) (by intro b hb; cases hb)
  rw [old_K] at hh
  refine CallsTo.mono (show CallsTo Try.prog 32 _ w1 _ from hh) ?_
  rintro v w2 ⟨a16, k16, rfl, hn⟩
  refine LR.back (h1.newSl hn) ?_
  clear h1 hn hh
  apply kM
  apply At.pdone (ds := [16]) rfl
  · repeat (first | exact MixR.base _ | (apply MixR.upd; case hd => exact rfl))
  · repeat (first | exact Tl.nil | apply Tl.cons)
  · exact (fun A w' hA => St.sub hA (by simp only [List.cons_append, List.nil_append]; repeat (first | exact List.nil_sublist _ | exact List.Sublist.refl _ | apply List.Sublist.cons_cons | apply List.Sublist.cons)))
  refine DP.quiet [5, 6, 7] [8] [16] rfl rfl (by decide +kernel) (fun A w' hA => St.sub hA (by simp only [List.cons_append, List.nil_append]; repeat (first | exact List.nil_sublist _ | exact List.Sublist.refl _ | apply List.Sublist.cons_cons | apply List.Sublist.cons))) (fun gg => ?_)
  repeat'(first|(apply yp;iterate 3 exact rfl)|(apply QL.ev;(·exact rfl);(·first|((first|apply Ez|apply Ey);(·exact rfl);(·repeat(first|exact iO|exact iR rfl|apply iT));exact rfl)|((first|apply Ev.fieldAddr|apply Ev.len|apply EqOf.eq|apply EqOf.ne|apply Ev.conv|apply Ev.buildN);exact rfl)|((first|apply Ev.shr|apply Ev.shl);(iterate 2 exact rfl);first|decide|omega));·exact rfl)|(apply yq;iterate 5 exact rfl)|(apply QL.evg;(iterate 3 exact rfl);(·first|((first|apply Ez|apply Ey);(·exact rfl);(·repeat(first|exact iO|exact iR rfl|apply iT));exact rfl)|((first|apply Ev.fieldAddr|apply Ev.len|apply EqOf.eq|apply EqOf.ne|apply Ev.conv|apply Ev.buildN);exact rfl)|((first|apply Ev.shr|apply Ev.shl);(iterate 2 exact rfl);first|decide|omega));·exact rfl)|(apply yn;iterate 4 exact rfl)|((apply QL.split;iterate 3 exact rfl);all_goals(intro hc;try simp only[hcs]at hc;try(exfalso;first|contradiction|omega)))|apply QL.nil)
  apply pq_done
  · repeat (first | exact MixR.base _ | (apply MixR.upd; case hd => exact rfl))
  refine DP.take 8 16 (fun b => .pointer (some ⟨b, 0, none⟩)) (fun b => [.own b (.cells [.int .i64 0, .int .i64 0, .int .i64 0, .int .i64 0, .int .i64 0, .int .i64 0, .int .i64 0, .bool false, .int .i64 0, .int .i64 0, .int .i64 0, .int .i64 0, .slice none 0 0].toArray 28 (0, 0))]) [] [16] [[]] rfl rfl rfl rfl rfl rfl rfl (by decide +kernel) ⟨trivial, fun _ _ _ => trivial, trivial⟩ (fun A w' hA => St.sub hA (by simp only [List.cons_append, List.nil_append]; repeat (first | exact List.nil_sublist _ | exact List.Sublist.refl _ | apply List.Sublist.cons_cons | apply List.Sublist.cons))) (fun b16 => ?_)
  refine DP.nil ?_
  refine DW.castL (by simp only [List.cons_append, List.nil_append]; exact rfl) ?_
  apply DW.loud 9
  · exact rfl
  · decide +kernel
  repeat'(first|(apply kg;iterate 2 exact rfl)|(apply kG;iterate 3 exact rfl)|apply kM|(apply kp;iterate 2 exact rfl)|((first|apply kz|apply ky);(·exact rfl);(·repeat(first|exact iO|exact iR rfl|apply iT));iterate 2 exact rfl)|(apply kK;(iterate 4 exact rfl);intro _)|(apply kU;(iterate 2 exact rfl);(·repeat(first|exact sH _ _ _|apply sT));(first|exact nfL_eq rfl|exact rfl);exact rfl)|(apply kB;(iterate 2 exact rfl);intro _)|(apply kA;exact rfl;intro _))
  refine At.stage_same (fun _ h => St.sub h (by repeat (first | exact List.Sublist.refl _ | apply List.Sublist.cons_cons | apply List.Sublist.cons))) ?_
  apply DW.quiet [10]
  · decide +kernel
  · exact fun _ h => St.sub h (by repeat (first | exact List.Sublist.refl _ | apply List.Sublist.cons_cons | apply List.Sublist.cons))
  repeat'(first|(apply yp;iterate 3 exact rfl)|(apply QL.ev;(·exact rfl);(·first|((first|apply Ez|apply Ey);(·exact rfl);(·repeat(first|exact iO|exact iR rfl|apply iT));exact rfl)|((first|apply Ev.fieldAddr|apply Ev.len|apply EqOf.eq|apply EqOf.ne|apply Ev.conv|apply Ev.buildN);exact rfl)|((first|apply Ev.shr|apply Ev.shl);(iterate 2 exact rfl);first|decide|omega));·exact rfl)|(apply yq;iterate 5 exact rfl)|(apply QL.evg;(iterate 3 exact rfl);(·first|((first|apply Ez|apply Ey);(·exact rfl);(·repeat(first|exact iO|exact iR rfl|apply iT));exact rfl)|((first|apply Ev.fieldAddr|apply Ev.len|apply EqOf.eq|apply EqOf.ne|apply Ev.conv|apply Ev.buildN);exact rfl)|((first|apply Ev.shr|apply Ev.shl);(iterate 2 exact rfl);first|decide|omega));·exact rfl)|(apply yn;iterate 4 exact rfl)|((apply QL.split;iterate 3 exact rfl);all_goals(intro hc;try simp only[hcs]at hc;try(exfalso;first|contradiction|omega)))|apply QL.nil)
  all_goals (show DW _ _ _ _ _ _ _ _)
  first | (apply DW.done_thn; (· decide +kernel)) | (apply DW.done; (· decide +kernel))
  repeat'(first|(apply kp;iterate 2 exact rfl)|apply jJ|(apply jE;exact rfl)|(apply jp;exact rfl)|(apply jc;kernel_rfl)|((first|apply kf|apply kn|apply ke|apply kx|apply kc|apply kb);iterate 2 exact rfl)|((first|apply kz|apply ky);(·exact rfl);(·repeat(first|exact iO|exact iR rfl|apply iT));iterate 2 exact rfl)|(apply kg;iterate 2 exact rfl)|(apply kG;iterate 3 exact rfl)|(apply kB;(iterate 2 exact rfl);intro _)|(apply kA;exact rfl;intro _)|(apply kK;(iterate 4 exact rfl);intro _)|(apply kU;(iterate 2 exact rfl);(·repeat(first|exact sH _ _ _|apply sT));(first|exact nfL_eq rfl|exact rfl);exact rfl)|((first|apply kh|apply kl);(iterate 2 exact rfl);(first|decide|omega);exact rfl)|((first|(apply kR;iterate 2 exact rfl)|(apply kQ;exact rfl));all_goals(intro hc;try simp only[hcs]at hc;try(exfalso;first|contradiction|omega))))
  apply LR.call
  · exact rfl
  intro w1 h1
  have ho := h1.holds (osl (.slice a16 oK.body.length k16) 5 1 oK.body.length (bv oK.body)) (by (repeat (first | exact mH _ _ | apply mT)))
  have hh := c15 oK a16 k16 w1 (ownsRow_rd ho) (fun e => (ownsRow_some ho e).2) (by decide) (by unfold Byt; decide)
  rw [pack_O] at hh
  refine CallsTo.mono (show CallsTo Try.prog 15 _ w1 _ from hh) ?_
  rintro v w2 ⟨a18, k18, rfl, hn⟩
  refine LR.back (h1.newSl hn) ?_
  clear h1 hn hh ho
  have ht : ∀ {L1 : List Asrt} {w1 : World}, St w NoF L1 w1 → osl (.slice a18 xK.length k18) 5 1 xK.length (bv xK) ∈ L1 → Rd w1 a18 (bv xK) ∧ (a18 = none → k18 = 0) := fun h1 hm => ⟨ownsRow_rd (h1.holds _ hm), fun e => (ownsRow_some (h1.holds _ hm) e).2⟩
  have bx : Byt xK := by unfold Byt; decide
  have lx : xK.length ≤ 140737488355328 := by decide
  repeat'(first|(apply kp;iterate 2 exact rfl)|apply jJ|(apply jE;exact rfl)|(apply jp;exact rfl)|(apply jc;kernel_rfl)|((first|apply kf|apply kn|apply ke|apply kx|apply kc|apply kb);iterate 2 exact rfl)|((first|apply kz|apply ky);(·exact rfl);(·repeat(first|exact iO|exact iR rfl|apply iT));iterate 2 exact rfl)|(apply kg;iterate 2 exact rfl)|(apply kG;iterate 3 exact rfl)|(apply kB;(iterate 2 exact rfl);intro _)|(apply kA;exact rfl;intro _)|(apply kK;(iterate 4 exact rfl);intro _)|(apply kU;(iterate 2 exact rfl);(·repeat(first|exact sH _ _ _|apply sT));(first|exact nfL_eq rfl|exact rfl);exact rfl)|((first|apply kh|apply kl);(iterate 2 exact rfl);(first|decide|omega);exact rfl)|(apply kq; (· exact rfl); (· intro w1 h1; first | exact CallsTo.q (c21 w1) h1 | (have ha := ht h1 (by (repeat (first | exact mH _ _ | apply mT))); have hq := CallsTo.q (d17 { oK with body := xK } a18 k18 w1 ha.1 ha.2 lx bx) h1; rw [check_T] at hq; show CallsTo Try.prog 17 [Msg.val { oK with body := xK } a18 k18] w1 _; exact hq) | (have ha := ht h1 (by (repeat (first | exact mH _ _ | apply mT))); have hq := CallsTo.q (c3 { oK with body := xK } a18 k18 w1 ha.1 ha.2 lx bx) h1; show CallsTo Try.prog 3 [Msg.val { oK with body := xK } a18 k18] w1 _; exact hq)))|((first|(apply kR;iterate 2 exact rfl)|(apply kQ;exact rfl));all_goals(intro hc;try simp only[hcs]at hc;try(exfalso;first|contradiction|omega))))
  (apply ret1; (· exact rfl); intro w' hS)
  exact ⟨rfl, hS.toKeep⟩
end Go.Proofs.Ytomlgnncncjmaaa

namespace Go.Proofs.Ytomlgnncncjmaaa
open Go.Hb Go.ChangeShapes Go.WideShapes
attribute [local irreducible] LR CW At Ev thn blk finK noG again CallsTo DW QL dnext
set_option linter.unusedSimpArgs false
set_option linter.unusedVariables false

set_option maxHeartbeats 1000000 in
set_option maxRecDepth 100000 in
theorem parcelNames_lifted (os : Os) (started : os.Started) (H : Type) (enc : TypeId × Value → H) :
    ReturnsInHanded {} Try.checked os 9 .any (Rows.parcelNamesSpec.pre6 enc Try.prog Try.f9 Rows.parcelNamesRow.domain false) (Rows.parcelNamesSpec.post enc Try.prog Try.f9 false true false false) := by
  refine returnsInHanded_of_change_sized (C := Try.checked) (s := Rows.parcelNamesSpec) own_knob started (by kernel_rfl) Try.func9
    (ChangeSpec.witness6 (enc := enc) (C := Try.checked) false ⟨#[], #[], []⟩ 12 (by kernel_rfl) (by kernel_rfl) (by kernel_rfl) (by kernel_rfl)) ?_
  intro W base args ds gs before hval hW hcnd hwt _
  have hW' := hW
  obtain ⟨p, q, hA0, hV, rfl, hfz, hnd⟩ := hW'
  obtain ⟨rfl, rfl⟩ := trodVars_none hV
  have hA : DataW.TrodAll enc Try.prog W 0 (fun _ => true) true Try.f9.params.toList args.toList ds p := hA0
  rw [Try.params9] at hA
  obtain ⟨hargs, rfl, rfl⟩ := trodAll_nil hA
  obtain rfl : args = #[] := by cases args; simp_all
  refine (c9 W).calls fun v W' ⟨hv, hg⟩ => ⟨v, rfl, ?_⟩
  subst hv
  exact law_post kids full_slices hW hg rfl rfl (by kernel_rfl) Try.underlying4 (by rw [Try.params9]; decide +kernel)

theorem parcelNames_holds : Rows.ParcelNamesSaid :=
  OpenClaim.holds_of_wide 9 Try.f9 rfl rfl rfl rfl rfl rfl rfl ⟨rfl, rfl, rfl, rfl, rfl⟩ rfl rfl rfl rfl rfl (by kernel_rfl) Try.func9 (by kernel_rfl)
    (of_decide_eq_true (by kernel_rfl)) (by unfold Func.isWrapper; first | (rw [if_pos (by decide +kernel)]; kernel_rfl) | (rw [if_neg (by decide +kernel)]; exact ⟨rfl, rfl⟩))
    (fun os started H enc _ => parcelNames_lifted os started H enc)
end Go.Proofs.Ytomlgnncncjmaaa
