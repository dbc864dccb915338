/-
  Memory, more: stores; slices; append. Conditions: none; facts on one program's types come in as classes.
-/
import Derived.Test.YtomlgnncncjmaaaHb4
import Derived.Scope
namespace Go.Hb

def finK (P : Program) (fn : Func) (n : Nat) (K : Value → World → Prop) : Post := fin P fn n fun e w' => ∃ v, e = .returned v ∧ K v w'

theorem go_in {P : Program} {n : Nat} {g : FuncId} {fn : Func} {c : Code} {args : List Value} {K : Value → World → Prop} {w : World} {F : Nat → Prop} {L : List Asrt} (hS : St w F L w)
    (hf : P.funcs[g]? = some fn) (hb : fn.body = some c) (hn : n = args.length + (fn.ntmps - args.length)) (h : CW P n c (finK P fn n K) (start args) (St w F L)) : CallsTo P g args w K :=
  enter hf hb hn (h.sub fun _ e => e ▸ hS)

section
variable {P : Program} {n : Nat} {f : Frm} {C : World → Prop} {fn : Func} {K : Value → World → Prop}
theorem ret1 {t : Tmp} (hr : fn.results = #[.tmp t]) (h : ∀ w, C w → K (f t) w) : At (finK P fn n K) .ret f C := fin_ret1 hr fun w hw => ⟨_, rfl, h w hw⟩
theorem ret2 {t u : Tmp} (hr : fn.results = #[.tmp t, .tmp u]) (h : ∀ w, C w → K (.tuple [f t, f u].toArray) w) : At (finK P fn n K) .ret f C := fin_ret2 hr fun w hw => ⟨_, rfl, h w hw⟩
theorem ret3 {t u s : Tmp} (hr : fn.results = #[.tmp t, .tmp u, .tmp s]) (h : ∀ w, C w → K (.tuple [f t, f u, f s].toArray) w) : At (finK P fn n K) .ret f C := fin_ret3 hr fun w hw => ⟨_, rfl, h w hw⟩
theorem ret0 (hr : fn.results = #[]) (h : ∀ w, C w → K (.tuple #[]) w) : At (finK P fn n K) .ret f C := fin_ret0 hr fun w hw => ⟨_, rfl, h w hw⟩
theorem end0 (hr : fn.results = #[]) (h : ∀ w, C w → K (.tuple #[]) w) : At (finK P fn n K) .normal f C := fin_end0 hr fun w hw => ⟨_, rfl, h w hw⟩
end

theorem CallsTo.q {P : Program} {g : FuncId} {args : List Value} {w w0 : World} {F : Nat → Prop} {L : List Asrt} {u : Value} (h : CallsTo P g args w fun v w' => v = u ∧ Grew w w') (h1 : St w0 F L w) :
    CallsTo P g args w fun v w' => v = u ∧ St w0 F L w' := h.mono fun _ _ ⟨a, b⟩ => ⟨a, h1.grew b⟩

/-! ### scopes and labels -/
def noG (Q : Post) : Post
  | .goto _, _, _ => False
  | e, f, w => Q e f w
section
variable {P : Program} {n : Nat} {Q : Post} {f : Frm} {C : World → Prop}
theorem CW.scope {c : Code} (h : CW P n c (noG Q) f C) : CW P n (.scope c) Q f C := by
  intro w hw a ha
  refine wp_scope_straight (Code.wp_mono (fun e a' w' hq => ?_) (h w hw a ha))
  obtain ⟨f', hf', hq⟩ := hq
  cases e with
  | normal => exact ⟨f', hf', hq⟩
  | exit id => exact ⟨f', hf', hq⟩
  | goto l => exact hq.elim
  | ret => exact ⟨f', hf', hq⟩
  | panic ch => exact ⟨f', hf', hq⟩
  | outgrown => exact ⟨f', hf', hq⟩
theorem CW.label {l : Nat} (h : At Q .normal f C) : CW P n (.label l) Q f C := fun w hw _ ha => wp_label ⟨f, ha, h w hw⟩
theorem At.noG (h : At Q .normal f C) : At (noG Q) .normal f C := h
theorem At.noG_ret (h : At Q .ret f C) : At (Hb.noG Q) .ret f C := h
theorem At.noG_exit {id : Nat} (h : At Q (.exit id) f C) : At (Hb.noG Q) (.exit id) f C := h
end

/-! ### stores into a block of one's own -/
class Sz (P : Program) (T : TypeId) (n : outParam Nat) : Prop where
  size : ∀ w, (sizeOf T).run P w = .ok n w
instance (P : Program) (T : TypeId) [h : One P T] : Sz P T 1 := ⟨h.size⟩
instance (P : Program) (T : TypeId) (n : Nat) [h : Agg P T n] : Sz P T n := ⟨h.size⟩

def splice (cs : List Value) (o : Nat) (vs : List Value) : List Value := cs.take o ++ vs ++ cs.drop (o + vs.length)

theorem Keep.setRow (w : World) (g : Nat) (cur cs : Array Value) (e : TypeId) (hg : w.heap[g]? = some (.cells cur e (0, 0))) {F : Nat → Prop} (hF : F g) : Keep F w (w.setRow g cs) :=
  ⟨rfl, rfl, rfl, by simp, fun k _ hk => setRow_other w g k cs (fun e => hk (e ▸ hF)), fun _ h => (by cases h), fun _ h => (by cases h), fun _ h => (by cases h), List.Pairwise.nil, fun _ h => (by cases h)⟩

theorem run_storeVar {P : Program} {T : TypeId} {m : Nat} (h : Sz P T m) (w : World) (g o : Nat) (v : Value) (vs cs : List Value) (e : TypeId) (hv : v.cells = vs.toArray) (hm : vs.length = m)
    (hg : w.heap[g]? = some (.cells cs.toArray e (0, 0))) (hb : o + vs.length ≤ cs.length) (h1 : vs.all Value.oneCell' = true) : (storeVar T ⟨g, o, none⟩ v).run P w = .ok () (w.setRow g (splice cs o vs).toArray) := by
  have hst := run_storeCells_at P g o e vs 0 cs.toArray w hg (by simpa using hb) (fun u hu => List.all_eq_true.1 h1 u hu)
  simp only [storeVar, Sem.run_bind, h.size, Result.andThen_ok, hv, List.size_toArray, hm]
  rw [if_neg (by simp)]
  simpa [splice] using hst

section
variable {P : Program} {f : Frm} {T T' : TypeId} {x y : Operand} {v : Value} {w0 : World} {F : Nat → Prop} {L L' : List Asrt} {C : World → Prop}
variable {n : Nat} {ops rest : List Oper} {Q : Post} {p : String} {af : Array Edge} {d : Nat}

theorem LR.store {b o m : Nat} {cs vs : List Value} {E : TypeId} [h : Sz P T m] (hx : f.ev x = .pointer (some ⟨b, o, none⟩)) (hv : (f.ev y).cells = vs.toArray)
    (hs : Sel L (.own b (.cells cs.toArray E (0, 0))) (.own b (.cells (splice cs o vs).toArray E (0, 0))) L')
    (h1 : vs.all Value.oneCell' = true) (hm : Nat.beq vs.length m = true) (hb : Nat.ble (o + vs.length) cs.length = true)
    (k : LR false P n ops rest Q f (St w0 F L')) : LR false P n ops (⟨none, .store T x y, T', p, af, none⟩ :: rest) Q f (St w0 F L) := by
  intro w hw a ha
  refine wpList_plain rfl fun K hK => ?_
  have hg := hw.own_at hs.mem
  have hr : (execOp a.eval ⟨none, .store T x y, T', p, af, none⟩).run P w = .ok .skip (w.setRow b (splice cs o vs).toArray) := by
    have := run_storeVar h w b o (f.ev y) vs cs E hv (Nat.eq_of_beq_eq_true hm) hg (Nat.le_of_ble_eq_true hb) h1
    rw [ha.eval]
    simp only [execOp, hx, Instr.storeAt, Instr.sureAddr, Sem.run_bind, Sem.run_pure, Result.andThen_ok, this]
  simp only [Oper.wp, hr, Oper.upon_skip]
  refine hK _ _ (k _ ?_ _ (ha.put_none undef))
  exact hw.turn hs rfl (Keep.setRow w b _ _ E hg rfl) (setRow_heap w b _ _ E (0, 0) hg) (fun k hk => .inl hk) (Asrt.dep_own _ _)

/-! ### slices: what can be read through one; one that is one's own -/
def Rd (w : World) (a : Option Addr) (xs : List Value) : Prop := ∀ j v, xs[j]? = some v → ∃ ad, a = some ad ∧ w.cell? (ad.add j) = some v
def rdFoot (a : Option Addr) (xs : List Value) : Nat → Prop := fun k => xs ≠ [] ∧ ∃ ad, a = some ad ∧ k = ad.block
/-- Through the address a the cells xs can be read. -/
def rdA (a : Option Addr) (xs : List Value) : Asrt := .rd (rdFoot a xs) (fun w => Rd w a xs)
/-- The slice v of n elements is one's own, with its cells xs and its spare room. -/
def osl (v : Value) (E : TypeId) (sz n : Nat) (xs : List Value) : Asrt := .ex (fun k => v.ownBlock = some k) (fun w => w.ownsRow 0 E sz v n xs)

theorem addr_add_block (ad : Addr) (j : Nat) : (ad.add j).block = ad.block := by unfold Addr.add; split <;> rfl
theorem Rd.dep (a : Option Addr) (xs : List Value) : (rdA a xs).dep := by
  intro w w' hk h j v hj
  obtain ⟨ad, ha, hc⟩ := h j v hj
  refine ⟨ad, ha, ?_⟩
  have hb := hk ad.block ⟨by intro e; rw [e] at hj; simp at hj, ad, ha, rfl⟩
  simp only [World.cell?, addr_add_block] at hc ⊢
  rw [hb]; exact hc
theorem Rd.live {w : World} {a : Option Addr} {xs : List Value} (h : Rd w a xs) : ∀ k, rdFoot a xs k → k < w.heap.size := by
  rintro k ⟨hne, ad, ha, rfl⟩
  cases xs with
  | nil => exact (hne rfl).elim
  | cons v r =>
    obtain ⟨ad', ha', hc⟩ := h 0 v rfl
    rw [ha] at ha'; cases ha'
    have := World.block_lt_of_cell? w _ hc
    rwa [addr_add_block] at this
theorem Rd.nil (w : World) (a : Option Addr) : Rd w a [] := fun j v h => by simp at h
theorem osl.dep (v : Value) (E : TypeId) (sz n : Nat) (xs : List Value) : (osl v E sz n xs).dep := by
  intro w w' hk h
  refine ⟨h.1, ?_⟩
  rcases h.2 with hn | ⟨g, cap, cur, rfl, hb, hg, r⟩
  · exact .inl hn
  · refine .inr ⟨g, cap, cur, rfl, hb, ?_, r⟩
    rw [hk g rfl]; exact hg
theorem ownsRow_base {w : World} {base base' : Nat} {E : TypeId} {sz n : Nat} {v : Value} {xs : List Value} (h : w.ownsRow base E sz v n xs) (hb : ∀ k, v.ownBlock = some k → base' ≤ k) : w.ownsRow base' E sz v n xs := by
  refine ⟨h.1, ?_⟩
  rcases h.2 with hn | ⟨g, cap, cur, rfl, hb', r⟩
  · exact .inl hn
  · exact .inr ⟨g, cap, cur, rfl, hb g rfl, r⟩
theorem ownsRow_zero {w : World} {base : Nat} {E : TypeId} {sz n : Nat} {v : Value} {xs : List Value} (h : w.ownsRow base E sz v n xs) : w.ownsRow 0 E sz v n xs := ownsRow_base h (fun _ _ => Nat.zero_le _)
theorem ownsRow_rd {w : World} {base : Nat} {E : TypeId} {sz n c : Nat} {a : Option Addr} {xs : List Value} (h : w.ownsRow base E sz (.slice a n c) n xs) : Rd w a xs := by
  intro j v hj
  rcases h.2 with ⟨he, hn⟩ | ⟨g, cap, cur, he, _⟩
  · subst hn
    have := h.1
    simp only [Nat.zero_mul] at this
    rw [List.eq_nil_of_length_eq_zero this] at hj; simp at hj
  · simp only [Value.slice.injEq] at he
    obtain ⟨rfl, _, rfl⟩ := he
    exact ⟨_, rfl, World.ownsRow.cells h (g := g) rfl j v hj⟩

/-- A new slice: it lies in memory of its own. -/
structure NewSl (w w' : World) (v : Value) (E : TypeId) (sz n : Nat) (xs : List Value) : Prop where
  grew : Grew w w'
  own : w'.ownsRow w.heap.size E sz v n xs

theorem St.newSl {w w' : World} {n : Nat} {E : TypeId} {sz : Nat} {xs : List Value} (h : St w0 F L w) (hn : NewSl w w' v E sz n xs) : St w0 F (osl v E sz n xs :: L) w' :=
  h.push hn.grew (ownsRow_zero hn.own) (fun k hk => hn.own.lt k hk) (osl.dep _ _ _ _ _)

theorem St.rd_of_own {w : World} {n : Nat} {E : TypeId} {sz c : Nat} {a : Option Addr} {xs : List Value} (h : St w0 F L w) (hm : osl (.slice a n c) E sz n xs ∈ L) : Rd w a xs := ownsRow_rd (h.holds _ hm)
theorem St.rd_of {w : World} {a : Option Addr} {xs : List Value} (h : St w0 F L w) (hm : rdA a xs ∈ L) : Rd w a xs := h.holds _ hm
/-- What one's own block of cells is read as. -/
theorem St.rd_of_blk {w : World} {b : Nat} {cs : List Value} {E : TypeId} {fr : Nat × Nat} (h : St w0 F L w) (hm : Asrt.own b (.cells cs.toArray E fr) ∈ L) : Rd w (some ⟨b, 0, none⟩) cs := fun j v hj =>
  ⟨_, rfl, by rw [addr_add, cell_own (h.own_at hm)]; simpa using hj⟩

theorem keep_of_grown {w w' : World} {row : Option Nat} (h : w.grownBy w' row) {F : Nat → Prop} (hF : ∀ k, row = some k → F k) : Keep F w w' :=
  ⟨h.os, h.tape, h.output, h.size, fun k hk hn => h.block k hk (fun e => hn (hF k e.symm)), fun _ h => (by cases h), fun _ h => (by cases h), fun _ h => (by cases h), List.Pairwise.nil, fun _ h => (by cases h)⟩

theorem slice_form {w : World} {base : Nat} {E : TypeId} {sz n : Nat} {xs : List Value} (h : w.ownsRow base E sz v n xs) : ∃ a c, v = .slice a n c := by
  rcases h.2 with ⟨rfl, rfl⟩ | ⟨g, cap, cur, rfl, _⟩
  · exact ⟨_, _, rfl⟩
  · exact ⟨_, _, rfl⟩

/-- append, as it runs: to a slice of one's own, whatever may be read. -/
theorem run_append_any {E : TypeId} {sz by_ : Nat} (h : SliceOf P T E sz by_) (w : World) (ty : TypeId) {n m cx : Nat} {ax : Option Addr} {xs news : List Value} (hown : w.ownsRow 0 E sz v n xs)
    (hrd : Rd w ax news) (hnone : ax = none → m = 0 ∧ cx = 0) (hl : news.length = m * sz) (h1 : news.all Value.oneCell' = true) (hbytes : (n + m) * by_ ≤ 140737488355328) (hmax : n + m ≤ maxLen) :
    ∃ v' w', (Builtin.append_ #[T, T] ty #[v, .slice ax m cx]).run P w = .ok v' w' ∧ w'.ownsRow 0 E sz v' (n + m) (xs ++ news) ∧ w.grownBy w' v.ownBlock ∧ (v' = .slice none 0 0 ↔ v = .slice none 0 0 ∧ m = 0) ∧
      (∀ k, v'.ownBlock = some k → v.ownBlock = some k ∨ (w.heap.size ≤ k ∧ k < w'.heap.size)) := by
  have hinf := h.inf
  obtain ⟨z, hz, hzs⟩ := h.zero
  cases hi : P.info? E with
  | none => simp [hi] at hinf
  | some inf =>
    simp only [hi, Option.map_some, Option.some.injEq, Prod.mk.injEq] at hinf
    simp only [hi, Option.bind_some] at hz
    cases ax with
    | none =>
      obtain ⟨rfl, rfl⟩ := hnone rfl
      have hn : news = [] := List.eq_nil_of_length_eq_zero (by simpa using hl)
      subst hn
      have hr := run_append_owned_none (P := P) w 0 T ty E inf sz h.und hi v n xs hown
      exact ⟨v, w, hr, by simpa using hown, ⟨rfl, rfl, rfl, Nat.le_refl _, fun _ _ _ => rfl⟩, by simp, fun k hk => .inl hk⟩
    | some ad =>
      have hnews : ∀ j u, news[j]? = some u → w.cell? (ad.add j) = some u := fun j u hj => by
        obtain ⟨ad', ha', hc⟩ := hrd j u hj
        cases ha'; exact hc
      obtain ⟨rfl, rfl⟩ := hinf
      have h63 : n + m ≤ 9223372036854775807 := by simp only [maxLen] at hmax; omega
      have hlen : (xs ++ news).length = (n + m) * inf.size := by rw [List.length_append, hown.1, hl, Nat.add_mul]
      have grown : ∀ (old : Nat), old < n + m → ∀ (row : Option Nat),
          (w.drew.alloc (.cells (xs.toArray ++ news.toArray ++ Builtin.zeroCells z.cells (grownCap w (n + m) old E - (n + m))) E)).ownsRow 0 E inf.size
            (.slice (some ⟨w.heap.size, 0, none⟩) (n + m) (grownCap w (n + m) old E)) (n + m) (xs ++ news) ∧
          w.grownBy (w.drew.alloc (.cells (xs.toArray ++ news.toArray ++ Builtin.zeroCells z.cells (grownCap w (n + m) old E - (n + m))) E)) row := by
        intro old ho row
        have hge := grownCap_ge w (n + m) old E
        have hcm : grownCap w (n + m) old E ≤ maxLen := grownCap_le_maxLen w (n + m) old E hmax
        refine ⟨⟨hlen, .inr ⟨w.heap.size, _, _, rfl, Nat.zero_le _, heap_alloc_new w.drew _, hge, hcm, ?_, ?_⟩⟩, ⟨rfl, rfl, rfl, by simp, fun k hk _ => by first | exact heap_alloc_old w.drew _ hk | exact heap_alloc_old w.drew _ k hk⟩⟩
        · simp only [Array.size_append, List.size_toArray, size_zeroCells, hzs, hown.1, hl, ← Nat.add_mul]
          congr 1
          omega
        · simp only [Array.toList_append, List.append_assoc]
          rw [← List.append_assoc, ← hlen]
          exact List.take_left
      have fresh : ∀ (o : Obj) (c : Nat) (k : Nat), (Value.slice (some ⟨w.heap.size, 0, none⟩) (n + m) c).ownBlock = some k → v.ownBlock = some k ∨ (w.heap.size ≤ k ∧ k < (w.drew.alloc o).heap.size) := by
        intro o c k hk
        simp only [Value.ownBlock, Option.some.injEq] at hk
        subst hk
        exact .inr ⟨Nat.le_refl _, by simp⟩
      have h1' : ∀ u ∈ news, u.oneCell' = true := fun u hu => List.all_eq_true.1 h1 u hu
      rcases hown.2 with ⟨rfl, rfl⟩ | ⟨g, cap, cur, rfl, hbg, hg, hnc, hcm, hcs, htake⟩
      · have hx : xs = [] := List.eq_nil_of_length_eq_zero (by simpa using hown.1)
        subst hx
        by_cases hm : m = 0
        · subst hm
          have hn : news = [] := List.eq_nil_of_length_eq_zero (by simpa using hl)
          subst hn
          refine ⟨.slice none 0 0, w, ?_, World.ownsRow_nil w 0 E inf.size, ⟨rfl, rfl, rfl, Nat.le_refl _, fun _ _ _ => rfl⟩, by simp, fun k hk => by simp [Value.ownBlock] at hk⟩
          simp [Builtin.append_, run_underlying h.und, sizeOf, typeInfo, hi, Builtin.lenOf, Builtin.firstCells, loadCells, loadCellsFrom]
        · have hr := run_append_nil (P := P) w T ty E inf z h.und hi hz ad m cx news hl hnews (by omega) (by omega) (by have hb := hbytes; simp only [Nat.zero_add] at hb; omega)
          have hgr := grown 0 (by omega) (Value.ownBlock (.slice none 0 0))
          have hfr := fresh (.cells (#[] ++ news.toArray ++ Builtin.zeroCells z.cells (grownCap w (0 + m) 0 E - (0 + m))) E) (grownCap w (0 + m) 0 E)
          simp only [Nat.zero_add, List.nil_append, Array.empty_append] at hgr hfr ⊢
          exact ⟨_, _, hr, hgr.1, hgr.2, by simp [hm], hfr⟩
      · by_cases hroom : n + m ≤ cap
        · have hfit : n * inf.size + news.length ≤ cur.size := by rw [hl, hcs, ← Nat.add_mul]; exact Nat.mul_le_mul_right _ hroom
          have hr := run_append_room (P := P) w T ty E inf h.und hi g n cap cur hg ad m cx news hl hnews h1' hroom hfit
          refine ⟨_, _, hr, ⟨hlen, .inr ⟨g, cap, _, rfl, hbg, setRow_heap w g cur _ E _ hg, hroom, hcm, ?_, ?_⟩⟩, ⟨rfl, rfl, rfl, by simp, fun k _ hk => setRow_other w g k _ (fun e => hk (by simp [Value.ownBlock, e]))⟩, by simp, fun k hk => .inl hk⟩
          · simp only [List.size_toArray, List.length_append, List.length_take, List.length_drop, Array.length_toList]
            omega
          · rw [htake, ← hlen]
            exact List.take_left
        · have holds : ∀ j u, xs[j]? = some u → w.cell? ((⟨g, 0, none⟩ : Addr).add j) = some u := hown.cells (g := g) rfl
          have hr := run_append_grow (P := P) w T ty E inf z h.und hi hz ⟨g, 0, none⟩ n cap xs hown.1 holds ad m cx news hl hnews (by omega) (by omega) (growslice_fits (by omega) hbytes)
          have hgr := grown cap (by omega) (Value.ownBlock (.slice (some ⟨g, 0, none⟩) n cap))
          exact ⟨_, _, hr, hgr.1, hgr.2, by simp, fresh _ _⟩
end
end Go.Hb
