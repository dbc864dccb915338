/-
  Slices of one's own that may begin inside their block: pieces of them, and append. Conditions: none; nothing here speaks of one program.
-/
import Derived.Test.YtomlgnncncjmaaaHb15
import Derived.Deep.AppendSrc
namespace Go.Hb
section
variable {w0 w : World} {F : Nat → Prop} {L L' : List Asrt}
def ownsAt (w : World) (E : TypeId) (sz : Nat) (v : Value) (n : Nat) (xs : List Value) : Prop :=
  xs.length = n * sz ∧ ((v = .slice none 0 0 ∧ n = 0) ∨
   ∃ g o cap cur, v = .slice (some ⟨g, o, none⟩) n cap ∧ w.heap[g]? = some (.cells cur E (0, 0)) ∧ n ≤ cap ∧ cap ≤ maxLen ∧ o + cap * sz ≤ cur.size ∧ (cur.toList.drop o).take (n * sz) = xs)
/-- The slice v of n elements is one's own, wherever it begins. -/
def odl (v : Value) (E : TypeId) (sz n : Nat) (xs : List Value) : Asrt := .ex (fun k => v.ownBlock = some k) (fun w => ownsAt w E sz v n xs)
theorem odl.dep (v : Value) (E : TypeId) (sz n : Nat) (xs : List Value) : (odl v E sz n xs).dep := by
  intro w w' hk h
  refine ⟨h.1, ?_⟩
  rcases h.2 with hn | ⟨g, o, cap, cur, rfl, hg, r⟩
  · exact .inl hn
  · refine .inr ⟨g, o, cap, cur, rfl, ?_, r⟩
    rw [hk g rfl]; exact hg
theorem ownsAt_of {E : TypeId} {sz n base : Nat} {v : Value} {xs : List Value} (h : w.ownsRow base E sz v n xs) : ownsAt w E sz v n xs := by
  refine ⟨h.1, ?_⟩
  rcases h.2 with hn | ⟨g, cap, cur, rfl, hb, hg, h1, h2, h3, h4⟩
  · exact .inl hn
  · exact .inr ⟨g, 0, cap, cur, rfl, hg, h1, h2, by omega, h4⟩
theorem ownsAt_rd {E : TypeId} {sz n c : Nat} {a : Option Addr} {xs : List Value} (h : ownsAt w E sz (.slice a n c) n xs) : Rd w a xs := by
  intro j v hj
  rcases h.2 with ⟨he, hn⟩ | ⟨g, o, cap, cur, he, hg, h1, h2, h3, h4⟩
  · subst hn
    have := h.1
    simp only [Nat.zero_mul] at this
    rw [List.eq_nil_of_length_eq_zero this] at hj; simp at hj
  · simp only [Value.slice.injEq] at he
    obtain ⟨rfl, _, rfl⟩ := he
    refine ⟨_, rfl, ?_⟩
    rw [addr_add, cell_own hg]
    rw [← h4, List.getElem?_take] at hj
    split at hj
    · rw [List.getElem?_drop] at hj
      simpa using hj
    · cases hj
theorem ownsAt_drop {E : TypeId} {sz k c l : Nat} {a : Option Addr} {xs : List Value} (h : ownsAt w E sz (.slice a k c) k xs) (hl : l ≤ k) :
    ownsAt w E sz (.slice (subA a c l sz) (k - l) (c - l)) (k - l) (xs.drop (l * sz)) := by
  refine ⟨by rw [List.length_drop, h.1, Nat.sub_mul], ?_⟩
  rcases h.2 with ⟨he, hn⟩ | ⟨g, o, cap, cur, he, hg, h1, h2, h3, h4⟩
  · simp only [Value.slice.injEq] at he
    obtain ⟨rfl, _, rfl⟩ := he
    subst hn
    left
    refine ⟨?_, by omega⟩
    unfold subA
    simp
  · simp only [Value.slice.injEq] at he
    obtain ⟨rfl, _, rfl⟩ := he
    right
    by_cases hc : c = l
    · refine ⟨g, o, c - l, cur, by simp [subA, hc], hg, by omega, by omega, by rw [hc, Nat.sub_self]; omega, ?_⟩
      rw [show k - l = 0 by omega, Nat.zero_mul, List.take_zero, List.drop_of_length_le (by rw [h.1, show k = l by omega]; exact Nat.le_refl _)]
    · have hm : l * sz + (c - l) * sz = c * sz := by rw [← Nat.add_mul]; congr 1; omega
      refine ⟨g, o + l * sz, c - l, cur, ?_, hg, by omega, by omega, by omega, ?_⟩
      · unfold subA
        rw [if_neg hc]
        show Value.slice (some ((⟨g, o, none⟩ : Addr).add (l * sz))) _ _ = _
        rw [addr_add]
      · rw [← h4, List.drop_take, List.drop_drop, Nat.sub_mul]
theorem St.osl_odl {E : TypeId} {sz n : Nat} {v : Value} {xs : List Value} (h : St w0 F L w) (hs : Sel L (osl v E sz n xs) (odl v E sz n xs) L') : St w0 F L' w :=
  h.turn hs rfl (St.refl w _) (ownsAt_of (h.holds _ hs.mem)) (fun _ hk => .inl hk) (odl.dep _ _ _ _ _)
theorem St.odl_drop {E : TypeId} {sz k c l : Nat} {a : Option Addr} {xs : List Value} (h : St w0 F L w) (hs : Sel L (odl (.slice a k c) E sz k xs) (odl (.slice (subA a c l sz) (k - l) (c - l)) E sz (k - l) (xs.drop (l * sz))) L') (hl : l ≤ k) : St w0 F L' w := by
  refine h.turn hs rfl (St.refl w _) (ownsAt_drop (h.holds _ hs.mem) hl) (fun j hj => .inl ?_) (odl.dep _ _ _ _ _)
  have hj : (Value.slice (subA a c l sz) (k - l) (c - l)).ownBlock = some j := hj
  show (Value.slice a k c).ownBlock = some j
  unfold subA at hj
  split at hj
  · cases a <;> exact hj
  · cases a with
    | none => cases hj
    | some ad =>
      have : (ad.add (l * sz)).block = ad.block := addr_add_block _ _
      simp only [Option.map_some, Value.ownBlock, this] at hj
      exact hj
theorem St.odl_foot {a : Option Addr} {n c : Nat} {E sz : Nat} {xs : List Value} {k : Nat} (h : rdFoot a xs k) : (odl (.slice a n c) E sz n xs).foot k := by
  obtain ⟨_, ad, rfl, rfl⟩ := h; rfl
theorem St.rd_of_odl {n : Nat} {E : TypeId} {sz c : Nat} {a : Option Addr} {xs : List Value} (h : St w0 F L w) (hm : odl (.slice a n c) E sz n xs ∈ L) : Rd w a xs := ownsAt_rd (h.holds _ hm)
theorem ownsAt_some {a : Option Addr} {c n E sz : Nat} {xs : List Value} (h : ownsAt w E sz (.slice a n c) n xs) : a = none → n = 0 ∧ c = 0 := by
  intro ha; subst ha
  rcases h.2 with ⟨he, hn⟩ | ⟨g, o, cap, cur, he, _⟩
  · simp only [Value.slice.injEq] at he; exact ⟨hn, he.2.2⟩
  · simp at he
theorem odl_form {E : TypeId} {sz n : Nat} {v : Value} {xs : List Value} (h : ownsAt w E sz v n xs) : ∃ a c, v = .slice a n c := by
  rcases h.2 with ⟨rfl, rfl⟩ | ⟨g, o, cap, cur, rfl, _⟩
  · exact ⟨_, _, rfl⟩
  · exact ⟨_, _, rfl⟩
end
section
variable {P : Program} {f : Frm} {T T' : TypeId} {s x y : Operand} {v : Value} {w0 : World} {F : Nat → Prop} {L : List Asrt} {C : World → Prop}
variable {n : Nat} {ops rest : List Oper} {Q : Post} {p : String} {af : Array Edge} {d : Nat}
theorem run_append_in (w : World) (t tx ty e : TypeId) (i : TypeInfo) (ht : P.underlying t = some (.slice e)) (hi : P.info? e = some i) (b off sLen sCap : Nat) (cur : Array Value) (x : Value) (n : Nat) (news : List Value) (hs : Src P i.size tx x n news w)
    (hg : w.heap[b]? = some (.cells cur e (0, 0))) (hroom : sLen + n ≤ sCap) (hfit : off + sLen * i.size + news.length ≤ cur.size) :
    (Builtin.append_ #[t, tx] ty #[.slice (some ⟨b, off, none⟩) sLen sCap, x]).run P w = .ok (.slice (some ⟨b, off, none⟩) (sLen + n) sCap) (w.setRow b (splice cur.toList (off + sLen * i.size) news).toArray) := by
  have hst := run_storeCells_at P b (off + sLen * i.size) e news 0 cur w hg (by simpa using hfit) hs.one
  simp only [Nat.add_zero] at hst
  rcases hs.kind with ⟨e', hk⟩ | hk <;> simp [Builtin.append_, run_underlying ht, run_underlying hk, sizeOf, typeInfo, hi, hs.len, hroom, hs.cells, Addr.add_lit, hst, splice]
/-- append, as it runs, to a slice of one's own that may begin inside its block. -/
theorem run_append_odl {E : TypeId} {sz by_ : Nat} (h : SliceOf P T E sz by_) (w : World) (ty : TypeId) {n m cx : Nat} {ax : Option Addr} {xs news : List Value} (hown : ownsAt w E sz v n xs)
    (hrd : Rd w ax news) (hnone : ax = none → m = 0 ∧ cx = 0) (hl : news.length = m * sz) (h1 : news.all Value.oneCell' = true) (hbytes : (n + m) * by_ ≤ 140737488355328) (hmax : n + m ≤ maxLen) :
    ∃ v' w', (Builtin.append_ #[T, T] ty #[v, .slice ax m cx]).run P w = .ok v' w' ∧ ownsAt w' E sz v' (n + m) (xs ++ news) ∧ w.grownBy w' v.ownBlock ∧
      (∀ k, v'.ownBlock = some k → v.ownBlock = some k ∨ (w.heap.size ≤ k ∧ k < w'.heap.size)) := by
  rcases hown.2 with ⟨rfl, rfl⟩ | ⟨g, o, cap, cur, rfl, hg, hnc, hcm, hcs, htake⟩
  · have hx : xs = [] := List.eq_nil_of_length_eq_zero (by simpa using hown.1)
    subst hx
    obtain ⟨v', w', a1, a2, a3, _, a5⟩ := run_append_any (P := P) h w ty (v := .slice none 0 0) (n := 0) (World.ownsRow_nil w 0 E sz) hrd hnone hl h1 hbytes hmax
    exact ⟨v', w', a1, ownsAt_of a2, a3, a5⟩
  · have hinf := h.inf
    obtain ⟨z, hz, hzs⟩ := h.zero
    cases hi : P.info? E with
    | none => simp [hi] at hinf
    | some inf =>
      simp only [hi, Option.map_some, Option.some.injEq, Prod.mk.injEq] at hinf
      simp only [hi, Option.bind_some] at hz
      obtain ⟨rfl, rfl⟩ := hinf
      have h1' : ∀ u ∈ news, u.oneCell' = true := fun u hu => List.all_eq_true.1 h1 u hu
      have hsrc : Src P inf.size T (.slice ax m cx) m news w := by
        cases ax with
        | none =>
          obtain ⟨rfl, rfl⟩ := hnone rfl
          have hn : news = [] := List.eq_nil_of_length_eq_zero (by simpa using hl)
          subst hn
          exact Src.ofNil w h.und 0
        | some ad =>
          exact Src.ofSlice w h.und ad m cx news hl (fun j u hj => by obtain ⟨ad', ha', hc⟩ := hrd j u hj; cases ha'; exact hc) h1'
      have hlen : (xs ++ news).length = (n + m) * inf.size := by rw [List.length_append, hown.1, hl, Nat.add_mul]
      by_cases hroom : n + m ≤ cap
      · have hm : n * inf.size + m * inf.size ≤ cap * inf.size := by rw [← Nat.add_mul]; exact Nat.mul_le_mul_right _ hroom
        have hr := run_append_in w T T ty E inf h.und hi g o n cap cur (.slice ax m cx) m news hsrc hg hroom (by omega)
        refine ⟨_, _, hr, ⟨hlen, .inr ⟨g, o, cap, _, rfl, setRow_heap w g cur _ E _ hg, hroom, hcm, ?_, ?_⟩⟩, ⟨rfl, rfl, rfl, by simp, fun k _ hk => setRow_other w g k _ (fun e => hk (by simp [Value.ownBlock, e]))⟩, fun k hk => .inl hk⟩
        · simp only [splice, List.size_toArray, List.length_append, List.length_take, List.length_drop, Array.length_toList]
          omega
        · have e1 : (splice cur.toList (o + n * inf.size) news).drop o = (cur.toList.drop o).take (n * inf.size) ++ news ++ cur.toList.drop (o + n * inf.size + news.length) := by
            unfold splice
            rw [List.append_assoc, List.drop_append, List.drop_take, List.length_take, Array.length_toList]
            rw [show o + n * inf.size - o = n * inf.size by omega, show o - min (o + n * inf.size) cur.size = 0 by omega, List.drop_zero, List.append_assoc]
          show ((splice cur.toList (o + n * inf.size) news).drop o).take ((n + m) * inf.size) = xs ++ news
          rw [e1, htake, ← hlen]
          exact List.take_left
      · have hx63 : n + m ≤ 9223372036854775807 := by simp only [maxLen] at hmax; omega
        have holds : ∀ j u, xs[j]? = some u → w.drew.cell? ((⟨g, o, none⟩ : Addr).add j) = some u := fun j u hj => by
          obtain ⟨ad, he, hc⟩ := ownsAt_rd hown j u hj
          cases he; exact hc
        have hr := run_append_grow_src (P := P) w T T ty E inf z h.und hi hz (some ⟨g, o, none⟩) n cap xs (run_firstCells_some w.drew inf.size n ⟨g, o, none⟩ n cap xs hown.1 holds) (.slice ax m cx) m news hsrc (by omega) (by omega) (growslice_fits (by omega) hbytes)
        have hge := grownCap_ge w (n + m) cap E
        have hcm2 : grownCap w (n + m) cap E ≤ maxLen := grownCap_le_maxLen w (n + m) cap E hmax
        refine ⟨_, _, hr, ⟨hlen, .inr ⟨w.heap.size, 0, _, _, rfl, heap_alloc_new w.drew _, hge, hcm2, ?_, ?_⟩⟩, ⟨rfl, rfl, rfl, by simp, fun k hk _ => by first | exact heap_alloc_old w.drew _ hk | exact heap_alloc_old w.drew _ k hk⟩, ?_⟩
        · simp only [Array.size_append, List.size_toArray, size_zeroCells, hzs, hlen, Nat.zero_add, ← Nat.add_mul]
          exact Nat.le_of_eq (congrArg (· * _) (by omega))
        · simp only [Array.toList_append, List.drop_zero]
          rw [← hlen]
          exact List.take_left
        · intro k hk
          simp only [Value.ownBlock, Option.some.injEq] at hk
          subst hk
          exact .inr ⟨Nat.le_refl _, by simp⟩
/-- append to a slice of one's own that may begin inside its block. -/
theorem LR.append_odl {E : TypeId} {sz by_ k c m cx : Nat} {a ax : Option Addr} {xs news : List Value} {L' : Option Addr → Nat → List Asrt} [h : SliceOf P T E sz by_]
    (hs : f.ev s = .slice a k c) (hx : f.ev x = .slice ax m cx) (hsel : ∀ a' c', Sel L (odl (.slice a k c) E sz k xs) (odl (.slice a' (k + m) c') E sz (k + m) (xs ++ news)) (L' a' c'))
    (hrd : ∀ w, St w0 F L w → Rd w ax news) (hnone : ax = none → m = 0 ∧ cx = 0) (hl : news.length = m * sz) (h1 : news.all Value.oneCell' = true) (hbytes : (k + m) * by_ ≤ 140737488355328) (hmax : k + m ≤ maxLen) (hd : Nat.blt d n = true)
    (kk : ∀ a' c', LR false P n ops rest Q (upd f d (.slice a' (k + m) c')) (St w0 F (L' a' c'))) :
    LR false P n ops (⟨some d, .call ⟨.builtin .append, [s, x].toArray, [T, T].toArray⟩, T', p, af, none⟩ :: rest) Q f (St w0 F L) := by
  intro w hw b hb
  refine wpList_plain rfl fun K hK => ?_
  have hown : ownsAt w E sz (.slice a k c) k xs := hw.holds _ (hsel none 0).mem
  obtain ⟨v', w', hr, ho, hg, hblk⟩ := run_append_odl (P := P) h w T' hown (hrd w hw) hnone hl h1 hbytes hmax
  obtain ⟨a', c', rfl⟩ := odl_form ho
  have hr' := run_builtin_append (P := P) (T' := T') (dst := some d) (p := p) (af := af) (g := none) hs hx hr
  rw [← hb.eval] at hr'
  simp only [Oper.wp, hr', Oper.upon_value]
  refine hK _ _ (kk a' c' w' ?_ _ (hb.put _ hd))
  exact hw.turn (hsel a' c') rfl (keep_of_grown hg fun k hk => hk) ho (fun k hk => hblk k hk) (odl.dep _ _ _ _ _)
end
/-! ### bundles, joined -/
section
variable {α : Type} {f : α → Asrt} {w0 w : World} {F : Nat → Prop} {R : List Asrt} {x : α} {l r : List α}
theorem St.bun_append (hd : ∀ x, (f x).dep) (h : St w0 F (bun f l :: bun f r :: R) w) : St w0 F (bun f (l ++ r) :: R) w := by
  obtain ⟨b1, b2, b3⟩ : (bun f l).holds w := h.g0
  obtain ⟨c1, c2, c3⟩ : (bun f r).holds w := h.g1
  have hdis := (List.pairwise_cons.1 h.dis).1 (bun f r) (by simp) rfl
  refine h.merge rfl rfl ⟨?_, ?_, ?_⟩ ?_ (bun_dep hd _)
  · intro y hy
    rcases List.mem_append.1 hy with hy | hy
    · exact b1 y hy
    · exact c1 y hy
  · exact List.pairwise_append.2 ⟨b2, c2, fun a ha b hb k hk hk2 => hdis k ⟨a, ha, hk⟩ ⟨b, hb, hk2⟩⟩
  · rintro k ⟨y, hy, hk⟩
    rcases List.mem_append.1 hy with hy | hy
    · exact b3 k ⟨y, hy, hk⟩
    · exact c3 k ⟨y, hy, hk⟩
  · rintro k ⟨y, hy, hk⟩
    rcases List.mem_append.1 hy with hy | hy
    · exact .inl ⟨y, hy, hk⟩
    · exact .inr ⟨y, hy, hk⟩
end
end Go.Hb
