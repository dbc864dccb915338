/-
  What is sent again: sets of numbers as bits; numbers of a window.
-/
import Derived.Test.YtgblmkpfkcibiaaRSMM2
import Derived.Deep.AppendSrc
import Derived.Lib.SliceRun
import Derived.Shelf.Sort.Plain
import Derived.Ground.Names2Prog
import Derived.Shelf.Slices.CompactI
import Derived.Shelf.Slices.In.SortNone
import Derived.Test.YtgblmkpfkcibiaaProg
import Derived.Sort.OwnSortedInts
import Derived.Shelf.SlGeneric
import Derived.Shelf.SlIterI.Sorted
import Derived.Shelf.SlIterI.Collect
import Derived.Ground.GgzProg

set_option linter.unusedSimpArgs false
set_option linter.unusedVariables false
namespace Go.Hb
section
variable {w0 w : World} {F : Nat → Prop} {L L' : List Asrt}
def ownsAt (w : World) (E : TypeId) (sz : Nat) (v : Value) (n : Nat) (xs : List Value) : Prop :=
  xs.length = n * sz ∧ ((v = .slice none 0 0 ∧ n = 0) ∨
   ∃ g o cap cur, v = .slice (some ⟨g, o, none⟩) n cap ∧ w.heap[g]? = some (.cells cur E (0, 0)) ∧ n ≤ cap ∧ cap ≤ maxLen ∧ o + cap * sz ≤ cur.size ∧ (cur.toList.drop o).take (n * sz) = xs)
/-- The slice v of n elements is one's own, wherever it begins. -/
def odl (v : Value) (E : TypeId) (sz n : Nat) (xs : List Value) : Asrt := .ex (fun k => v.ownBlock = some k) (fun w => ownsAt w E sz v n xs)
theorem odl.dep (v : Value) (E : TypeId) (sz n : Nat) (xs : List Value) : (odl v E sz n xs).dep := by
  intro w w' hk h
  refine ⟨h.1, ?_⟩
  rcases h.2 with hn | ⟨g, o, cap, cur, rfl, hg, r⟩
  · exact .inl hn
  · refine .inr ⟨g, o, cap, cur, rfl, ?_, r⟩
    rw [hk g rfl]; exact hg
theorem ownsAt_of {E : TypeId} {sz n base : Nat} {v : Value} {xs : List Value} (h : w.ownsRow base E sz v n xs) : ownsAt w E sz v n xs := by
  refine ⟨h.1, ?_⟩
  rcases h.2 with hn | ⟨g, cap, cur, rfl, hb, hg, h1, h2, h3, h4⟩
  · exact .inl hn
  · exact .inr ⟨g, 0, cap, cur, rfl, hg, h1, h2, by omega, h4⟩
theorem ownsAt_rd {E : TypeId} {sz n c : Nat} {a : Option Addr} {xs : List Value} (h : ownsAt w E sz (.slice a n c) n xs) : Rd w a xs := by
  intro j v hj
  rcases h.2 with ⟨he, hn⟩ | ⟨g, o, cap, cur, he, hg, h1, h2, h3, h4⟩
  · subst hn
    have := h.1
    simp only [Nat.zero_mul] at this
    rw [List.eq_nil_of_length_eq_zero this] at hj; simp at hj
  · simp only [Value.slice.injEq] at he
    obtain ⟨rfl, _, rfl⟩ := he
    refine ⟨_, rfl, ?_⟩
    rw [addr_add, cell_own hg]
    rw [← h4, List.getElem?_take] at hj
    split at hj
    · rw [List.getElem?_drop] at hj
      simpa using hj
    · cases hj
theorem ownsAt_drop {E : TypeId} {sz k c l : Nat} {a : Option Addr} {xs : List Value} (h : ownsAt w E sz (.slice a k c) k xs) (hl : l ≤ k) :
    ownsAt w E sz (.slice (subA a c l sz) (k - l) (c - l)) (k - l) (xs.drop (l * sz)) := by
  refine ⟨by rw [List.length_drop, h.1, Nat.sub_mul], ?_⟩
  rcases h.2 with ⟨he, hn⟩ | ⟨g, o, cap, cur, he, hg, h1, h2, h3, h4⟩
  · simp only [Value.slice.injEq] at he
    obtain ⟨rfl, _, rfl⟩ := he
    subst hn
    left
    refine ⟨?_, by omega⟩
    unfold subA
    simp
  · simp only [Value.slice.injEq] at he
    obtain ⟨rfl, _, rfl⟩ := he
    right
    by_cases hc : c = l
    · refine ⟨g, o, c - l, cur, by simp [subA, hc], hg, by omega, by omega, by rw [hc, Nat.sub_self]; omega, ?_⟩
      rw [show k - l = 0 by omega, Nat.zero_mul, List.take_zero, List.drop_of_length_le (by rw [h.1, show k = l by omega]; exact Nat.le_refl _)]
    · have hm : l * sz + (c - l) * sz = c * sz := by rw [← Nat.add_mul]; congr 1; omega
      refine ⟨g, o + l * sz, c - l, cur, ?_, hg, by omega, by omega, by omega, ?_⟩
      · unfold subA
        rw [if_neg hc]
        show Value.slice (some ((⟨g, o, none⟩ : Addr).add (l * sz))) _ _ = _
        rw [addr_add]
      · rw [← h4, List.drop_take, List.drop_drop, Nat.sub_mul]
theorem St.osl_odl {E : TypeId} {sz n : Nat} {v : Value} {xs : List Value} (h : St w0 F L w) (hs : Sel L (osl v E sz n xs) (odl v E sz n xs) L') : St w0 F L' w :=
  h.turn hs rfl (St.refl w _) (ownsAt_of (h.holds _ hs.mem)) (fun _ hk => .inl hk) (odl.dep _ _ _ _ _)
theorem St.odl_drop {E : TypeId} {sz k c l : Nat} {a : Option Addr} {xs : List Value} (h : St w0 F L w) (hs : Sel L (odl (.slice a k c) E sz k xs) (odl (.slice (subA a c l sz) (k - l) (c - l)) E sz (k - l) (xs.drop (l * sz))) L') (hl : l ≤ k) : St w0 F L' w := by
  refine h.turn hs rfl (St.refl w _) (ownsAt_drop (h.holds _ hs.mem) hl) (fun j hj => .inl ?_) (odl.dep _ _ _ _ _)
  have hj : (Value.slice (subA a c l sz) (k - l) (c - l)).ownBlock = some j := hj
  show (Value.slice a k c).ownBlock = some j
  unfold subA at hj
  split at hj
  · cases a <;> exact hj
  · cases a with
    | none => cases hj
    | some ad =>
      have : (ad.add (l * sz)).block = ad.block := addr_add_block _ _
      simp only [Option.map_some, Value.ownBlock, this] at hj
      exact hj
theorem St.odl_foot {a : Option Addr} {n c : Nat} {E sz : Nat} {xs : List Value} {k : Nat} (h : rdFoot a xs k) : (odl (.slice a n c) E sz n xs).foot k := by
  obtain ⟨_, ad, rfl, rfl⟩ := h; rfl
theorem St.rd_of_odl {n : Nat} {E : TypeId} {sz c : Nat} {a : Option Addr} {xs : List Value} (h : St w0 F L w) (hm : odl (.slice a n c) E sz n xs ∈ L) : Rd w a xs := ownsAt_rd (h.holds _ hm)
theorem ownsAt_some {a : Option Addr} {c n E sz : Nat} {xs : List Value} (h : ownsAt w E sz (.slice a n c) n xs) : a = none → n = 0 ∧ c = 0 := by
  intro ha; subst ha
  rcases h.2 with ⟨he, hn⟩ | ⟨g, o, cap, cur, he, _⟩
  · simp only [Value.slice.injEq] at he; exact ⟨hn, he.2.2⟩
  · simp at he
theorem odl_form {E : TypeId} {sz n : Nat} {v : Value} {xs : List Value} (h : ownsAt w E sz v n xs) : ∃ a c, v = .slice a n c := by
  rcases h.2 with ⟨rfl, rfl⟩ | ⟨g, o, cap, cur, rfl, _⟩
  · exact ⟨_, _, rfl⟩
  · exact ⟨_, _, rfl⟩
end
section
variable {P : Program} {f : Frm} {T T' : TypeId} {s x y : Operand} {v : Value} {w0 : World} {F : Nat → Prop} {L : List Asrt} {C : World → Prop}
variable {n : Nat} {ops rest : List Oper} {Q : Post} {p : String} {af : Array Edge} {d : Nat}
theorem run_append_in (w : World) (t tx ty e : TypeId) (i : TypeInfo) (ht : P.underlying t = some (.slice e)) (hi : P.info? e = some i) (b off sLen sCap : Nat) (cur : Array Value) (x : Value) (n : Nat) (news : List Value) (hs : Src P i.size tx x n news w)
    (hg : w.heap[b]? = some (.cells cur e (0, 0))) (hroom : sLen + n ≤ sCap) (hfit : off + sLen * i.size + news.length ≤ cur.size) :
    (Builtin.append_ #[t, tx] ty #[.slice (some ⟨b, off, none⟩) sLen sCap, x]).run P w = .ok (.slice (some ⟨b, off, none⟩) (sLen + n) sCap) (w.setRow b (splice cur.toList (off + sLen * i.size) news).toArray) := by
  have hst := run_storeCells_at P b (off + sLen * i.size) e news 0 cur w hg (by simpa using hfit) hs.one
  simp only [Nat.add_zero] at hst
  rcases hs.kind with ⟨e', hk⟩ | hk <;> simp [Builtin.append_, run_underlying ht, run_underlying hk, sizeOf, typeInfo, hi, hs.len, hroom, hs.cells, Addr.add_lit, hst, splice]
/-- append, as it runs, to a slice of one's own that may begin inside its block. -/
theorem run_append_odl {E : TypeId} {sz by_ : Nat} (h : SliceOf P T E sz by_) (w : World) (ty : TypeId) {n m cx : Nat} {ax : Option Addr} {xs news : List Value} (hown : ownsAt w E sz v n xs)
    (hrd : Rd w ax news) (hnone : ax = none → m = 0 ∧ cx = 0) (hl : news.length = m * sz) (h1 : news.all Value.oneCell' = true) (hbytes : (n + m) * by_ ≤ 140737488355328) (hmax : n + m ≤ maxLen) :
    ∃ v' w', (Builtin.append_ #[T, T] ty #[v, .slice ax m cx]).run P w = .ok v' w' ∧ ownsAt w' E sz v' (n + m) (xs ++ news) ∧ w.grownBy w' v.ownBlock ∧
      (∀ k, v'.ownBlock = some k → v.ownBlock = some k ∨ (w.heap.size ≤ k ∧ k < w'.heap.size)) := by
  rcases hown.2 with ⟨rfl, rfl⟩ | ⟨g, o, cap, cur, rfl, hg, hnc, hcm, hcs, htake⟩
  · have hx : xs = [] := List.eq_nil_of_length_eq_zero (by simpa using hown.1)
    subst hx
    obtain ⟨v', w', a1, a2, a3, _, a5⟩ := run_append_any (P := P) h w ty (v := .slice none 0 0) (n := 0) (World.ownsRow_nil w 0 E sz) hrd hnone hl h1 hbytes hmax
    exact ⟨v', w', a1, ownsAt_of a2, a3, a5⟩
  · have hinf := h.inf
    obtain ⟨z, hz, hzs⟩ := h.zero
    cases hi : P.info? E with
    | none => simp [hi] at hinf
    | some inf =>
      simp only [hi, Option.map_some, Option.some.injEq, Prod.mk.injEq] at hinf
      simp only [hi, Option.bind_some] at hz
      obtain ⟨rfl, rfl⟩ := hinf
      have h1' : ∀ u ∈ news, u.oneCell' = true := fun u hu => List.all_eq_true.1 h1 u hu
      have hsrc : Src P inf.size T (.slice ax m cx) m news w := by
        cases ax with
        | none =>
          obtain ⟨rfl, rfl⟩ := hnone rfl
          have hn : news = [] := List.eq_nil_of_length_eq_zero (by simpa using hl)
          subst hn
          exact Src.ofNil w h.und 0
        | some ad =>
          exact Src.ofSlice w h.und ad m cx news hl (fun j u hj => by obtain ⟨ad', ha', hc⟩ := hrd j u hj; cases ha'; exact hc) h1'
      have hlen : (xs ++ news).length = (n + m) * inf.size := by rw [List.length_append, hown.1, hl, Nat.add_mul]
      by_cases hroom : n + m ≤ cap
      · have hm : n * inf.size + m * inf.size ≤ cap * inf.size := by rw [← Nat.add_mul]; exact Nat.mul_le_mul_right _ hroom
        have hr := run_append_in w T T ty E inf h.und hi g o n cap cur (.slice ax m cx) m news hsrc hg hroom (by omega)
        refine ⟨_, _, hr, ⟨hlen, .inr ⟨g, o, cap, _, rfl, setRow_heap w g cur _ E _ hg, hroom, hcm, ?_, ?_⟩⟩, ⟨rfl, rfl, rfl, by simp, fun k _ hk => setRow_other w g k _ (fun e => hk (by simp [Value.ownBlock, e]))⟩, fun k hk => .inl hk⟩
        · simp only [splice, List.size_toArray, List.length_append, List.length_take, List.length_drop, Array.length_toList]
          omega
        · have e1 : (splice cur.toList (o + n * inf.size) news).drop o = (cur.toList.drop o).take (n * inf.size) ++ news ++ cur.toList.drop (o + n * inf.size + news.length) := by
            unfold splice
            rw [List.append_assoc, List.drop_append, List.drop_take, List.length_take, Array.length_toList]
            rw [show o + n * inf.size - o = n * inf.size by omega, show o - min (o + n * inf.size) cur.size = 0 by omega, List.drop_zero, List.append_assoc]
          show ((splice cur.toList (o + n * inf.size) news).drop o).take ((n + m) * inf.size) = xs ++ news
          rw [e1, htake, ← hlen]
          exact List.take_left
      · have hx63 : n + m ≤ 9223372036854775807 := by simp only [maxLen] at hmax; omega
        have holds : ∀ j u, xs[j]? = some u → w.drew.cell? ((⟨g, o, none⟩ : Addr).add j) = some u := fun j u hj => by
          obtain ⟨ad, he, hc⟩ := ownsAt_rd hown j u hj
          cases he; exact hc
        have hr := run_append_grow_src (P := P) w T T ty E inf z h.und hi hz (some ⟨g, o, none⟩) n cap xs (run_firstCells_some w.drew inf.size n ⟨g, o, none⟩ n cap xs hown.1 holds) (.slice ax m cx) m news hsrc (by omega) (by omega) (growslice_fits (by omega) hbytes)
        have hge := grownCap_ge w (n + m) cap E
        have hcm2 : grownCap w (n + m) cap E ≤ maxLen := grownCap_le_maxLen w (n + m) cap E hmax
        refine ⟨_, _, hr, ⟨hlen, .inr ⟨w.heap.size, 0, _, _, rfl, heap_alloc_new w.drew _, hge, hcm2, ?_, ?_⟩⟩, ⟨rfl, rfl, rfl, by simp, fun k hk _ => by first | exact heap_alloc_old w.drew _ hk | exact heap_alloc_old w.drew _ k hk⟩, ?_⟩
        · simp only [Array.size_append, List.size_toArray, size_zeroCells, hzs, hlen, Nat.zero_add, ← Nat.add_mul]
          exact Nat.le_of_eq (congrArg (· * _) (by omega))
        · simp only [Array.toList_append, List.drop_zero]
          rw [← hlen]
          exact List.take_left
        · intro k hk
          simp only [Value.ownBlock, Option.some.injEq] at hk
          subst hk
          exact .inr ⟨Nat.le_refl _, by simp⟩
/-- append to a slice of one's own that may begin inside its block. -/
theorem LR.append_odl {E : TypeId} {sz by_ k c m cx : Nat} {a ax : Option Addr} {xs news : List Value} {L' : Option Addr → Nat → List Asrt} [h : SliceOf P T E sz by_]
    (hs : f.ev s = .slice a k c) (hx : f.ev x = .slice ax m cx) (hsel : ∀ a' c', Sel L (odl (.slice a k c) E sz k xs) (odl (.slice a' (k + m) c') E sz (k + m) (xs ++ news)) (L' a' c'))
    (hrd : ∀ w, St w0 F L w → Rd w ax news) (hnone : ax = none → m = 0 ∧ cx = 0) (hl : news.length = m * sz) (h1 : news.all Value.oneCell' = true) (hbytes : (k + m) * by_ ≤ 140737488355328) (hmax : k + m ≤ maxLen) (hd : Nat.blt d n = true)
    (kk : ∀ a' c', LR false P n ops rest Q (upd f d (.slice a' (k + m) c')) (St w0 F (L' a' c'))) :
    LR false P n ops (⟨some d, .call ⟨.builtin .append, [s, x].toArray, [T, T].toArray⟩, T', p, af, none⟩ :: rest) Q f (St w0 F L) := by
  intro w hw b hb
  refine wpList_plain rfl fun K hK => ?_
  have hown : ownsAt w E sz (.slice a k c) k xs := hw.holds _ (hsel none 0).mem
  obtain ⟨v', w', hr, ho, hg, hblk⟩ := run_append_odl (P := P) h w T' hown (hrd w hw) hnone hl h1 hbytes hmax
  obtain ⟨a', c', rfl⟩ := odl_form ho
  have hr' := run_builtin_append (P := P) (T' := T') (dst := some d) (p := p) (af := af) (g := none) hs hx hr
  rw [← hb.eval] at hr'
  simp only [Oper.wp, hr', Oper.upon_value]
  refine hK _ _ (kk a' c' w' ?_ _ (hb.put _ hd))
  exact hw.turn (hsel a' c') rfl (keep_of_grown hg fun k hk => hk) ho (fun k hk => hblk k hk) (odl.dep _ _ _ _ _)
end
/-! ### bundles, joined -/
section
variable {α : Type} {f : α → Asrt} {w0 w : World} {F : Nat → Prop} {R : List Asrt} {x : α} {l r : List α}
theorem St.bun_append (hd : ∀ x, (f x).dep) (h : St w0 F (bun f l :: bun f r :: R) w) : St w0 F (bun f (l ++ r) :: R) w := by
  obtain ⟨b1, b2, b3⟩ : (bun f l).holds w := h.g0
  obtain ⟨c1, c2, c3⟩ : (bun f r).holds w := h.g1
  have hdis := (List.pairwise_cons.1 h.dis).1 (bun f r) (by simp) rfl
  refine h.merge rfl rfl ⟨?_, ?_, ?_⟩ ?_ (bun_dep hd _)
  · intro y hy
    rcases List.mem_append.1 hy with hy | hy
    · exact b1 y hy
    · exact c1 y hy
  · exact List.pairwise_append.2 ⟨b2, c2, fun a ha b hb k hk hk2 => hdis k ⟨a, ha, hk⟩ ⟨b, hb, hk2⟩⟩
  · rintro k ⟨y, hy, hk⟩
    rcases List.mem_append.1 hy with hy | hy
    · exact b3 k ⟨y, hy, hk⟩
    · exact c3 k ⟨y, hy, hk⟩
  · rintro k ⟨y, hy, hk⟩
    rcases List.mem_append.1 hy with hy | hy
    · exact .inl ⟨y, hy, hk⟩
    · exact .inr ⟨y, hy, hk⟩
theorem St.bun_perm (hd : ∀ x, (f x).dep) (hp : l.Perm r) (h : St w0 F (bun f l :: R) w) : St w0 F (bun f r :: R) w := by
  obtain ⟨b1, b2, b3⟩ : (bun f l).holds w := h.g0
  refine h.turn (sH _ _ _) rfl (St.refl w _) ⟨fun x hx => b1 x (hp.mem_iff.2 hx), (hp.pairwise_iff (fun {x y} hxy k hk hk2 => hxy k hk2 hk)).1 b2, fun k ⟨x, hx, hk⟩ => b3 k ⟨x, hp.mem_iff.2 hx, hk⟩⟩ (fun k ⟨x, hx, hk⟩ => .inl ⟨x, hp.mem_iff.2 hx, hk⟩) (bun_dep hd _)
theorem St.bun_pick {q : List α} (hd : ∀ x, (f x).dep) (h : St w0 F (bun f (l ++ x :: q) :: R) w) : St w0 F (f x :: bun f (l ++ q) :: R) w := St.bun_head hd (St.bun_perm hd List.perm_middle h)
theorem St.bun_put {q : List α} (hd : ∀ x, (f x).dep) (he : ∀ x, (f x).excl = true) (h : St w0 F (f x :: bun f (l ++ q) :: R) w) : St w0 F (bun f (l ++ x :: q) :: R) w :=
  St.bun_perm hd ((List.perm_append_singleton x (l ++ q)).trans List.perm_middle.symm) (St.bun_snoc hd he h)
end
/-! ### stores into a slice that may begin inside its block -/
theorem splice_take {D vs : List Value} {i N : Nat} (h : i + vs.length ≤ N) (hN : N ≤ D.length) : (splice D i vs).take N = splice (D.take N) i vs := by
  have e2 : splice D i vs = splice (D.take N) i vs ++ D.drop N := by
    have e3 : D = D.take N ++ D.drop N := (List.take_append_drop N D).symm
    have hl : (D.take N).length = N := by simp; omega
    conv => lhs; rw [e3]
    unfold splice
    rw [List.take_append_of_le_length (by omega), List.drop_append_of_le_length (by omega)]
    simp
  have e4 : (splice (D.take N) i vs).length = N := by simp [splice]; omega
  rw [e2, List.take_append_of_le_length (by omega), List.take_of_length_le (by omega)]
theorem splice_drop {D vs : List Value} {o i : Nat} (h : o + i ≤ D.length) : (splice D (o + i) vs).drop o = splice (D.drop o) i vs := by
  unfold splice
  rw [List.append_assoc, List.drop_append, List.drop_take, List.length_take, show o - min (o + i) D.length = 0 by omega, List.drop_zero, show o + i - o = i by omega, List.drop_drop, List.append_assoc, Nat.add_assoc]
theorem Stores.odl {P : Program} {T : TypeId} {q b o i n c : Nat} {v : Value} {vs xs : List Value} {E : TypeId} {sz : Nat} (h : Sz P T q) (hv : v.cells = vs.toArray) (h1 : vs.all Value.oneCell' = true) (hm : vs.length = q) (hb : i + vs.length ≤ xs.length) :
    Stores P T ⟨b, o + i, none⟩ v (odl (.slice (some ⟨b, o, none⟩) n c) E sz n xs) (odl (.slice (some ⟨b, o, none⟩) n c) E sz n (splice xs i vs)) := by
  intro w hw
  have hw' : ownsAt w E sz (.slice (some ⟨b, o, none⟩) n c) n xs := hw
  obtain ⟨hl, hr⟩ := hw'
  rcases hr with ⟨he, _⟩ | ⟨g, o', cap, cur, he, hg, hnc, hcm, hcs, htake⟩
  · cases he
  simp only [Value.slice.injEq, Option.some.injEq, Addr.mk.injEq, and_true, true_and] at he
  obtain ⟨⟨rfl, rfl⟩, rfl⟩ := he
  have hmul : n * sz ≤ c * sz := Nat.mul_le_mul_right _ hnc
  have hg' : w.heap[b]? = some (.cells cur.toList.toArray E (0, 0)) := by simpa using hg
  have hsz : cur.toList.length = cur.size := Array.length_toList
  have hrun := run_storeVar (P := P) h w b (o + i) v vs cur.toList E hv hm hg' (by omega) h1
  refine ⟨_, hrun, ⟨Keep.setRow w b _ _ E hg' rfl, ?_, fun k hk => .inl hk⟩⟩
  refine ⟨by simp [splice]; omega, .inr ⟨b, o, c, (splice cur.toList (o + i) vs).toArray, rfl, setRow_heap w b _ _ E (0, 0) hg', hnc, hcm, ?_, ?_⟩⟩
  · simp [splice]; omega
  · show ((splice cur.toList (o + i) vs).drop o).take (n * sz) = splice xs i vs
    rw [splice_drop (by omega), splice_take (by omega) (by simp; omega), htake]
end Go.Hb

namespace Go.Hb
section
variable {P : Program} {md : Region.Mode} {ops : Array Oper} {Q Q' : Exit → Act → World → Prop} {z : Nat}
theorem oper_only (hN : ∀ e a w, Q' e a w → e = .normal) {o : Oper} {a : Act} {w : World} {K K' : Act → World → Prop} (hk : ∀ a w, K a w → K' a w) (h : o.wp P a w K Q') : o.wp P a w K' Q := by
  unfold Oper.wp at *
  generalize (execOp a.eval o).run P w = r at *
  cases r with
  | ok nx w' =>
    cases nx <;> simp only [Oper.upon] at h ⊢
    case value => exact hk _ _ h
    case skip => exact hk _ _ h
    case defer => exact hk _ _ h
    case enter g args =>
      refine Calls.mono h fun e w'' he => ?_
      cases e with
      | returned u => exact hk _ _ he
      | panicked c => cases hN _ _ _ he
      | outgrown => obtain ⟨_, _, he⟩ := he; cases hN _ _ _ he
    case row => exact Rows.mono h (fun _ _ he => hk _ _ he)
  | halt x w' =>
    cases x <;> simp only [Oper.upon] at h ⊢
    case panic => cases hN _ _ _ h
theorem wpOp_only (hN : ∀ e a w, Q' e a w → e = .normal) {i : Nat} {a : Act} {w : World} {K K' : Act → World → Prop} (hk : ∀ a w, K a w → K' a w) (h : wpOp P ops Q' i K a w) : wpOp P ops Q i K' a w := by
  unfold wpOp at *
  cases ho : ops[i]? with
  | none => simp only [ho] at h; exact hk _ _ h
  | some o =>
    simp only [ho] at h ⊢
    split
    · rename_i hw
      rw [if_pos hw] at h
      rcases h with h | ⟨_, a', w', he⟩
      · exact .inl (oper_only hN hk h)
      · cases hN _ _ _ he
    · rename_i hw
      rw [if_neg hw] at h
      exact hk _ _ h
/-- Every other operation is waited for, and nothing waits for z: so z comes last. -/
structure Sink (md : Region.Mode) (ops : Array Oper) (z : Nat) : Prop where
  deps : ∀ (j : Nat) (o : Oper), ops[j]? = some o → ∀ e ∈ o.after, Region.binds md e = true → e.on ≠ z ∧ e.on < j
  all : ∀ i, i < ops.size → i ≠ z → ∃ (j : Nat) (o : Oper), ops[j]? = some o ∧ ∃ e ∈ o.after, Region.binds md e = true ∧ e.on = i
  lt : z < ops.size
theorem getD_tf {listed : Array Bool} {i : Nat} (h : listed.getD i false = true) : listed.getD i true = true := by
  rcases Nat.lt_or_ge i listed.size with h' | h'
  · simp [h'] at h ⊢; exact h
  · simp [Array.getElem?_eq_none h'] at h
theorem getD_set_self {listed : Array Bool} {i : Nat} (h : i < listed.size) : (listed.setIfInBounds i true).getD i true = true := by simp [h]
def Closed (md : Region.Mode) (ops : Array Oper) (z : Nat) (listed : Array Bool) : Prop := ∀ (j : Nat) (o : Oper), ops[j]? = some o → j ≠ z → listed.getD j false = true → ∀ e ∈ o.after, Region.binds md e = true → listed.getD e.on false = true
theorem Sink.before (hs : Sink md ops z) {listed : Array Bool} (hc : Closed md ops z listed) (hz : z ∈ Region.ready md ops listed) : ∀ d k, ops.size - k ≤ d → k < ops.size → k ≠ z → listed.getD k false = true := by
  intro d
  induction d with
  | zero => intro k hd hk; omega
  | succ d ih =>
    intro k hd hk hkz
    obtain ⟨j, o, ho, e, he, hb, rfl⟩ := hs.all k hk hkz
    have hj : j < ops.size := (Array.getElem?_eq_some_iff.1 ho).1
    have hlt := (hs.deps j o ho e he hb).2
    by_cases hjz : j = z
    · subst hjz
      obtain ⟨_, o', ho', hd'⟩ := mem_ready.1 hz
      rw [ho] at ho'; cases ho'
      exact hd' e he hb
    · exact hc j o ho hjz (ih j (by omega) hj hjz) e he hb
theorem any_ready (hs : Sink md ops z) {listed : Array Bool} : ∀ i, i ≠ z → (i ∈ Region.ready md ops listed ↔ i ∈ Region.ready md ops (listed.setIfInBounds z true)) := by
  intro i hi
  rw [mem_ready, mem_ready]
  constructor
  · rintro ⟨h1, o, ho, h2⟩
    exact ⟨by rw [getD_set_ne true (Ne.symm hi)]; exact h1, o, ho, fun e he hb => getD_set_true (h2 e he hb)⟩
  · rintro ⟨h1, o, ho, h2⟩
    refine ⟨by rw [getD_set_ne true (Ne.symm hi)] at h1; exact h1, o, ho, fun e he hb => ?_⟩
    have := h2 e he hb
    rwa [getD_set_ne false (Ne.symm (hs.deps i o ho e he hb).1)] at this
theorem any_sink_end (hs : Sink md ops z) (hN : ∀ e a w, Q' e a w → e = .normal) (hK : ∀ a w, Q' .normal a w → wpOp P ops Q z (Q .normal) a w) {listed : Array Bool} {a : Act} {w : World} (hsz : listed.size = ops.size) (hlz : listed.getD z true = false)
    (hr : Region.ready md ops (listed.setIfInBounds z true) = []) (hq : Q' .normal a w) (fuel : Nat) : wpAny P md ops Q (fuel + 1) listed a w := by
  have hR := any_ready hs (listed := listed)
  have hall : ∀ k i, i < k → i < ops.size → i ≠ z → listed.getD i false = true := by
    intro k
    induction k with
    | zero => intro i hi; omega
    | succ k ih =>
      intro i hik hi hiz
      cases hx : listed.getD i false with
      | true => rfl
      | false =>
        have : i ∈ Region.ready md ops (listed.setIfInBounds z true) := by
          rw [← hR i hiz, mem_ready]
          have hi' : i < listed.size := hsz ▸ hi
          refine ⟨by simp [hi'] at hx ⊢; exact hx, ops[i], by simp [hi], fun e he hb => ?_⟩
          have hd := hs.deps i ops[i] (by simp [hi]) e he hb
          exact ih e.on (by omega) (by omega) hd.1
        rw [hr] at this; cases this
  have hz : z ∈ Region.ready md ops listed := by
    rw [mem_ready]
    refine ⟨hlz, ops[z]'hs.lt, by simp [hs.lt], fun e he hb => ?_⟩
    have hd := hs.deps z (ops[z]'hs.lt) (by simp [hs.lt]) e he hb
    exact hall ops.size e.on (by have := hs.lt; omega) (by have := hs.lt; omega) hd.1
  refine ⟨fun h0 => (by rw [h0] at hz; cases hz), fun i hi => ?_⟩
  have hiz : i = z := Classical.byContradiction fun hne => by
    have := (hR i hne).1 hi
    rw [hr] at this; cases this
  subst hiz
  refine wpOp_mono (fun a' w' hq' => ?_) (hK a w hq)
  cases fuel with
  | zero => exact ⟨hr, hq'⟩
  | succ f => exact ⟨fun _ => hq', by rw [hr]; simp⟩
theorem any_sink (hs : Sink md ops z) (hN : ∀ e a w, Q' e a w → e = .normal) (hK : ∀ a w, Q' .normal a w → wpOp P ops Q z (Q .normal) a w) : ∀ (fuel : Nat) (listed : Array Bool) (a : Act) (w : World), listed.size = ops.size → listed.getD z true = false → Closed md ops z listed →
    wpAny P md ops Q' fuel (listed.setIfInBounds z true) a w → wpAny P md ops Q (fuel + 1) listed a w := by
  intro fuel
  induction fuel with
  | zero =>
    intro listed a w hsz hlz hcl h
    exact any_sink_end hs hN hK hsz hlz h.1 h.2 0
  | succ fuel ih =>
    intro listed a w hsz hlz hcl h
    by_cases hr : Region.ready md ops (listed.setIfInBounds z true) = []
    · exact any_sink_end hs hN hK hsz hlz hr (h.1 hr) _
    · obtain ⟨j, hj⟩ := List.exists_mem_of_ne_nil _ hr
      have hjz : j ≠ z := by
        rintro rfl
        have := (mem_ready.1 hj).1
        rw [getD_set_self (hsz ▸ hs.lt)] at this
        cases this
      have hR := any_ready hs (listed := listed)
      refine ⟨fun h0 => ?_, fun i hi => ?_⟩
      · have := (hR j hjz).2 hj
        rw [h0] at this; cases this
      · have hiz : i ≠ z := by
          rintro rfl
          obtain ⟨hj1, oj, hoj, _⟩ := mem_ready.1 hj
          have hjlt : j < ops.size := (Array.getElem?_eq_some_iff.1 hoj).1
          have := getD_tf (hs.before hcl hi ops.size j (by omega) hjlt hjz)
          rw [getD_set_ne true (Ne.symm hjz)] at hj1
          rw [this] at hj1; cases hj1
        have hcl2 : Closed md ops z (listed.setIfInBounds i true) := by
          intro j o ho hjz hj e he hb
          by_cases hji : j = i
          · subst hji
            obtain ⟨_, o', ho', hd'⟩ := mem_ready.1 hi
            rw [ho] at ho'; cases ho'
            exact getD_set_true (hd' e he hb)
          · rw [getD_set_ne false (Ne.symm hji)] at hj
            exact getD_set_true (hcl j o ho hjz hj e he hb)
        refine wpOp_only hN (fun a' w' h' => ?_) (h.2 i ((hR i hiz).1 hi))
        refine ih _ a' w' (by simpa using hsz) (by rw [getD_set_ne true hiz]; exact hlz) hcl2 ?_
        have e : (listed.setIfInBounds i true).setIfInBounds z true = (listed.setIfInBounds z true).setIfInBounds i true := by
          exact Array.setIfInBounds_comm true true hiz
        rw [e]; exact h'
def sinkB (ops : List Oper) (z : Nat) : Bool :=
  Nat.blt z ops.length && (List.range ops.length).all fun j => match ops[j]? with
    | some o => (o.after.all fun e => !Region.binds .any e || (!Nat.beq e.on z && Nat.blt e.on j)) && (Nat.beq j z || (List.range ops.length).any fun k => Region.waitsFor .any ops.toArray k j)
    | none => false
theorem sinkB_sound {ops : List Oper} (h : sinkB ops z = true) : Sink .any ops.toArray z := by
  unfold sinkB at h
  simp only [Bool.and_eq_true] at h
  obtain ⟨h1, h2⟩ := h
  have key : ∀ j o, ops[j]? = some o → (∀ e ∈ o.after, Region.binds .any e = true → e.on ≠ z ∧ e.on < j) ∧ (j = z ∨ ∃ k, Region.waitsFor .any ops.toArray k j = true) := by
    intro j o ho
    have hj : j < ops.length := (List.getElem?_eq_some_iff.1 ho).1
    have := List.all_eq_true.1 h2 j (List.mem_range.2 hj)
    rw [ho] at this
    simp only [Bool.and_eq_true, Bool.or_eq_true] at this
    refine ⟨fun e he hb => ?_, this.2.imp Nat.eq_of_beq_eq_true (fun h => by obtain ⟨k, _, hk⟩ := List.any_eq_true.1 h; exact ⟨k, hk⟩)⟩
    have := (Array.all_eq_true_iff_forall_mem.1 this.1) e he
    simp only [hb, Bool.not_true, Bool.false_or, Bool.and_eq_true, Bool.not_eq_true'] at this
    exact ⟨fun e2 => by rw [e2] at this; simp at this, by simpa using this.2⟩
  refine ⟨fun j o ho => (key j o (by simpa using ho)).1, fun i hi hne => ?_, by simpa using h1⟩
  have hi' : i < ops.length := by simpa using hi
  rcases (key i ops[i] (by simp [hi'])).2 with e | e
  · exact (hne e).elim
  · obtain ⟨k, e⟩ := e
    obtain ⟨oj, hoj, e, he, hb, hon⟩ := Region.waitsFor_spec e
    exact ⟨k, oj, hoj, e, he, hb, hon⟩
end
section
variable {P : Program} {n : Nat} {ops : List Oper} {Q : Post} {f : Frm} {C : World → Prop}
def zpost (P : Program) (n : Nat) (ops : List Oper) (oz : Oper) (Q : Post) : Post := fun e f w => e = .normal ∧ LW P n ops [oz] Q f (fun u => u = w)
/-- A drawn region whose operation z waits for all others: these first, with S held among them, then z. -/
theorem CW.reg_sink (z : Nat) {id : Nat} {oz : Oper} (S : World → Prop) [hm : Mixed P] [hc : Drawn C] (hz : ops[z]? = some oz) (hB : sinkB ops z = true) (h : DW P n ops (zpost P n ops oz Q) [z] S f C) : CW P n (.region id ops.toArray true) Q f C := by
  intro w hw a ha
  have h1 := wpAny_of_held _ _ _ _ (h _ (hc.drew w hw) a ha)
  have hs := sinkB_sound hB
  have hlt : z < ops.length := by simpa using hs.lt
  refine wp_region_any hm.mixed ?_
  have h2 := any_sink (Q' := lift n (only fun f w => zpost P n ops oz Q .normal f w)) (Q := lift n Q) hs (fun e a w ⟨_, _, he, _⟩ => he) (fun a w ⟨f, hf, _, _, hl⟩ => by
    have h3 := hl w rfl a hf
    have ho : ops.toArray[z]? = some oz := by simpa using hz
    unfold wpOp
    simp only [ho]
    simp only [wpList] at h3
    exact h3) (ops.length - 1) (Array.replicate ops.length false) a _ (by simp) (by simp [hlt]) (fun j o ho _ hj => by
      have hj' : j < ops.length := by simpa using (Array.getElem?_eq_some_iff.1 ho).1
      simp [hj'] at hj) (by simpa [lst] using h1)
  have e : ops.toArray.size = ops.length - 1 + 1 := by simp; omega
  rw [e]
  have e2 : (Array.replicate (ops.length - 1 + 1) false) = Array.replicate ops.length false := by congr 1; omega
  rw [e2]
  exact h2
theorem CW.reg_sinkC (z : Nat) {id : Nat} {oz : Oper} [hm : Mixed P] [hc : Drawn C] (hz : ops[z]? = some oz) (hB : sinkB ops z = true) (h : DW P n ops (zpost P n ops oz Q) [z] C f C) : CW P n (.region id ops.toArray true) Q f C := CW.reg_sink z C hz hB h
theorem At.sink {oz : Oper} (h : LR false P n ops [oz] Q f C) : At (zpost P n ops oz Q) .normal f C := fun w hw => ⟨rfl, fun u e => e ▸ h w hw⟩
end
end Go.Hb

namespace Go.Hb
section
variable {P : Program} {f : Frm} {T T' T'' : TypeId} {x y : Operand} {C : World → Prop} {w0 w : World} {F : Nat → Prop} {L L' : List Asrt}
theorem Ev.min2 {k k' : IntKind} {a b : Int} {ts : Array TypeId} (hx : f.ev x = .int k a) (hy : f.ev y = .int k' b) : Ev P C f (.call ⟨.builtin .min, [x, y].toArray, ts⟩) T (.int k (if b < a then b else a)) := fun w _ d p af g => by
  simp [execOp, resolve, invoke, builtin, Builtin.min_, Builtin.min2, hx, hy]
theorem Ev.max2 {k k' : IntKind} {a b : Int} {ts : Array TypeId} (hx : f.ev x = .int k a) (hy : f.ev y = .int k' b) : Ev P C f (.call ⟨.builtin .max, [x, y].toArray, ts⟩) T (.int k (if b > a then b else a)) := fun w _ d p af g => by
  simp [execOp, resolve, invoke, builtin, Builtin.max_, Builtin.max2, hx, hy]
theorem minQ {a b q : Nat} {ts : Array TypeId} (h : min b a = q) (hx : f.ev x = .int .i64 (a : Int)) (hy : f.ev y = .int .i64 (b : Int)) : Ev P C f (.call ⟨.builtin .min, [x, y].toArray, ts⟩) T (.int .i64 (q : Int)) := by
  have h2 := Ev.min2 (P := P) (C := C) (T := T) (ts := ts) hx hy
  have e : (if (b : Int) < (a : Int) then (b : Int) else (a : Int)) = (q : Int) := by subst h; split <;> omega
  rwa [e] at h2
theorem maxQ {a b q : Nat} {ts : Array TypeId} (h : max b a = q) (hx : f.ev x = .int .i64 (a : Int)) (hy : f.ev y = .int .i64 (b : Int)) : Ev P C f (.call ⟨.builtin .max, [x, y].toArray, ts⟩) T (.int .i64 (q : Int)) := by
  have h2 := Ev.max2 (P := P) (C := C) (T := T) (ts := ts) hx hy
  have e : (if (b : Int) > (a : Int) then (b : Int) else (a : Int)) = (q : Int) := by subst h; split <;> omega
  rwa [e] at h2
theorem addQ {a b q : Nat} (h : a + b = q) (hx : f.ev x = .int .i64 (a : Int)) (hy : f.ev y = .int .i64 (b : Int)) (h1 : q ≤ 9223372036854775807) : Ev P C f (.binOp .add T' x y T'') T (.int .i64 (q : Int)) := by
  have := Ev.add (P := P) (C := C) (T := T) (T' := T') (T'' := T'') hx hy (by omega) (by omega)
  rwa [show (a : Int) + (b : Int) = (q : Int) by omega] at this
theorem subQ {a b q : Nat} (h : a - b = q) (hx : f.ev x = .int .i64 (a : Int)) (hy : f.ev y = .int .i64 (b : Int)) (h0 : b ≤ a) (h1 : a ≤ 9223372036854775807) : Ev P C f (.binOp .sub T' x y T'') T (.int .i64 (q : Int)) := by
  have := Ev.sub (P := P) (C := C) (T := T) (T' := T') (T'' := T'') hx hy (by omega) (by omega)
  rwa [show (a : Int) - (b : Int) = (q : Int) by omega] at this
theorem mulQ {a b q : Nat} (h : a * b = q) (hx : f.ev x = .int .i64 (a : Int)) (hy : f.ev y = .int .i64 (b : Int)) (h1 : q ≤ 9223372036854775807) : Ev P C f (.binOp .mul T' x y T'') T (.int .i64 (q : Int)) := by
  have e : (a : Int) * (b : Int) = (q : Int) := by subst h; simp
  have := Ev.mul (P := P) (C := C) (T := T) (T' := T') (T'' := T'') hx hy (by rw [e]; omega) (by rw [e]; omega)
  rwa [e] at this
theorem quoQ {a b q : Nat} (h : a / b = q) (hx : f.ev x = .int .i64 (a : Int)) (hy : f.ev y = .int .i64 (b : Int)) (h0 : b ≠ 0) (h1 : a ≤ 9223372036854775807) : Ev P C f (.binOp .quo T' x y T'') T (.int .i64 (q : Int)) := by
  have := Ev.quo (P := P) (C := C) (T := T) (T' := T') (T'' := T'') hx hy (by omega)
  have e : (a : Int).tdiv (b : Int) = (q : Int) := by subst h; exact (Int.ofNat_tdiv a b).symm
  have hq : q ≤ a := by subst h; exact Nat.div_le_self _ _
  rw [e, wrap_i64 (by omega) (by omega)] at this
  exact this
theorem remQ {a b q : Nat} (h : a % b = q) (hx : f.ev x = .int .i64 (a : Int)) (hy : f.ev y = .int .i64 (b : Int)) (h0 : b ≠ 0) : Ev P C f (.binOp .rem T' x y T'') T (.int .i64 (q : Int)) := by
  have := Ev.rem (P := P) (C := C) (T := T) (T' := T') (T'' := T'') hx hy (by omega)
  have e : (a : Int).tmod (b : Int) = (q : Int) := by subst h; exact (Int.ofNat_tmod a b).symm
  rwa [e] at this
theorem hiQ {E : TypeId} {sz by_ k c j : Nat} {a : Option Addr} [h : SliceOf P T E sz by_] (hx : f.ev x = .slice a k c) (hy : f.ev y = .int .i64 (j : Int)) (h1 : j ≤ c) : Ev P C f (.slice T x none (some y) none) T' (.slice (subA a c 0 sz) j c) := by
  have := Ev.slice_hi (P := P) (C := C) (T := T) (T' := T') (E := E) (sz := sz) (by_ := by_) (h := h) hx hy (by omega) (by omega)
  rwa [Int.toNat_natCast] at this
theorem loQ {E : TypeId} {sz by_ k c j q : Nat} {a : Option Addr} [h : SliceOf P T E sz by_] (h0 : k - j = q) (hx : f.ev x = .slice a k c) (hy : f.ev y = .int .i64 (j : Int)) (h1 : j ≤ k) : Ev P C f (.slice T x (some y) none none) T' (.slice (subA a c j sz) q (c - j)) := by
  have := Ev.slice_lo (P := P) (C := C) (T := T) (T' := T') (E := E) (sz := sz) (by_ := by_) (h := h) hx hy (by omega) (by omega)
  rwa [Int.toNat_natCast, h0] at this
theorem lohiQ {E : TypeId} {sz by_ k c i j q : Nat} {a : Option Addr} {z : Operand} [h : SliceOf P T E sz by_] (h0 : j - i = q) (hx : f.ev x = .slice a k c) (hy : f.ev y = .int .i64 (i : Int)) (hz : f.ev z = .int .i64 (j : Int)) (h1 : i ≤ j) (h2 : j ≤ c) : Ev P C f (.slice T x (some y) (some z) none) T' (.slice (subA a c i sz) q (c - i)) := by
  have := Ev.slice_lohi (P := P) (C := C) (T := T) (T' := T') (E := E) (sz := sz) (by_ := by_) (h := h) hx hy hz (by omega) (by omega) (by omega)
  rwa [Int.toNat_natCast, Int.toNat_natCast, h0] at this
class MapT (P : Program) (T : TypeId) : Prop where
  ex : ∃ k e, P.underlying T = some (.map k e)
theorem equalIn_map (w : World) (d : Nat) {t k e : TypeId} {r : Option Nat} (h : P.underlying t = some (.map k e)) : (Op.equalIn (d + 1) t (.map r) (.map none)).run P w = .ok r.isNone w := by
  cases r <;> simp [Op.equalIn, run_underlying h]
theorem Ev.map_nil [h : MapT P T'] {r : Option Nat} (hx : f.ev x = .map r) (hy : f.ev y = .map none) : Ev P C f (.binOp .eql T' x y T'') T (.bool r.isNone) :=
  ev_eql_of (fun w => by rw [hx, hy]; rfl) (by rw [hx, hy]; rfl) (fun w => by
    obtain ⟨k, e, hu⟩ := h.ex
    rw [hx, hy]
    exact equalIn_map w _ hu)
theorem ownsAt_take {E : TypeId} {sz k c l : Nat} {a : Option Addr} {xs : List Value} (h : ownsAt w E sz (.slice a k c) k xs) (hl : l ≤ k) : ownsAt w E sz (.slice a l c) l (xs.take (l * sz)) := by
  have hm : l * sz ≤ k * sz := Nat.mul_le_mul_right _ hl
  refine ⟨by rw [List.length_take, h.1]; omega, ?_⟩
  rcases h.2 with ⟨he, hn⟩ | ⟨g, o, cap, cur, he, hg, h1, h2, h3, h4⟩
  · simp only [Value.slice.injEq] at he
    obtain ⟨rfl, _, rfl⟩ := he
    have : l = 0 := by omega
    subst this
    exact .inl ⟨rfl, rfl⟩
  · simp only [Value.slice.injEq] at he
    obtain ⟨rfl, _, rfl⟩ := he
    refine .inr ⟨g, o, c, cur, rfl, hg, by omega, h2, h3, ?_⟩
    rw [← h4, List.take_take, Nat.min_eq_left hm]
theorem St.odl_take {E : TypeId} {sz k c l : Nat} {a : Option Addr} {xs : List Value} (h : St w0 F L w) (hs : Sel L (odl (.slice a k c) E sz k xs) (odl (.slice a l c) E sz l (xs.take (l * sz))) L') (hl : l ≤ k) : St w0 F L' w :=
  h.turn hs rfl (St.refl w _) (ownsAt_take (h.holds _ hs.mem) hl) (fun j hj => .inl (by cases a <;> exact hj)) (odl.dep _ _ _ _ _)
theorem subA_zero {b o c sz : Nat} : subA (some ⟨b, o, none⟩) c 0 sz = some ⟨b, o, none⟩ := by
  unfold subA
  split
  · rfl
  · simp [addr_add]
theorem ownsAt_subA {E : TypeId} {sz n c : Nat} {a : Option Addr} {xs : List Value} (h : ownsAt w E sz (.slice a n c) n xs) : subA a c 0 sz = a := by
  rcases h.2 with ⟨he, hn⟩ | ⟨g, o, cap, cur, he, _⟩
  · simp only [Value.slice.injEq] at he
    obtain ⟨rfl, _, rfl⟩ := he
    simp [subA]
  · simp only [Value.slice.injEq] at he
    obtain ⟨rfl, _, rfl⟩ := he
    exact subA_zero
end
end Go.Hb

namespace Go.Hb
def eq3V : Value → Value → Option Bool
  | .agg ⟨[.int .i64 a, .int .i64 b, .int .i64 c]⟩, .agg ⟨[.int .i64 a', .int .i64 b', .int .i64 c']⟩ => some (decide ([a, b, c] = [a', b', c']))
  | _, _ => none
def eq6V : Value → Value → Option Bool
  | .agg ⟨[.int .i64 a, .int .i64 b, .int .i64 c, .int .i64 d, .int .i64 e, .int .i64 g]⟩, .agg ⟨[.int .i64 a', .int .i64 b', .int .i64 c', .int .i64 d', .int .i64 e', .int .i64 g']⟩ => some (decide ([a, b, c, d, e, g] = [a', b', c', d', e', g']))
  | _, _ => none
theorem eq3V_inv {v u : Value} {r : Bool} (h : eq3V v u = some r) : ∃ xs ys : List Int, v = .agg (xs.map (Value.int .i64)).toArray ∧ u = .agg (ys.map (Value.int .i64)).toArray ∧ xs.length = 3 ∧ ys.length = 3 ∧ r = decide (xs = ys) := by
  unfold eq3V at h; split at h
  · rename_i a b c a' b' c'; cases h; exact ⟨[a, b, c], [a', b', c'], rfl, rfl, rfl, rfl, rfl⟩
  · cases h
theorem eq6V_inv {v u : Value} {r : Bool} (h : eq6V v u = some r) : ∃ xs ys : List Int, v = .agg (xs.map (Value.int .i64)).toArray ∧ u = .agg (ys.map (Value.int .i64)).toArray ∧ xs.length = 6 ∧ ys.length = 6 ∧ r = decide (xs = ys) := by
  unfold eq6V at h; split at h
  · rename_i a b c d e g a' b' c' d' e' g'; cases h; exact ⟨[a, b, c, d, e, g], [a', b', c', d', e', g'], rfl, rfl, rfl, rfl, rfl⟩
  · cases h
instance {P : Program} {T : TypeId} [h : Eqs P T 3] : EqOf P T eq3V where
  eq := fun hb => by obtain ⟨_, _, h1, h2, h3, h4, rfl⟩ := eq3V_inv hb; exact Ev.structs h1 h2 h3 h4
  ne := fun hb => by obtain ⟨_, _, h1, h2, h3, h4, rfl⟩ := eq3V_inv hb; exact Ev.structs_ne h1 h2 h3 h4
instance {P : Program} {T : TypeId} [h : Eqs P T 6] : EqOf P T eq6V where
  eq := fun hb => by obtain ⟨_, _, h1, h2, h3, h4, rfl⟩ := eq6V_inv hb; exact Ev.structs h1 h2 h3 h4
  ne := fun hb => by obtain ⟨_, _, h1, h2, h3, h4, rfl⟩ := eq6V_inv hb; exact Ev.structs_ne h1 h2 h3 h4
theorem St.weak {w0 w : World} {F : Nat → Prop} {x z : Asrt} {R : List Asrt} (h : St w0 F (x :: R) w) (hx : x.excl = true) (hz : z.holds w) (hf : ∀ k, z.foot k → x.foot k) (hd : z.dep) : St w0 F (z :: R) w := by
  refine ⟨h.os, h.tape, h.output, h.size, h.keep, ?_, ?_, ?_, ?_, ?_⟩
  · intro b hb; rcases List.mem_cons.1 hb with rfl | hb
    · exact hz
    · exact h.holds b (List.mem_cons_of_mem _ hb)
  · intro b hb; rcases List.mem_cons.1 hb with rfl | hb
    · exact fun k hk => h.live x List.mem_cons_self k (hf k hk)
    · exact h.live b (List.mem_cons_of_mem _ hb)
  · intro b hb; rcases List.mem_cons.1 hb with rfl | hb
    · exact fun _ k hk => h.mine x List.mem_cons_self hx k (hf k hk)
    · exact h.mine b (List.mem_cons_of_mem _ hb)
  · obtain ⟨h1, h2⟩ := List.pairwise_cons.1 h.dis
    refine List.pairwise_cons.2 ⟨fun b hb _ k hk1 hk2 => h1 b hb (by simp [hx]) k (hf k hk1) hk2, h2⟩
  · intro b hb; rcases List.mem_cons.1 hb with rfl | hb
    · exact hd
    · exact h.dep b (List.mem_cons_of_mem _ hb)
theorem St.odl_rd {w0 w : World} {F : Nat → Prop} {R : List Asrt} {a : Option Addr} {n c : Nat} {E : TypeId} {sz : Nat} {xs : List Value} (h : St w0 F (odl (.slice a n c) E sz n xs :: R) w) : St w0 F (rdA a xs :: R) w :=
  St.weak h rfl (h.rd_of_odl List.mem_cons_self) (fun _ hk => St.odl_foot hk) (Rd.dep _ _)
end Go.Hb

namespace Go.Hb
theorem zeroCells_one (z : Value) (m : Nat) : (Builtin.zeroCells [z].toArray m).toList = List.replicate m z := by
  simp [Builtin.zeroCells]
  apply List.ext_getElem
  · simp
  · intro i h1 h2
    simp [Nat.mod_one]
theorem run_clear {P : Program} {w : World} {t E ty : TypeId} {z : Value} {by_ : Nat} (h : SliceOf P t E 1 by_) (hz : ZeroOf P E [z]) (h1 : z.oneCell' = true) {a : Option Addr} {n c j : Nat} {xs : List Value} (hw : ownsAt w E 1 (.slice a n c) n xs) (hj : j ≤ n) :
    ∃ w', (Builtin.clear_ #[t] ty #[.slice (subA a c j 1) (n - j) (c - j)]).run P w = .ok (.tuple #[]) w' ∧ Step (odl (.slice a n c) E 1 n xs) (odl (.slice a n c) E 1 n (xs.take j ++ List.replicate (n - j) z)) w w' := by
  obtain ⟨hl, hr⟩ := hw
  have hl' : xs.length = n := by omega
  by_cases hm : n - j = 0
  · refine ⟨w, ?_, ?_⟩
    · rw [hm]
      cases subA a c j 1 <;> simp [Builtin.clear_, run_underlying h.und]
    · have e : xs.take j ++ List.replicate (n - j) z = xs := by rw [hm, List.take_of_length_le (by omega)]; simp
      rw [e]
      exact ⟨St.refl w _, ⟨hl, hr⟩, fun k hk => .inl hk⟩
  · rcases hr with ⟨he, hn0⟩ | ⟨g, o, cap, cur, he, hg, hnc, hcm, hcs, htake⟩
    · omega
    simp only [Value.slice.injEq] at he
    obtain ⟨rfl, _, rfl⟩ := he
    obtain ⟨v, hv, hvc⟩ := hz.zero
    have hsub : subA (some ⟨g, o, none⟩) c j 1 = some ⟨g, o + j, none⟩ := by
      unfold subA
      rw [if_neg (by omega)]
      simp [addr_add]
    have hst := run_storeCells_at P g (o + j) E (List.replicate (n - j) z) 0 cur w (by simpa using hg) (by simp; omega) (fun u hu => by rw [List.eq_of_mem_replicate hu]; exact h1)
    have e : ∀ (D vs : List Value), D.take (o + j + 0) ++ vs ++ D.drop (o + j + 0 + vs.length) = splice D (o + j) vs := fun _ _ => rfl
    rw [e] at hst
    obtain ⟨m, hm'⟩ : ∃ m, n - j = m + 1 := ⟨n - j - 1, by omega⟩
    have hg' : w.heap[g]? = some (.cells cur.toList.toArray E (0, 0)) := by simpa using hg
    have hsz : cur.toList.length = cur.size := Array.length_toList
    refine ⟨w.setRow g (splice cur.toList (o + j) (List.replicate (n - j) z)).toArray, ?_, Keep.setRow w g _ _ E hg rfl, ⟨by simp; omega, .inr ⟨g, o, c, _, rfl, setRow_heap w g _ _ E (0, 0) hg, hnc, hcm, ?_, ?_⟩⟩, fun k hk => .inl hk⟩
    · rw [hsub]
      have hzc := zeroCells_one z (n - j)
      rw [hm'] at hzc hst ⊢
      simp [Builtin.clear_, run_underlying h.und, hv, hvc, hzc, hst]
    · simp [splice]; omega
    · show ((splice cur.toList (o + j) (List.replicate (n - j) z)).drop o).take (n * 1) = _
      rw [splice_drop (by omega), splice_take (by simp; omega) (by simp; omega), htake]
      unfold splice
      rw [List.drop_eq_nil_of_le (by simp; omega), List.append_nil]
theorem fill_mono {p q : Nat → Option (Nat × Nat)} (h : ∀ i x, p i = some x → q i = some x) : ∀ (l : List (Nat × Value)) (cells r : Array Value), Instr.fill p cells l = some r → Instr.fill q cells l = some r
  | [], cells, r, hf => hf
  | (i, v) :: rest, cells, r, hf => by
    simp only [Instr.fill] at hf ⊢
    cases hp : p i with
    | none => rw [hp] at hf; cases hf
    | some x =>
      obtain ⟨off, size⟩ := x
      rw [hp] at hf
      rw [h i _ hp]
      simp only at hf ⊢
      split at hf
      · cases hf
      · rename_i hn
        rw [if_neg hn]
        exact fill_mono h rest _ r hf
/-- The places of an array of one-cell elements. -/
def arrPlaces (n : Nat) : List (Nat × Nat) := (List.range n).map fun i => (i, 1)
theorem arrPlaces_get {n i : Nat} {x : Nat × Nat} (h : (arrPlaces n).toArray[i]? = some x) : some (i * 1, 1) = some x := by
  unfold arrPlaces at h
  rw [List.getElem?_toArray, List.getElem?_map, Option.map_eq_some_iff] at h
  obtain ⟨j, hj, rfl⟩ := h
  have hi : i < n := by
    have := (List.getElem?_eq_some_iff.1 hj).1
    simpa using this
  rw [List.getElem?_range hi] at hj
  cases hj
  rw [Nat.mul_one]
section
variable {P : Program} {f : Frm} {T T' : TypeId} {x : Operand} {w0 : World} {F : Nat → Prop} {L L' : List Asrt}
variable {n' : Nat} {ops rest : List Oper} {Q : Post} {p : String} {af : Array Edge}
theorem LR.clear {E : TypeId} {z : Value} {by_ n c j : Nat} {a : Option Addr} {xs : List Value} [h : SliceOf P T E 1 by_] [hz : ZeroOf P E [z]] (hx : f.ev x = .slice (subA a c j 1) (n - j) (c - j)) (h1 : z.oneCell' = true)
    (hs : Sel L (odl (.slice a n c) E 1 n xs) (odl (.slice a n c) E 1 n (xs.take j ++ List.replicate (n - j) z)) L') (hj : j ≤ n)
    (k : LR false P n' ops rest Q f (St w0 F L')) : LR false P n' ops (⟨none, .call ⟨.builtin .clear, [x].toArray, [T].toArray⟩, T', p, af, none⟩ :: rest) Q f (St w0 F L) := by
  intro w hw b hb
  refine wpList_plain rfl fun K hK => ?_
  obtain ⟨w', hr, st⟩ := run_clear (P := P) (ty := T') h hz h1 (hw.holds _ hs.mem) hj
  have hr' : (execOp f.ev ⟨none, .call ⟨.builtin .clear, [x].toArray, [T].toArray⟩, T', p, af, none⟩).run P w = .ok (.value (.tuple #[])) w' := by
    simp only [execOp, resolve, invoke, builtin, Sem.run_bind, Sem.run_pure, Result.andThen_ok, List.map_toArray, List.map_cons, List.map_nil, hx, hr]
  rw [← hb.eval] at hr'
  simp only [Oper.wp, hr', Oper.upon_value]
  exact hK _ _ (k _ (hw.did hs rfl st (odl.dep _ _ _ _ _)) _ (hb.put_none _))
theorem LR.qcall_fv {m : Bool} {C : World → Prop} {v : Value} {d : Nat} {g : FuncId} {xs : List Operand} {ts : Array TypeId} {cap args : List Value} (hx : f.ev x = .func (.func g) #[] cap.toArray) (ha : xs.map f.ev ++ cap = args) [own : Own P g] (hd : Nat.blt d n' = true)
    (h : ∀ w, C w → CallsTo P g args w fun u w' => u = v ∧ C w') (k : LR m P n' ops rest Q (upd f d v) C) :
    LR m P n' ops (⟨some d, .call ⟨.value x, xs.toArray, ts⟩, T, p, af, none⟩ :: rest) Q f C :=
  LR.qcall_val hx hd (ha ▸ h) k
theorem Ev.load_odl {v : Value} {b o q k c sz : Nat} {E : TypeId} {xs : List Value} [h : One P T] (hx : f.ev x = .pointer (some ⟨b, o + q, none⟩)) (hm : odl (.slice (some ⟨b, o, none⟩) k c) E sz k xs ∈ L) (hc : xs[q]? = some v) : Ev P (St w0 F L) f (.load T x) T' v :=
  Ev.load hx fun w hw => (hw.rd_of_odl hm).cell hc
theorem Ev.field {C : World → Prop} {v : Value} {i : Nat} {fs : Array Field} {fd : Field} {cs : List Value} (hu : P.underlying T = some (.struct fs)) (hf : fs[i]? = some fd) (h : One P fd.type) (hx : f.ev x = .agg cs.toArray) (hc : cs[fd.offset]? = some v) : Ev P C f (.field T x i) T' v := by
  unfold Ev
  intro w _ d p af g
  simp [execOp, hx, Instr.field, run_underlying hu, hf, part, h.agg, asAgg, hc]
theorem LR.mapUpdate {T : TypeId} {x y z : Operand} {v zv : Value} {q : IntKind} {b : Nat} {l : List (Int × Value)} {key : Int} [h : MapOf P T q zv] (hx : f.ev x = .map (some b)) (hy : f.ev y = .int q key) (hz : f.ev z = v)
    (hs : Sel L (.own b (mapObj q l)) (.own b (mapObj q (l ++ [(key, v)]))) L') (hnew : (findI key l 0).isNone = true)
    (k : LR false P n' ops rest Q f (St w0 F L')) : LR false P n' ops (⟨none, .mapUpdate T x y z, T', p, af, none⟩ :: rest) Q f (St w0 F L) := by
  intro w hw a ha
  refine wpList_plain rfl fun K hK => ?_
  obtain ⟨kt, et, ht, hk, _⟩ := h.ex
  have hb : w.heap[b]? = some (.map (ents q 0 l).toArray l.length) := hw.own_at hs.mem
  have hfind : (Instr.findKey kt (.int q key) (ents q 0 l)).run P w = .ok none w := by
    refine MapKept.run_findKey hk ?_
    rw [findNow_ents]
    cases hf : findI key l 0 with
    | none => rfl
    | some r => rw [hf] at hnew; cases hnew
  have hr : (execOp a.eval ⟨none, .mapUpdate T x y z, T', p, af, none⟩).run P w = .ok .skip { w with heap := w.heap.setIfInBounds b (mapObj q (l ++ [(key, v)])) } := by
    rw [ha.eval]
    have e : Obj.map ((ents q 0 l).toArray.push ⟨.int q key, v, l.length⟩) (l.length + 1) = mapObj q (l ++ [(key, v)]) := by
      simp [mapObj, ents_snoc]
    simp only [execOp, hx, hy, hz, Instr.mapUpdate, Sem.run_bind, run_underlying ht, Result.andThen_ok, MapKept.run_getObj_map hb, MapKept.run_checkKey (k := .int q key) hk (by rfl) _ 9999, hfind, MapKept.run_setObj_map _ hb, e, Sem.run_pure]
  simp only [Oper.wp, hr, Oper.upon_skip]
  have hsz : b < w.heap.size := (Array.getElem?_eq_some_iff.1 hb).1
  refine hK _ _ (k _ ?_ _ (ha.put_none undef))
  exact hw.turn hs rfl (Keep.setObj w b _ rfl) (by show (w.heap.setIfInBounds b _)[b]? = _; simp [hsz]) (fun k hk => .inl hk) (Asrt.dep_own _ _)
theorem Ev.lookupC {C : World → Prop} {T : TypeId} {x y : Operand} {zv : Value} {q : IntKind} {b : Nat} {l : List (Int × Value)} {key : Int} {r : Option (Nat × Value)} [h : MapOf P T q zv] (hx : f.ev x = .map (some b)) (hy : f.ev y = .int q key) (hm : ∀ w, C w → w.heap[b]? = some (mapObj q l)) (hr : findI key l 0 = r) :
    Ev P C f (.lookup T x y true) T' (.tuple [(r.map Prod.snd).getD zv, .bool r.isSome].toArray) := fun w hw d p af g => by
  obtain ⟨kt, et, ht, hk, hz⟩ := h.ex
  have hb : w.heap[b]? = some (.map (ents q 0 l).toArray l.length) := hm w hw
  have hfind : (Instr.findKey kt (.int q key) (ents q 0 l)).run P w = .ok r w := by
    refine MapKept.run_findKey hk ?_
    rw [findNow_ents, hr]
  cases r with
  | none => simp [execOp, hx, hy, Instr.lookup, run_underlying ht, MapKept.run_getObj_map hb, MapKept.run_checkKey (k := .int q key) hk (by rfl) _ 9999, hfind, hz, Result.andThen]
  | some s => simp [execOp, hx, hy, Instr.lookup, run_underlying ht, MapKept.run_getObj_map hb, MapKept.run_checkKey (k := .int q key) hk (by rfl) _ 9999, hfind, Result.andThen]
theorem Ev.lookup1C {C : World → Prop} {T : TypeId} {x y : Operand} {zv : Value} {q : IntKind} {b : Nat} {l : List (Int × Value)} {key : Int} {r : Option (Nat × Value)} [h : MapOf P T q zv] (hx : f.ev x = .map (some b)) (hy : f.ev y = .int q key) (hm : ∀ w, C w → w.heap[b]? = some (mapObj q l)) (hr : findI key l 0 = r) :
    Ev P C f (.lookup T x y false) T' ((r.map Prod.snd).getD zv) := fun w hw d p af g => by
  obtain ⟨kt, et, ht, hk, hz⟩ := h.ex
  have hb : w.heap[b]? = some (.map (ents q 0 l).toArray l.length) := hm w hw
  have hfind : (Instr.findKey kt (.int q key) (ents q 0 l)).run P w = .ok r w := by
    refine MapKept.run_findKey hk ?_
    rw [findNow_ents, hr]
  cases r with
  | none => simp [execOp, hx, hy, Instr.lookup, run_underlying ht, MapKept.run_getObj_map hb, MapKept.run_checkKey (k := .int q key) hk (by rfl) _ 9999, hfind, hz, Result.andThen]
  | some s => simp [execOp, hx, hy, Instr.lookup, run_underlying ht, MapKept.run_getObj_map hb, MapKept.run_checkKey (k := .int q key) hk (by rfl) _ 9999, hfind, Result.andThen]
end
end Go.Hb

namespace Go.Proofs.Ytgblmkpfkcibiaa
open Go.Hb
attribute [local irreducible] LR CW At Ev thn blk finK noG again CallsTo DW QL dnext TW DP
set_option linter.unusedSimpArgs false
set_option linter.unusedVariables false
set_option maxRecDepth 100000

structure DaA where
  d : Dat
  a : Option Addr
  c : Nat
def DaA.row (x : DaA) : List Value := x.d.cells x.a x.c
theorem DaA.row_len (x : DaA) : x.row.length = 18 := rfl
def DaA.body (x : DaA) : Asrt := osl (.slice x.a x.d.msg.body.length x.c) 5 1 x.d.msg.body.length (bv x.d.msg.body)
theorem DaA.dep (x : DaA) : x.body.dep := osl.dep _ _ _ _ _
theorem DaA.ex (x : DaA) : x.body.excl = true := rfl
abbrev bunD : List DaA → Asrt := bun DaA.body
def entD (x : DaA) : Int × Value := (x.d.seq, x.d.val x.a x.c)
abbrev wB (bw bm : Nat) (aru high : Int) : Asrt := .own bw (.cells [.bool true, .map (some bm), .int .i64 aru, .int .i64 high].toArray 104 (0, 0))
abbrev mB (bm : Nat) (es : List DaA) : Asrt := .own bm (mapObj .i64 (es.map entD))
def wO (bw bm : Nat) (es : List DaA) (aru high : Int) : Asrt := both (both (wB bw bm aru high) (mB bm es)) (bunD es)
theorem wO_dep (bw bm : Nat) (es : List DaA) (aru high : Int) : (wO bw bm es aru high).dep := both_dep (both_dep (Asrt.dep_own _ _) (Asrt.dep_own _ _)) (bun_dep DaA.dep es)
abbrev wR (bw bm : Nat) (es : List DaA) (aru high : Int) : Asrt := .rd (wO bw bm es aru high).foot (wO bw bm es aru high).holds
theorem wO_w {bw bm : Nat} {es : List DaA} {aru high : Int} {w : World} (h : (wO bw bm es aru high).holds w) : w.heap[bw]? = some (.cells [.bool true, .map (some bm), .int .i64 aru, .int .i64 high].toArray 104 (0, 0)) := h.1.1
theorem wO_m {bw bm : Nat} {es : List DaA} {aru high : Int} {w : World} (h : (wO bw bm es aru high).holds w) : w.heap[bm]? = some (mapObj .i64 (es.map entD)) := h.1.2.1
theorem wO_b {bw bm : Nat} {es : List DaA} {aru high : Int} {w : World} (h : (wO bw bm es aru high).holds w) {x : DaA} (hx : x ∈ es) : Rd w x.a (bv x.d.msg.body) := by
  have : (DaA.body x).holds w := h.2.1.1 x hx
  exact ownsRow_rd this
/-- In a call that reads a window alone. -/
theorem wO_in {bw bm : Nat} {es : List DaA} {aru high : Int} {w : World} (h : (wO bw bm es aru high).holds w) : St w NoF [wR bw bm es aru high] w :=
  (St.refl w NoF).old h (fun k hk => ⟨both_live h k hk, fun x => x⟩) (wO_dep _ _ _ _ _)
/-- In a call that turns a window. -/
theorem wO_turn {bw bm : Nat} {es : List DaA} {aru high : Int} {w : World} (h : (wO bw bm es aru high).holds w) : St w (wO bw bm es aru high).foot [wB bw bm aru high, mB bm es, bunD es] w :=
  ((St.one h (both_live h) (wO_dep _ _ _ _ _)).part (both_dep (Asrt.dep_own _ _) (Asrt.dep_own _ _)) (bun_dep DaA.dep es)).part (Asrt.dep_own _ _) (Asrt.dep_own _ _)
theorem wO_out {w0 w : World} {F : Nat → Prop} {R : List Asrt} {bw bm : Nat} {es : List DaA} {aru high : Int} (h : St w0 F (wB bw bm aru high :: mB bm es :: bunD es :: R) w) : St w0 F (wO bw bm es aru high :: R) w := by
  have h1 : St w0 F (both (wB bw bm aru high) (mB bm es) :: bunD es :: R) w := h.join rfl rfl
  exact h1.join rfl rfl
theorem w_cell {w0 w : World} {F : Nat → Prop} {L : List Asrt} {bw bm q : Nat} {es : List DaA} {aru high : Int} {v : Value} (h : St w0 F L w) (hm : wR bw bm es aru high ∈ L) (hq : [Value.bool true, .map (some bm), .int .i64 aru, .int .i64 high][q]? = some v) : w.cell? ⟨bw, q, none⟩ = some v := by
  have h1 : (wO bw bm es aru high).holds w := h.holds (wR bw bm es aru high) hm
  rw [cell_own (wO_w h1)]
  simpa using hq
theorem w_out {w0 w : World} {F : Nat → Prop} {L : List Asrt} {bw bm : Nat} {es : List DaA} {aru high : Int} (h : St w0 F L w) (hm : wR bw bm es aru high ∈ L) : (wO bw bm es aru high).holds w := h.holds (wR bw bm es aru high) hm
/-! ### data -/
theorem t61 (d : Dat) (a : Option Addr) (c : Nat) (w : World) (hr : Rd w a (bv d.msg.body)) (hz : a = none → c = 0) (hm : d.msg.body.length ≤ 140737488355328) :
    CallsTo Try.prog 73 [d.val a c] w fun v w' => ∃ a' c', v = d.val a' c' ∧ NewSl w w' (.slice a' d.msg.body.length c') 5 1 d.msg.body.length (bv d.msg.body) := by
  refine go_in (n := 10) (St.rd1 hr) Try.func73 rfl rfl ?_
  repeat'(first|(apply kB;(iterate 2 exact rfl);intro _)|refine kv' ?_|apply jJ|refine jE' ?_|refine jp' ?_|(apply jc;kernel_rfl)|refine kg' ?_|refine kG' ?_|refine kB' fun _=>?_|refine kA' fun _=>?_|refine kK' fun _=>?_|refine kU' ?_|(apply LR.call; (· exact rfl); (intro w1 h1; refine (c86 a c d.msg.body w1 (h1.rd_of (by (repeat (first | exact mH _ _ | apply mT)))) hz hm).mono ?_; rintro v w2 ⟨a2, c2, rfl, hn⟩; refine LR.back (h1.newSl hn) ?_; clear hn h1))|((first|refine kR' ?_ ?_|refine kQ' ?_ ?_);all_goals(intro hc;try simp only[hcs]at hc;try(exfalso;first|contradiction|omega))))
  (apply ret1c; (· exact rfl); (· exact inferInstance); (· exact rfl); (· (repeat (first | exact List.Mem.head _ | apply List.Mem.tail))); (· exact rfl); intro w' hS)
  exact ⟨a2, c2, rfl, hS.toNew (by (repeat (first | exact mH _ _ | apply mT)))⟩
instance : MapOf Try.prog 102 .i64 (zeroDat.val none 0) := ⟨⟨3, 68, Try.underlying102, Try.underlying3, fun w => by rw [Try.zeroValue68]; rfl⟩⟩
theorem t58 (bw bm : Nat) (es : List DaA) (aru high : Int) (w : World) (h : (wO bw bm es aru high).holds w) : CallsTo Try.prog 72 [.pointer (some ⟨bw, 0, none⟩)] w fun v w' => v = .bool false ∧ Grew w w' := by
  refine go_in (n := 12) (wO_in h) Try.func72 rfl rfl ?_
  repeat'(first|refine kv' ?_|apply jJ|refine jE' ?_|refine jp' ?_|(apply jc;kernel_rfl)|refine kg' ?_|refine kG' ?_|refine kB' fun _=>?_|refine kA' fun _=>?_|refine kK' fun _=>?_|refine kU' ?_|(apply LR.ev; (· apply Ev.load; (· exact rfl); (· exact fun w' hw' => w_cell hw' (by (repeat (first | exact mH _ _ | apply mT))) rfl)); (· exact rfl))|((first|refine kR' ?_ ?_|refine kQ' ?_ ?_);all_goals(intro hc;try simp only[hcs]at hc;try(exfalso;first|contradiction|omega))))
  (apply ret1; (· exact rfl); intro w' hS)
  exact ⟨rfl, hS.toKeep⟩
theorem t37 (bw bm : Nat) (es : List DaA) (aru high : Int) (w : World) (h : (wO bw bm es aru high).holds w) : CallsTo Try.prog 70 [.pointer (some ⟨bw, 0, none⟩)] w fun v w' => v = .int .i64 high ∧ Grew w w' := by
  refine go_in (n := 9) (wO_in h) Try.func70 rfl rfl ?_
  repeat'(first|refine kv' ?_|apply jJ|refine jE' ?_|refine jp' ?_|(apply jc;kernel_rfl)|refine kg' ?_|refine kG' ?_|refine kB' fun _=>?_|refine kA' fun _=>?_|refine kK' fun _=>?_|refine kU' ?_|(apply kq; (· exact rfl); (· intro w1 h1; exact CallsTo.q (t58 bw bm es aru high w1 (w_out h1 (by (repeat (first | exact mH _ _ | apply mT))))) h1))|(apply LR.ev; (· apply Ev.load; (· exact rfl); (· exact fun w' hw' => w_cell hw' (by (repeat (first | exact mH _ _ | apply mT))) rfl)); (· exact rfl))|((first|refine kR' ?_ ?_|refine kQ' ?_ ?_);all_goals(intro hc;try simp only[hcs]at hc;try(exfalso;first|contradiction|omega))))
  (apply ret1; (· exact rfl); intro w' hS)
  exact ⟨rfl, hS.toKeep⟩
theorem t24 (w : World) : CallsTo Try.prog 36 [] w fun v w' => ∃ bw bm, v = .pointer (some ⟨bw, 0, none⟩) ∧ New1 (wO bw bm [] 0 0) w w' := by
  refine go_in (n := 4) (St.refl _ NoF) Try.func36 rfl rfl ?_
  repeat'(first|refine kv' ?_|apply jJ|refine jE' ?_|refine jp' ?_|(apply jc;kernel_rfl)|refine kg' ?_|refine kG' ?_|refine kB' fun _=>?_|refine kA' fun _=>?_|refine kK' fun _=>?_|refine kU' ?_|(apply LR.makeMap; (· exact rfl); (intro bm))|((first|refine kR' ?_ ?_|refine kQ' ?_ ?_);all_goals(intro hc;try simp only[hcs]at hc;try(exfalso;first|contradiction|omega))))
  (apply ret1; (· exact rfl); intro w' hS)
  exact ⟨_, bm, rfl, St.new1 (wO_out (R := []) ((St.bun_nil DaA.dep hS).perm (List.perm_append_comm (l₁ := [bunD []]) (l₂ := [_, _])))) rfl⟩
end Go.Proofs.Ytgblmkpfkcibiaa

namespace Go.Proofs.Ytgblmkpfkcibiaa
open Go.Hb
attribute [local irreducible] LR CW At Ev thn blk finK noG again CallsTo DW QL dnext TW DP
set_option linter.unusedSimpArgs false
set_option linter.unusedVariables false
set_option maxRecDepth 100000

/-! ### plain -/
def fndD (D : List Dat) (s : Int) : Option Dat := D.find? fun d => decide (d.seq = s)
def hasD (D : List Dat) (s : Int) : Bool := D.any fun d => decide (d.seq = s)
def fnd (es : List DaA) (s : Int) : Option DaA := es.find? fun x => decide (x.d.seq = s)
def dats (es : List DaA) : List Dat := es.map DaA.d
theorem fnd_d (es : List DaA) (s : Int) : (fnd es s).map DaA.d = fndD (dats es) s := by
  unfold fnd fndD dats
  rw [List.find?_map]
  rfl
theorem has_iff {D : List Dat} {s : Int} : hasD D s = true ↔ ∃ d ∈ D, d.seq = s := by
  unfold hasD; simp
theorem fnd_has (D : List Dat) (s : Int) : (fndD D s).isSome = hasD D s := by
  rw [Bool.eq_iff_iff, has_iff]
  unfold fndD
  rw [List.find?_isSome]
  simp
theorem findI_fnd (s : Int) : ∀ (es : List DaA) (n : Nat), (findI s (es.map entD) n).map Prod.snd = (fnd es s).map fun x => x.d.val x.a x.c
  | [], n => rfl
  | x :: r, n => by
    unfold fnd
    rw [List.map_cons, findI, List.find?_cons]
    by_cases h : s = x.d.seq
    · simp [entD, h]
    · have h2 : ¬x.d.seq = s := fun e => h e.symm
      have ih := findI_fnd s r (n + 1)
      unfold fnd at ih
      simp [entD, h, h2, ih]
theorem findI_some (s : Int) (es : List DaA) (n : Nat) : (findI s (es.map entD) n).isSome = (fnd es s).isSome := by
  have := congrArg Option.isSome (findI_fnd s es n)
  simpa using this
theorem fnd_mem {es : List DaA} {s : Int} {x : DaA} (h : fnd es s = some x) : x ∈ es ∧ x.d.seq = s := by
  unfold fnd at h
  exact ⟨List.mem_of_find?_eq_some h, by simpa using List.find?_some h⟩
structure WOk (D : List Dat) : Prop where
  nodup : (D.map Dat.seq).Nodup
  rng : ∀ d ∈ D, 1 ≤ d.seq ∧ d.seq ≤ 9007199254740991 ∧ ringE d.rseq d.rrep = 0
  len : ∀ d ∈ D, d.msg.body.length ≤ 140737488351232
/-- All up to n are there. -/
def Upto (D : List Dat) (n : Int) : Prop := 0 ≤ n ∧ ∀ s, 1 ≤ s → s ≤ n → hasD D s = true
def IsAru (D : List Dat) (n : Int) : Prop := Upto D n ∧ hasD D (n + 1) = false
theorem IsAru.uniq {D : List Dat} {m n : Int} (h : IsAru D m) (h2 : IsAru D n) : m = n := by
  have key : ∀ {a b : Int}, IsAru D a → IsAru D b → ¬a < b := fun {a b} ha hb hlt => by
    have := hb.1.2 (a + 1) (by have := ha.1.1; omega) (by omega)
    rw [ha.2] at this
    cases this
  have h3 := key h h2
  have h4 := key h2 h
  omega
theorem Upto.le {D : List Dat} {n : Int} (h : Upto D n) (hD : WOk D) : n ≤ 9007199254740991 := by
  rcases Int.lt_or_le 9007199254740991 n with hlt | hle
  · obtain ⟨d, hd, he⟩ := has_iff.1 (h.2 n (by omega) (by omega))
    have := (hD.rng d hd).2.1
    omega
  · exact hle
theorem hasD_snoc (D : List Dat) (d : Dat) (s : Int) : hasD (D ++ [d]) s = (hasD D s || decide (d.seq = s)) := by
  unfold hasD; simp
/-! ### asked for one -/
def getT (D : List Dat) (s : Int) : Dat := (fndD D s).getD zeroDat
theorem getT_len {D : List Dat} (h : WOk D) (s : Int) : (getT D s).msg.body.length ≤ 140737488351232 := by
  unfold getT fndD
  cases hf : D.find? fun d => decide (d.seq = s) with
  | none => simp [zeroDat, zeroMsg]
  | some d => exact h.len d (List.mem_of_find?_eq_some hf)
theorem body_nz {x : DaA} {w : World} (h : x.body.holds w) (e : x.a = none) : x.c = 0 := by
  have h : w.ownsRow 0 5 1 (.slice x.a x.d.msg.body.length x.c) x.d.msg.body.length (bv x.d.msg.body) := h
  rcases h.2 with ⟨he, _⟩ | ⟨g, cap, cur, he, _⟩
  · simp only [Value.slice.injEq] at he
    exact he.2.2
  · simp only [Value.slice.injEq] at he
    rw [he.1] at e
    cases e
theorem win_no {C : World → Prop} {f : Frm} {x y : Operand} {T' : TypeId} {bm : Nat} {es : List DaA} {s : Int} (hx : f.ev x = .map (some bm)) (hy : f.ev y = .int .i64 s) (hn : fnd es s = none) (hC : ∀ w, C w → w.heap[bm]? = some (mapObj .i64 (es.map entD))) :
    Ev Try.prog C f (.lookup 102 x y true) T' (.tuple [zeroDat.val none 0, .bool false].toArray) := by
  have := Ev.lookupC (P := Try.prog) (C := C) (T := 102) (T' := T') (l := es.map entD) (r := findI s (es.map entD) 0) hx hy hC rfl
  rw [findI_fnd, findI_some, hn] at this
  exact this
theorem win_yes {C : World → Prop} {f : Frm} {x y : Operand} {T' : TypeId} {bm : Nat} {es : List DaA} {s : Int} {e : DaA} (hx : f.ev x = .map (some bm)) (hy : f.ev y = .int .i64 s) (hn : fnd es s = some e) (hC : ∀ w, C w → w.heap[bm]? = some (mapObj .i64 (es.map entD))) :
    Ev Try.prog C f (.lookup 102 x y true) T' (.tuple [e.d.val e.a e.c, .bool true].toArray) := by
  have := Ev.lookupC (P := Try.prog) (C := C) (T := 102) (T' := T') (l := es.map entD) (r := findI s (es.map entD) 0) hx hy hC rfl
  rw [findI_fnd, findI_some, hn] at this
  exact this
set_option maxHeartbeats 1000000 in
theorem t32 (bw bm : Nat) (es : List DaA) (aru high s : Int) (w : World) (h : (wO bw bm es aru high).holds w) (hD : WOk (dats es)) :
    CallsTo Try.prog 71 [.pointer (some ⟨bw, 0, none⟩), .int .i64 s] w fun v w' => ∃ a' c', v = .tuple [(getT (dats es) s).val a' c', .bool (hasD (dats es) s)].toArray ∧ NewSl w w' (.slice a' (getT (dats es) s).msg.body.length c') 5 1 (getT (dats es) s).msg.body.length (bv (getT (dats es) s).msg.body) := by
  refine go_in (n := 23) (wO_in h) Try.func71 rfl rfl ?_
  have hfd := fnd_d es s
  have hg : getT (dats es) s = ((fnd es s).map DaA.d).getD zeroDat := by unfold getT; rw [hfd]
  have hln := getT_len hD s
  rw [hg] at hln
  rw [← fnd_has, ← hfd, hg, Option.isSome_map]
  cases hx : fnd es s with
  | none =>
    repeat'(first|refine kv' ?_|apply jJ|refine jE' ?_|refine jp' ?_|(apply jc;kernel_rfl)|refine kg' ?_|refine kG' ?_|refine kB' fun _=>?_|refine kA' fun _=>?_|refine kK' fun _=>?_|refine kU' ?_|(apply kq; (· exact rfl); (· intro w1 h1; exact CallsTo.q (t58 bw bm es aru high w1 (w_out h1 (by (repeat (first | exact mH _ _ | apply mT))))) h1))|(apply LR.ev; (· apply Ev.load; (· exact rfl); (· exact fun w' hw' => w_cell hw' (by (repeat (first | exact mH _ _ | apply mT))) rfl)); (· exact rfl))|(apply LR.ev; (· apply win_no; (· exact rfl); (· exact rfl); (· exact hx); (· exact fun w' hw' => wO_m (w_out hw' (by (repeat (first | exact mH _ _ | apply mT)))))); (· exact rfl))|(apply LR.call; (· exact rfl); (intro w1 h1; refine (t61 zeroDat none 0 w1 (Rd.nil _ _) (fun _ => rfl) (by decide)).mono ?_; rintro v w2 ⟨a2, c2, rfl, hn⟩; refine LR.back (h1.newSl hn) ?_; clear hn h1))|((first|refine kR' ?_ ?_|refine kQ' ?_ ?_);all_goals(intro hc;try simp only[hcs]at hc;try(exfalso;first|contradiction|omega))))
    (apply ret2c; (· exact rfl); (· exact inferInstance); (· exact rfl); (· (repeat (first | exact List.Mem.head _ | apply List.Mem.tail))); (· exact rfl); intro w' hS)
    exact ⟨a2, c2, rfl, hS.toNew (by (repeat (first | exact mH _ _ | apply mT)))⟩
  | some x =>
    rw [hx] at hln
    have hmem := (fnd_mem hx).1
    have hb : ∀ w', (wO bw bm es aru high).holds w' → x.body.holds w' := fun w' hw' => hw'.2.1.1 x hmem
    repeat'(first|refine kv' ?_|apply jJ|refine jE' ?_|refine jp' ?_|(apply jc;kernel_rfl)|refine kg' ?_|refine kG' ?_|refine kB' fun _=>?_|refine kA' fun _=>?_|refine kK' fun _=>?_|refine kU' ?_|(apply kq; (· exact rfl); (· intro w1 h1; exact CallsTo.q (t58 bw bm es aru high w1 (w_out h1 (by (repeat (first | exact mH _ _ | apply mT))))) h1))|(apply LR.ev; (· apply Ev.load; (· exact rfl); (· exact fun w' hw' => w_cell hw' (by (repeat (first | exact mH _ _ | apply mT))) rfl)); (· exact rfl))|(apply LR.ev; (· apply win_yes; (· exact rfl); (· exact rfl); (· exact hx); (· exact fun w' hw' => wO_m (w_out hw' (by (repeat (first | exact mH _ _ | apply mT)))))); (· exact rfl))|(apply LR.call; (· exact rfl); (intro w1 h1; refine (t61 x.d x.a x.c w1 (wO_b (w_out h1 (by (repeat (first | exact mH _ _ | apply mT)))) hmem) (body_nz (hb _ (w_out h1 (by (repeat (first | exact mH _ _ | apply mT)))))) (by simp only [Option.map_some, Option.getD_some] at hln; omega)).mono ?_; rintro v w2 ⟨a2, c2, rfl, hn⟩; refine LR.back (h1.newSl hn) ?_; clear hn h1))|((first|refine kR' ?_ ?_|refine kQ' ?_ ?_);all_goals(intro hc;try simp only[hcs]at hc;try(exfalso;first|contradiction|omega))))
    (apply ret2c; (· exact rfl); (· exact inferInstance); (· exact rfl); (· (repeat (first | exact List.Mem.head _ | apply List.Mem.tail))); (· exact rfl); intro w' hS)
    exact ⟨a2, c2, rfl, hS.toNew (by (repeat (first | exact mH _ _ | apply mT)))⟩
/-! ### told that there is one -/
def seeE (s : Int) : Int := if s < 0 ∨ 9007199254740991 < s then 2 else 0
def seeH (high s : Int) : Int := if s < 0 ∨ 9007199254740991 < s then high else max high s
theorem maxI (a b : Int) : (if b > a then b else a) = max a b := by split <;> omega
end Go.Proofs.Ytgblmkpfkcibiaa

namespace Go.Proofs.Ytgblmkpfkcibiaa
open Go.Hb
attribute [local irreducible] LR CW At Ev thn blk finK noG again CallsTo DW QL dnext TW DP
set_option linter.unusedSimpArgs false
set_option linter.unusedVariables false
set_option maxRecDepth 100000

def wpOk (d : Dat) : Bool := decide (ringE d.rseq d.rrep = 0 ∧ 1 ≤ d.seq ∧ d.seq ≤ 9007199254740991)
def wpNew (D : List Dat) (d : Dat) : Bool := wpOk d && !hasD D d.seq
def wpE (d : Dat) : Int := if wpOk d then 0 else 2
def wpD (D : List Dat) (d : Dat) : List Dat := if wpNew D d then D ++ [d] else D
def wpH (D : List Dat) (high : Int) (d : Dat) : Int := if wpNew D d then max high d.seq else high
theorem wpD_ok {D : List Dat} {d : Dat} (h : WOk D) (hl : d.msg.body.length ≤ 140737488351232) : WOk (wpD D d) := by
  unfold wpD
  split
  · rename_i hn
    unfold wpNew wpOk at hn
    simp only [Bool.and_eq_true, decide_eq_true_eq, Bool.not_eq_true'] at hn
    obtain ⟨⟨h1, h2, h3⟩, h4⟩ := hn
    refine ⟨?_, fun x hx => ?_, fun x hx => ?_⟩
    · rw [List.map_append, List.nodup_append]
      refine ⟨h.nodup, by simp, fun a ha b hb e => ?_⟩
      simp only [List.map_cons, List.map_nil, List.mem_singleton] at hb
      obtain ⟨x, hx, rfl⟩ := List.mem_map.1 ha
      have : hasD D d.seq = true := has_iff.2 ⟨x, hx, by rw [e, hb]⟩
      rw [h4] at this
      cases this
    · rcases List.mem_append.1 hx with hx | hx
      · exact h.rng x hx
      · rw [List.mem_singleton] at hx; subst hx; exact ⟨h2, h3, h1⟩
    · rcases List.mem_append.1 hx with hx | hx
      · exact h.len x hx
      · rw [List.mem_singleton] at hx; subst hx; exact hl
  · exact h
theorem Upto.more {D : List Dat} {n : Int} (h : Upto D n) (d : Dat) : Upto (D ++ [d]) n := ⟨h.1, fun s h1 h2 => by rw [hasD_snoc, h.2 s h1 h2]; rfl⟩
theorem Upto.next {D : List Dat} {n : Int} (h : Upto D n) (hn : hasD D (n + 1) = true) : Upto D (n + 1) := ⟨by have := h.1; omega, fun s h1 h2 => by
  by_cases e : s = n + 1
  · rw [e]; exact hn
  · exact h.2 s h1 (by omega)⟩
set_option maxHeartbeats 2000000 in
theorem t29 (bw bm : Nat) (es : List DaA) (aru high : Int) (d : Dat) (a : Option Addr) (c : Nat) (w : World) (h : (wO bw bm es aru high).holds w) (hD : WOk (dats es)) (hA : IsAru (dats es) aru)
    (hr : Rd w a (bv d.msg.body)) (hz : a = none → c = 0) (hd : ∀ k, rdFoot a (bv d.msg.body) k → ¬ (wO bw bm es aru high).foot k) (hl : d.msg.body.length ≤ 140737488351232) :
    CallsTo Try.prog 37 [.pointer (some ⟨bw, 0, none⟩), d.val a c] w fun v w' => ∃ es' aru', v = .tuple [.bool (wpNew (dats es) d), .int .i64 (wpE d)].toArray ∧ dats es' = wpD (dats es) d ∧ IsAru (wpD (dats es) d) aru' ∧ Step (wO bw bm es aru high) (wO bw bm es' aru' (wpH (dats es) high d)) w w' := by
  have hDn := wpD_ok (d := d) hD hl
  have hfd := fnd_d es d.seq
  have hfh := fnd_has (dats es) d.seq
  rw [← hfd, Option.isSome_map] at hfh
  refine go_in (n := 77) ((wO_turn h).addRd hr hd) Try.func37 rfl rfl ?_
  repeat'(first|(apply kB;(iterate 2 exact rfl);intro b3)|refine kv' ?_|apply jJ|refine jE' ?_|refine jp' ?_|(apply jc;kernel_rfl)|refine kg' ?_|refine kG' ?_|refine kB' fun _=>?_|refine kA' fun _=>?_|refine kK' fun _=>?_|refine kU' ?_|((first|refine kR' ?_ ?_|refine kQ' ?_ ?_);all_goals(intro hc;try simp only[hcs]at hc;try(exfalso;first|contradiction|omega))))
  apply LR.call
  · exact rfl
  intro w1 h1
  refine (t32 bw bm es aru high d.seq w1 (wO_out (R := []) (h1.sub (by (repeat (first | exact List.Sublist.refl _ | apply List.Sublist.cons_cons | apply List.Sublist.cons))))).g0 hD).mono ?_
  rintro v w2 ⟨a2, c2, rfl, hn⟩
  refine LR.back (h1.newSl hn) ?_
  clear hn h1
  repeat'(first|(apply CW.reg_sinkC 8; (· exact rfl); (· decide +kernel))|refine kv' ?_|apply jJ|refine jE' ?_|refine jp' ?_|(apply jc;kernel_rfl)|refine kg' ?_|refine kG' ?_|refine kB' fun _=>?_|refine kA' fun _=>?_|refine kK' fun _=>?_|refine kU' ?_|(apply kq; (· exact rfl); (· intro w1 h1; first | exact CallsTo.q (t58 bw bm es aru high w1 (wO_out (R := []) (h1.sub (by (repeat (first | exact List.Sublist.refl _ | apply List.Sublist.cons_cons | apply List.Sublist.cons))))).g0) h1 | exact CallsTo.q (c81 _ _ w1) h1))|((first|refine kR' ?_ ?_|refine kQ' ?_ ?_);all_goals(intro hc;try simp only[hcs]at hc;try(exfalso;first|contradiction|omega))))
  all_goals (
    first
    | ((apply ret2; (· exact rfl); intro w' hS)
       have hno : wpNew (dats es) d = false := by unfold wpNew wpOk; rw [decide_eq_false (by omega)]; rfl
       have e1 : wpD (dats es) d = dats es := by unfold wpD; rw [hno]; rfl
       have e2 : wpH (dats es) high d = high := by unfold wpH; rw [hno]; rfl
       have e3 : wpE d = 2 := by unfold wpE wpOk; rw [decide_eq_false (by omega)]; rfl
       rw [e1, e2, e3, hno]
       exact ⟨es, aru, rfl, rfl, hA, (wO_out (R := []) (hS.sub (by (repeat (first | exact List.Sublist.refl _ | apply List.Sublist.cons_cons | apply List.Sublist.cons))))).step rfl⟩)
    | skip)
  · (apply ret2; (· exact rfl); intro w' hS)
    have hno : wpNew (dats es) d = false := by unfold wpNew; rw [show hasD (dats es) d.seq = true by assumption]; simp
    have e1 : wpD (dats es) d = dats es := by unfold wpD; rw [hno]; rfl
    have e2 : wpH (dats es) high d = high := by unfold wpH; rw [hno]; rfl
    have e3 : wpE d = 0 := by unfold wpE wpOk; rw [decide_eq_true (by omega)]; rfl
    rw [e1, e2, e3, hno]
    exact ⟨es, aru, rfl, rfl, hA, (wO_out (R := []) (hS.sub (by (repeat (first | exact List.Sublist.refl _ | apply List.Sublist.cons_cons | apply List.Sublist.cons))))).step rfl⟩
  have hno : hasD (dats es) d.seq = false := by assumption
  have hok : wpOk d = true := by unfold wpOk; exact decide_eq_true ⟨by assumption, by assumption, by assumption⟩
  have hnew : wpNew (dats es) d = true := by unfold wpNew; rw [hok, hno]; rfl
  have e1 : wpD (dats es) d = dats es ++ [d] := by unfold wpD; rw [hnew]; rfl
  have e2 : wpH (dats es) high d = max high d.seq := by unfold wpH; rw [hnew]; rfl
  have e3 : wpE d = 0 := by unfold wpE; rw [hok]; rfl
  rw [e1] at hDn
  rw [e1, e2, e3, hnew]
  have hfi : (findI d.seq (es.map entD) 0).isNone = true := by
    have h1 := findI_some d.seq es 0
    rw [hfh, hno] at h1
    cases hq : findI d.seq (es.map entD) 0 with
    | none => rfl
    | some z => rw [hq] at h1; cases h1
  generalize hF : (wO bw bm es aru high).foot = F at *
  all_goals (
    apply DW.quiet [0, 1, 2, 3, 4, 5, 6]
    · decide +kernel
    · first | exact fun _ h => h | exact fun _ h => St.sub h (by repeat (first | exact List.Sublist.refl _ | apply List.Sublist.cons_cons | apply List.Sublist.cons))
    repeat'(first|refine yv' ?_|refine uv' ?_|refine un' ?_|(refine us' ?_ ?_;all_goals(intro hc;try simp only[hcs]at hc;try(exfalso;first|contradiction|omega)))|apply QL.nil)
    all_goals (show DW _ _ _ _ _ _ _ _))
  all_goals (
    apply DW.loud 7
    · exact rfl
    · decide +kernel
    repeat'(first|refine kg' ?_|refine kG' ?_|apply kM|refine kv' ?_|refine kK' fun _=>?_|refine kU' ?_|refine kB' fun _=>?_|refine kA' fun _=>?_|(apply LR.call; (· exact rfl); (intro w1 h1; refine (t61 d a c w1 (h1.rd_of (by (repeat (first | exact mH _ _ | apply mT)))) hz (by omega)).mono ?_; rintro v w2 ⟨a3, c3, rfl, hn⟩; refine LR.back (h1.newSl hn) ?_; clear hn h1)))
    all_goals (refine At.stage_same (fun _ h => St.sub h (by repeat (first | exact List.Sublist.refl _ | apply List.Sublist.cons_cons | apply List.Sublist.cons))) ?_))
  all_goals (apply DW.done; (· decide +kernel))
  all_goals apply At.sink
  refine LR.mapUpdate (l := es.map entD) (key := d.seq) (v := d.val a3 c3) rfl rfl rfl (by (repeat (first | exact sH _ _ _ | apply sT))) hfi ?_
  repeat'(first|(apply CW.reg_sinkC 10; (· exact rfl); (· decide +kernel))|refine kv' ?_|apply jJ|refine jE' ?_|refine jp' ?_|(apply jc;kernel_rfl)|refine kg' ?_|refine kG' ?_|refine kB' fun _=>?_|refine kA' fun _=>?_|refine kK' fun _=>?_|refine kU' ?_|((first|refine kR' ?_ ?_|refine kQ' ?_ ?_);all_goals(intro hc;try simp only[hcs]at hc;try(exfalso;first|contradiction|omega))))
  all_goals (
    apply DW.quiet [0, 1, 2, 3, 4, 5, 6, 7, 8, 9]
    · decide +kernel
    · first | exact fun _ h => h | exact fun _ h => St.sub h (by repeat (first | exact List.Sublist.refl _ | apply List.Sublist.cons_cons | apply List.Sublist.cons))
    repeat'(first|refine yv' ?_|(apply QL.ev; (· exact rfl); (· apply Ev.max2; (· exact rfl); (· exact rfl)); (· exact rfl))|refine uv' ?_|refine un' ?_|(refine us' ?_ ?_;all_goals(intro hc;try simp only[hcs]at hc;try(exfalso;first|contradiction|omega)))|apply QL.nil)
    all_goals (show DW _ _ _ _ _ _ _ _))
  all_goals (apply DW.done; (· decide +kernel))
  all_goals apply At.sink
  rw [maxI]
  repeat'(first|refine kv' ?_|apply jJ|refine jE' ?_|refine jp' ?_|(apply jc;kernel_rfl)|refine kg' ?_|refine kG' ?_|refine kB' fun _=>?_|refine kA' fun _=>?_|refine kK' fun _=>?_|refine kU' ?_|((first|refine kR' ?_ ?_|refine kQ' ?_ ?_);all_goals(intro hc;try simp only[hcs]at hc;try(exfalso;first|contradiction|omega))))
  have hlen : (dats (es ++ [⟨d, a3, c3⟩])) = dats es ++ [d] := by unfold dats; simp
  apply CW.loop [4, 5, 8, 9, 55, 56, 57, 58, 59, 60, 61, 62, 63, 64, 65, 66, 67, 68, 69, 70, 71, 72, 73, 74, 75, 76] (fun n : Int => Upto (dats es ++ [d]) n) (fun _ => [])
    (fun n => St w F [wB bw bm n (max high d.seq), mB bm (es ++ [⟨d, a3, c3⟩]), bunD (es ++ [⟨d, a3, c3⟩]), .own b3 (.cells (d.cells a c).toArray 68 (0, 0)), rdA a (bv d.msg.body)]) (fun n => (9007199254740992 - n).toNat)
  · intro w' hw'
    refine ⟨aru, hA.1.more d, trivial, ?_⟩
    have h5 : (es.map entD ++ [(d.seq, d.val a3 c3)]) = (es ++ [(⟨d, a3, c3⟩ : DaA)]).map entD := by simp [entD]
    rw [h5] at hw'
    have h1 : St w F [DaA.body ⟨d, a3, c3⟩, .own b3 (.cells (d.cells a c).toArray 68 (0, 0)), rdA a (bv d.msg.body), wB bw bm aru (max high d.seq), mB bm (es ++ [⟨d, a3, c3⟩]), bunD es] w' := hw'.sub (by (repeat (first | exact List.Sublist.refl _ | apply List.Sublist.cons_cons | apply List.Sublist.cons)))
    have h2 : St w F [DaA.body ⟨d, a3, c3⟩, bunD es, .own b3 (.cells (d.cells a c).toArray 68 (0, 0)), rdA a (bv d.msg.body), wB bw bm aru (max high d.seq), mB bm (es ++ [⟨d, a3, c3⟩])] w' := front (L' := [DaA.body ⟨d, a3, c3⟩, bunD es, .own b3 (.cells (d.cells a c).toArray 68 (0, 0)), rdA a (bv d.msg.body), wB bw bm aru (max high d.seq), mB bm (es ++ [⟨d, a3, c3⟩])]) (front (L' := [bunD es, DaA.body ⟨d, a3, c3⟩, .own b3 (.cells (d.cells a c).toArray 68 (0, 0)), rdA a (bv d.msg.body), wB bw bm aru (max high d.seq), mB bm (es ++ [⟨d, a3, c3⟩])]) h1 5 rfl rfl) 1 rfl rfl
    have h4 := h2.bun_snoc DaA.dep DaA.ex
    exact front (L' := [wB bw bm aru (max high d.seq), mB bm (es ++ [⟨d, a3, c3⟩]), bunD (es ++ [⟨d, a3, c3⟩]), .own b3 (.cells (d.cells a c).toArray 68 (0, 0)), rdA a (bv d.msg.body)]) (front (L' := [mB bm (es ++ [⟨d, a3, c3⟩]), bunD (es ++ [⟨d, a3, c3⟩]), .own b3 (.cells (d.cells a c).toArray 68 (0, 0)), rdA a (bv d.msg.body), wB bw bm aru (max high d.seq)]) h4 4 rfl rfl) 4 rfl rfl
  intro n g1 hn
  have hfd2 := fnd_d (es ++ [⟨d, a3, c3⟩]) (n + 1)
  have hfh2 := fnd_has (dats (es ++ [⟨d, a3, c3⟩])) (n + 1)
  rw [← hfd2, Option.isSome_map, hlen] at hfh2
  have hnb := hn.le hDn
  have hn0 := hn.1
  cases hx : fnd (es ++ [⟨d, a3, c3⟩]) (n + 1) with
  | none =>
    rw [hx] at hfh2
    have hno2 : hasD (dats es ++ [d]) (n + 1) = false := hfh2.symm
    repeat'(first|(apply CW.reg_heldC)|refine kv' ?_|apply jJ|refine jE' ?_|refine jp' ?_|(apply jc;kernel_rfl)|refine kg' ?_|refine kG' ?_|refine kB' fun _=>?_|refine kA' fun _=>?_|refine kK' fun _=>?_|refine kU' ?_|((first|refine kR' ?_ ?_|refine kQ' ?_ ?_);all_goals(intro hc;try simp only[hcs]at hc;try(exfalso;first|contradiction|omega))))
    all_goals (
      apply DW.quiet [0, 1, 2, 3, 4, 5, 6, 7, 8, 9, 10, 11, 12]
      · decide +kernel
      · first | exact fun _ h => h | exact fun _ h => St.sub h (by repeat (first | exact List.Sublist.refl _ | apply List.Sublist.cons_cons | apply List.Sublist.cons))
      repeat'(first|refine yv' ?_|(apply QL.ev; (· exact rfl); (· first | (apply Ev.add; (· exact rfl); (· exact rfl); (· omega); (· omega)) | (apply win_no; (· exact rfl); (· exact rfl); (· exact hx); (· exact fun w' hw' => hw'.own_at (b := bm) (by (repeat (first | exact mH _ _ | apply mT)))))); (· exact rfl))|refine uv' ?_|refine un' ?_|(refine us' ?_ ?_;all_goals(intro hc;try simp only[hcs]at hc;try(exfalso;first|contradiction|omega)))|apply QL.nil)
      all_goals (show DW _ _ _ _ _ _ _ _))
    all_goals (
      apply DW.loud 13
      · exact rfl
      · decide +kernel
      repeat'(first|refine kg' ?_|refine kG' ?_|apply kM|refine kv' ?_|refine kK' fun _=>?_|refine kU' ?_|refine kB' fun _=>?_|refine kA' fun _=>?_)
      all_goals (refine At.stage_same (fun _ h => St.sub h (by repeat (first | exact List.Sublist.refl _ | apply List.Sublist.cons_cons | apply List.Sublist.cons))) ?_))
    all_goals (
      apply DW.loud 14
      · exact rfl
      · decide +kernel
      repeat'(first|refine kg' ?_|refine kG' ?_|apply kM|refine kv' ?_|refine kK' fun _=>?_|refine kU' ?_|refine kB' fun _=>?_|refine kA' fun _=>?_)
      all_goals (refine At.stage_same (fun _ h => St.sub h (by repeat (first | exact List.Sublist.refl _ | apply List.Sublist.cons_cons | apply List.Sublist.cons))) ?_))
    all_goals (
      apply DW.quiet [15]
      · decide +kernel
      · first | exact fun _ h => h | exact fun _ h => St.sub h (by repeat (first | exact List.Sublist.refl _ | apply List.Sublist.cons_cons | apply List.Sublist.cons))
      repeat'(first|refine yv' ?_|(apply QL.ev; (· exact rfl); (· first | (apply Ev.add; (· exact rfl); (· exact rfl); (· omega); (· omega)) | (apply win_no; (· exact rfl); (· exact rfl); (· exact hx); (· exact fun w' hw' => hw'.own_at (b := bm) (by (repeat (first | exact mH _ _ | apply mT)))))); (· exact rfl))|refine uv' ?_|refine un' ?_|(refine us' ?_ ?_;all_goals(intro hc;try simp only[hcs]at hc;try(exfalso;first|contradiction|omega)))|apply QL.nil)
      all_goals (show DW _ _ _ _ _ _ _ _))
    all_goals (first | (apply DW.done_thn; (· decide +kernel)) | (apply DW.done; (· decide +kernel)))
    repeat'(first|refine kv' ?_|apply jJ|refine jE' ?_|refine jp' ?_|(apply jc;kernel_rfl)|refine kg' ?_|refine kG' ?_|refine kB' fun _=>?_|refine kA' fun _=>?_|refine kK' fun _=>?_|refine kU' ?_|((first|refine kR' ?_ ?_|refine kQ' ?_ ?_);all_goals(intro hc;try simp only[hcs]at hc;try(exfalso;first|contradiction|omega))))
    (apply ret2; (· exact rfl); intro w' hS)
    subst hF
    exact ⟨(es ++ [⟨d, a3, c3⟩]), n, rfl, hlen, ⟨hn, hno2⟩, (wO_out (R := []) (hS.sub (by (repeat (first | exact List.Sublist.refl _ | apply List.Sublist.cons_cons | apply List.Sublist.cons))))).step rfl⟩
  | some x =>
    rw [hx] at hfh2
    have hyes : hasD (dats es ++ [d]) (n + 1) = true := hfh2.symm
    have hn1 := (hn.next hyes).le hDn
    repeat'(first|(apply CW.reg_heldC)|refine kv' ?_|apply jJ|refine jE' ?_|refine jp' ?_|(apply jc;kernel_rfl)|refine kg' ?_|refine kG' ?_|refine kB' fun _=>?_|refine kA' fun _=>?_|refine kK' fun _=>?_|refine kU' ?_|((first|refine kR' ?_ ?_|refine kQ' ?_ ?_);all_goals(intro hc;try simp only[hcs]at hc;try(exfalso;first|contradiction|omega))))
    all_goals (
      apply DW.quiet [0, 1, 2, 3, 4, 5, 6, 7, 8, 9, 10, 11, 12]
      · decide +kernel
      · first | exact fun _ h => h | exact fun _ h => St.sub h (by repeat (first | exact List.Sublist.refl _ | apply List.Sublist.cons_cons | apply List.Sublist.cons))
      repeat'(first|refine yv' ?_|(apply QL.ev; (· exact rfl); (· first | (apply Ev.add; (· exact rfl); (· exact rfl); (· omega); (· omega)) | (apply win_yes; (· exact rfl); (· exact rfl); (· exact hx); (· exact fun w' hw' => hw'.own_at (b := bm) (by (repeat (first | exact mH _ _ | apply mT)))))); (· exact rfl))|refine uv' ?_|refine un' ?_|(refine us' ?_ ?_;all_goals(intro hc;try simp only[hcs]at hc;try(exfalso;first|contradiction|omega)))|apply QL.nil)
      all_goals (show DW _ _ _ _ _ _ _ _))
    all_goals (
      apply DW.loud 13
      · exact rfl
      · decide +kernel
      repeat'(first|refine kg' ?_|refine kG' ?_|apply kM|refine kv' ?_|refine kK' fun _=>?_|refine kU' ?_|refine kB' fun _=>?_|refine kA' fun _=>?_)
      all_goals (refine At.stage_same (fun _ h => St.sub h (by repeat (first | exact List.Sublist.refl _ | apply List.Sublist.cons_cons | apply List.Sublist.cons))) ?_))
    all_goals (
      apply DW.loud 14
      · exact rfl
      · decide +kernel
      repeat'(first|refine kg' ?_|refine kG' ?_|apply kM|refine kv' ?_|refine kK' fun _=>?_|refine kU' ?_|refine kB' fun _=>?_|refine kA' fun _=>?_)
      all_goals (refine At.stage_same (fun _ h => St.sub h (by repeat (first | exact List.Sublist.refl _ | apply List.Sublist.cons_cons | apply List.Sublist.cons))) ?_))
    all_goals (
      apply DW.quiet [15]
      · decide +kernel
      · first | exact fun _ h => h | exact fun _ h => St.sub h (by repeat (first | exact List.Sublist.refl _ | apply List.Sublist.cons_cons | apply List.Sublist.cons))
      repeat'(first|refine yv' ?_|(apply QL.ev; (· exact rfl); (· first | (apply Ev.add; (· exact rfl); (· exact rfl); (· omega); (· omega)) | (apply win_yes; (· exact rfl); (· exact rfl); (· exact hx); (· exact fun w' hw' => hw'.own_at (b := bm) (by (repeat (first | exact mH _ _ | apply mT)))))); (· exact rfl))|refine uv' ?_|refine un' ?_|(refine us' ?_ ?_;all_goals(intro hc;try simp only[hcs]at hc;try(exfalso;first|contradiction|omega)))|apply QL.nil)
      all_goals (show DW _ _ _ _ _ _ _ _))
    all_goals (first | (apply DW.done_thn; (· decide +kernel)) | (apply DW.done; (· decide +kernel)))
    repeat'(first|refine kv' ?_|apply jJ|refine jE' ?_|refine jp' ?_|(apply jc;kernel_rfl)|refine kg' ?_|refine kG' ?_|refine kB' fun _=>?_|refine kA' fun _=>?_|refine kK' fun _=>?_|refine kU' ?_|(apply addX;(iterate 2 exact rfl);(iterate 2(first|omega|(dsimp only;omega)));exact rfl)|((first|refine kR' ?_ ?_|refine kQ' ?_ ?_);all_goals(intro hc;try simp only[hcs]at hc;try(exfalso;first|contradiction|omega))))
    refine At.again (n + 1) (hn.next hyes) ?_ trivial (fun w' hw' => hw'.sub (by (repeat (first | exact List.Sublist.refl _ | apply List.Sublist.cons_cons | apply List.Sublist.cons)))) (by omega)
    (repeat (first | exact Out.refl _ _ | exact Out.mix | (apply Out.upd; (· exact rfl)) | (apply Out.updL; (· exact rfl)) | (apply Out.mixs; (· exact rfl))))
end Go.Proofs.Ytgblmkpfkcibiaa

namespace Go.Proofs.Ytgblmkpfkcibiaa
open Go.Hb
attribute [local irreducible] LR CW At Ev thn blk finK noG again CallsTo
set_option linter.unusedSimpArgs false
set_option linter.unusedVariables false
set_option maxRecDepth 100000

def rmay (s r : Int) : Bool := !(decide (s = 0 ∧ r = 0)) && ringB s r
structure Tk where
  r1 : Int
  r2 : Int
  hop : Int
  seq : Int
  aru : Int
  low : Int
  stamp : Int
  idle : Int
  ask : List Int
deriving DecidableEq
def Tk.cells (t : Tk) (a : Option Addr) (c : Nat) : List Value := [.int .i64 t.r1, .int .i64 t.r2, .int .i64 t.hop, .int .i64 t.seq, .int .i64 t.aru, .int .i64 t.low, .int .i64 t.stamp, .int .i64 t.idle, .slice a t.ask.length c]
def Tk.val (t : Tk) (a : Option Addr) (c : Nat) : Value := .agg (t.cells a c).toArray
def noTk : Tk := ⟨0, 0, 0, 0, 0, 0, 0, 0, []⟩
def Tk.headB (t : Tk) : Bool := rmay t.r1 t.r2 && withinB t.hop 1 9007199254740991 && withinB t.seq 0 9007199254740991 && withinB t.aru 0 t.seq && withinB t.low 0 8 && withinB t.stamp 0 9007199254740991 && withinB t.idle 0 9007199254740991 && decide (t.ask.length ≤ 16)
def askB (q : Int) : Int → List Int → Bool
  | _, [] => true
  | z, x :: l => withinB x (z + 1) q && askB q x l
def lastI (z : Int) (l : List Int) : Int := l.getLastD z
theorem askB_snoc (q : Int) : ∀ (l : List Int) (z x : Int), askB q z (l ++ [x]) = (askB q z l && withinB x (lastI z l + 1) q)
  | [], z, x => by simp [askB, lastI]
  | y :: l, z, x => by
    rw [List.cons_append, askB, askB, askB_snoc q l y x, Bool.and_assoc]
    congr 3
    unfold lastI
    cases l <;> simp [List.getLastD]
theorem askB_last (q : Int) : ∀ (l : List Int) (z : Int), askB q z l = true → z ≤ lastI z l ∧ (l ≠ [] → lastI z l ≤ q)
  | [], z, _ => ⟨by simp [lastI], fun h => absurd rfl h⟩
  | y :: l, z, h => by
    rw [askB, Bool.and_eq_true] at h
    have h1 := h.1
    unfold withinB at h1
    simp only [Bool.and_eq_true, decide_eq_true_eq] at h1
    have h2 := askB_last q l y h.2
    have e : lastI z (y :: l) = lastI y l := by unfold lastI; cases l <;> simp [List.getLastD]
    rw [e]
    refine ⟨by omega, fun _ => ?_⟩
    by_cases hl : l = []
    · subst hl; simp [lastI]; omega
    · exact h2.2 hl
def tokB (t : Tk) : Bool := t.headB && askB t.seq 0 t.ask
def tokE (t : Tk) : Int := if tokB t then 0 else 2
def mayAt (t : Tk) (i : Nat) : Bool := t.headB && askB t.seq 0 (t.ask.take i)
def lastAt (t : Tk) (i : Nat) : Int := lastI 0 (t.ask.take i)
theorem lastAt_bd {t : Tk} {i : Nat} (h : mayAt t i = true) : 0 ≤ lastAt t i ∧ lastAt t i ≤ 9007199254740991 := by
  unfold mayAt at h
  rw [Bool.and_eq_true] at h
  have h2 := askB_last t.seq _ 0 h.2
  have h1 := h.1
  unfold Tk.headB withinB at h1
  simp only [Bool.and_eq_true, decide_eq_true_eq] at h1
  unfold lastAt
  by_cases hl : t.ask.take i = []
  · rw [hl]; simp [lastI]
  · have := h2.2 hl; omega
theorem mayAt_succ {t : Tk} {i : Nat} (h : i < t.ask.length) : mayAt t (i + 1) = (mayAt t i && withinB t.ask[i] (lastAt t i + 1) t.seq) := by
  unfold mayAt lastAt
  rw [List.take_add_one, List.getElem?_eq_getElem h, Option.toList_some, askB_snoc, Bool.and_assoc]
theorem lastAt_succ {t : Tk} {i : Nat} (h : i < t.ask.length) : lastAt t (i + 1) = t.ask[i] := by
  unfold lastAt lastI
  rw [List.take_add_one, List.getElem?_eq_getElem h, Option.toList_some, List.getLastD_eq_getLast?, List.getLast?_append]
  simp
end Go.Proofs.Ytgblmkpfkcibiaa

namespace Go.Proofs.Ytgblmkpfkcibiaa
open Go.Hb
attribute [local irreducible] LR CW At Ev thn blk finK noG again CallsTo
set_option linter.unusedSimpArgs false
set_option linter.unusedVariables false
set_option maxRecDepth 100000

abbrev il (a : Option Addr) (c : Nat) (l : List Int) : Asrt := osl (.slice a l.length c) 3 1 l.length (iv l)
abbrev idl (a : Option Addr) (c : Nat) (l : List Int) : Asrt := odl (.slice a l.length c) 3 1 l.length (iv l)
theorem iv1 (l : List Int) : (iv l).all Value.oneCell' = true := by simp [iv, Value.oneCell']
theorem rd_none0 {w : World} {a : Option Addr} {l : List Int} (hr : Rd w a (iv l)) (h : a = none) : l.length = 0 := by
  subst h
  cases l with
  | nil => rfl
  | cons x t =>
    obtain ⟨ad, he, _⟩ := hr 0 _ rfl
    cases he
theorem t13 (a : Option Addr) (ca : Nat) (l : List Int) (w : World) (hr : Rd w a (iv l)) (hz : a = none → ca = 0) (hm : l.length ≤ 17592186043904) :
    CallsTo Try.prog 12 [.slice a l.length ca] w fun v w' => ∃ a' c', v = .slice a' l.length c' ∧ NewSl w w' (.slice a' l.length c') 3 1 l.length (iv l) := by
  refine go_in (n := 8) (St.rd1 hr) Try.func12 rfl rfl ?_
  repeat'(first|refine kv' ?_|apply jJ|refine jE' ?_|refine jp' ?_|(apply jc;kernel_rfl)|refine kg' ?_|refine kG' ?_|refine kB' fun _=>?_|refine kA' fun _=>?_|refine kK' fun _=>?_|refine kU' ?_|((first|refine kR' ?_ ?_|refine kQ' ?_ ?_);all_goals(intro hc;try simp only[hcs]at hc;try(exfalso;first|contradiction|omega))))
  refine LR.append_nil (news := iv l) rfl rfl (fun w' hw' => hw'.rd_of (List.Mem.head _)) (fun hx => ⟨rd_none0 hr hx, hz hx⟩) (by simp) (iv1 l) (by omega) (by unfold maxLen; omega) rfl ?_; intro a' c'
  repeat'(first|refine kv' ?_|apply jJ|refine jE' ?_|refine jp' ?_|(apply jc;kernel_rfl)|refine kg' ?_|refine kG' ?_|refine kB' fun _=>?_|refine kA' fun _=>?_|refine kK' fun _=>?_|refine kU' ?_|((first|refine kR' ?_ ?_|refine kQ' ?_ ?_);all_goals(intro hc;try simp only[hcs]at hc;try(exfalso;first|contradiction|omega))))
  (apply ret1; (· exact rfl); intro w' hS)
  exact ⟨_, _, rfl, hS.toNew (List.Mem.head _)⟩
theorem take_succ_eq' {l r : List Int} {i : Nat} (h : i < l.length) (hr : i < r.length) (he : l.take i = r.take i) (hx : l[i] = r[i]) : l.take (i + 1) = r.take (i + 1) := by
  rw [List.take_add_one, List.take_add_one, List.getElem?_eq_getElem h, List.getElem?_eq_getElem hr, he, hx]
theorem t19 (a b : Option Addr) (ca cb : Nat) (la lb : List Int) (w : World) (ha : Rd w a (iv la)) (hb : Rd w b (iv lb)) (hm : la.length ≤ 17592186043904) :
    CallsTo Try.prog 17 [.slice a la.length ca, .slice b lb.length cb] w fun v w' => v = .bool (decide (la = lb)) ∧ Grew w w' := by
  refine go_in (n := 26) (St.rd2 ha hb) Try.func17 rfl rfl ?_
  repeat'(first|refine kv' ?_|apply jJ|refine jE' ?_|refine jp' ?_|(apply jc;kernel_rfl)|refine kg' ?_|refine kG' ?_|refine kB' fun _=>?_|refine kA' fun _=>?_|refine kK' fun _=>?_|refine kU' ?_|((first|refine kR' ?_ ?_|refine kQ' ?_ ?_);all_goals(intro hc;try simp only[hcs]at hc;try(exfalso;first|contradiction|omega))))
  · (apply ret1; (· exact rfl); intro w' hS)
    refine ⟨congrArg Value.bool ?_, hS.toKeep⟩
    have : la ≠ lb := fun e => by subst e; simp at hc
    simp [this]
  · apply CW.loop [4, 5, 11, 12, 13, 14, 15, 16, 17, 18, 19, 20, 21, 22, 23, 24, 25] (fun i : Nat => i ≤ la.length ∧ la.take i = lb.take i) (fun i : Nat => [(5, Value.int .i64 i)]) (fun i => St w NoF [rdA a (iv la), rdA b (iv lb)]) (fun i => la.length - i)
    · exact fun w' hw' => ⟨0, ⟨by omega, by simp⟩, ⟨rfl, trivial⟩, hw'⟩
    intro i g ⟨hi, heq⟩
    by_cases hlt : i < la.length
    · obtain ⟨ba, oa, rfl⟩ := ha.form (fun e => by have := congrArg List.length e; simp at this; subst this; simp at hlt)
      obtain ⟨bb, ob, rfl⟩ := hb.form (fun e => by have := congrArg List.length e; simp at this; subst this; simp at hc; simp [hc] at hlt)
      have hlb : i < lb.length := by omega
      repeat'(first|refine kv' ?_|apply jJ|refine jE' ?_|refine jp' ?_|(apply jc;kernel_rfl)|refine kg' ?_|refine kG' ?_|refine kB' fun _=>?_|refine kA' fun _=>?_|refine kK' fun _=>?_|refine kU' ?_|(apply idxX;(iterate 2 exact rfl);(iterate 2(first|omega|(dsimp only;omega)));exact rfl)|(apply LR.ev; (· apply Ev.load_rd; (· exact rfl); (· repeat (first | exact mH _ _ | apply mT)); (· exact iv_at (i := i) (by simp) (by omega))); (· exact rfl))|(apply addX;(iterate 2 exact rfl);(iterate 2(first|omega|(dsimp only;omega)));exact rfl)|((first|refine kR' ?_ ?_|refine kQ' ?_ ?_);all_goals(intro hc;try simp only[hcs]at hc;try(exfalso;first|contradiction|omega))))
      · (apply ret1; (· exact rfl); intro w' hS)
        refine ⟨congrArg Value.bool ?_, hS.toKeep⟩
        have : la ≠ lb := fun e => by subst e; simp_all
        simp [this]
      · apply At.again (i + 1) ⟨by omega, take_succ_eq' hlt hlb heq (by simpa using ‹_›)⟩
        · (repeat (first | exact Out.refl _ _ | exact Out.mix | (apply Out.upd; (· exact rfl)) | (apply Out.updL; (· exact rfl)) | (apply Out.mixs; (· exact rfl))))
        · exact ⟨rfl, trivial⟩
        · exact fun w' hw' => hw'
        · omega
    · have hie : i = la.length := by omega
      subst hie
      repeat'(first|refine kv' ?_|apply jJ|refine jE' ?_|refine jp' ?_|(apply jc;kernel_rfl)|refine kg' ?_|refine kG' ?_|refine kB' fun _=>?_|refine kA' fun _=>?_|refine kK' fun _=>?_|refine kU' ?_|((first|refine kR' ?_ ?_|refine kQ' ?_ ?_);all_goals(intro hc;try simp only[hcs]at hc;try(exfalso;first|contradiction|omega))))
      (apply ret1; (· exact rfl); intro w' hS)
      refine ⟨congrArg Value.bool ?_, hS.toKeep⟩
      have hl : la.length = lb.length := by omega
      rw [List.take_length, hl, List.take_length] at heq
      simp [heq]
def newTk (r1 r2 s : Int) : Tk × Int := if rmay r1 r2 && withinB s 0 9007199254740991 then (⟨r1, r2, 1, 0, 0, 0, s, 0, []⟩, 0) else (noTk, 2)
end Go.Proofs.Ytgblmkpfkcibiaa

namespace Go.Proofs.Ytgblmkpfkcibiaa
open Go.Hb
attribute [local irreducible] LR CW At Ev thn blk finK noG again CallsTo DW QL dnext TW DP
set_option linter.unusedSimpArgs false
set_option linter.unusedVariables false
set_option maxRecDepth 100000

def absent (D : List Dat) (a : Int) (n : Nat) : List Int := ((List.range n).map fun k : Nat => a + (k : Int)).filter fun s => !hasD D s
theorem absent_succ (D : List Dat) (a : Int) (k : Nat) : absent D a (k + 1) = absent D a k ++ if hasD D (a + k) then [] else [a + (k : Int)] := by
  unfold absent
  rw [List.range_succ, List.map_append, List.filter_append]
  congr 1
  by_cases h : hasD D (a + k) = true
  · simp [h]
  · simp [h]
theorem absent_split (D : List Dat) (a : Int) (k : Nat) : ∀ j, absent D a (k + j) = absent D a k ++ absent D (a + k) j
  | 0 => by simp [absent]
  | j + 1 => by
    rw [← Nat.add_assoc, absent_succ, absent_split D a k j, absent_succ, List.append_assoc]
    have : a + ((k + j : Nat) : Int) = a + (k : Int) + (j : Int) := by omega
    rw [this]
theorem absent_upto {D : List Dat} {n : Int} (h : Upto D n) : ∀ k : Nat, (k : Int) ≤ n → absent D 1 k = []
  | 0, _ => rfl
  | k + 1, hk => by rw [absent_succ, absent_upto h k (by omega), h.2 (1 + k) (by omega) (by omega)]; rfl
theorem absent_len (D : List Dat) (a : Int) (n : Nat) : (absent D a n).length ≤ n := by
  unfold absent
  refine Nat.le_trans (List.length_filter_le _ _) ?_
  simp
def gapsT (D : List Dat) (high most : Int) : List Int := (absent D 1 high.toNat).take (min most 16).toNat
theorem gapsT_from {D : List Dat} {aru high : Int} (h : Upto D aru) (hh : aru ≤ high) (most : Int) : gapsT D high most = (absent D (aru + 1) (high - aru).toNat).take (min most 16).toNat := by
  unfold gapsT
  have h0 := h.1
  have e : high.toNat = aru.toNat + (high - aru).toNat := by omega
  rw [e, absent_split, absent_upto h _ (by omega), List.nil_append]
  have e2 : (1 : Int) + (aru.toNat : Int) = aru + 1 := by omega
  rw [e2]
structure Gst where
  k : Nat
  a : Option Addr
  c : Nat
end Go.Proofs.Ytgblmkpfkcibiaa

namespace Go.Proofs
open Go.Shelf
def Try.lays189_ren : Go.Shelf.Ren := ⟨fun | 189 => 54 | 125 => 83 | 257 => 82 | 128 => 107 | 129 => 108 | 294 => 98 | 295 => 99 | 296 => 100 | 297 => 101 | 298 => 102 | 299 => 103 | 216 => 104 | 300 => 105 | 301 => 106 | 328 => 122 | 329 => 123 | 330 => 124 | 331 => 125 | 332 => 126 | 215 => 91 | 343 => 139 | n => n, fun | 28 => 22 | 3 => 3 | 46 => 124 | 0 => 0 | 51 => 141 | 53 => 56 | 4 => 4 | 183 => 135 | 182 => 134 | 131 => 29 | 5 => 5 | 9 => 9 | 218 => 161 | 222 => 158 | 228 => 175 | 229 => 87 | n => n, fun | n => n⟩
theorem Try.lays189 : Go.Proofs.Lays.n189 Try.prog Try.lays189_ren := {
  mixed := by kernel_rfl
  f125 := Try.func83.trans (congrArg some (by kernel_rfl))
  f128 := Try.func107.trans (congrArg some (by kernel_rfl))
  f129 := Try.func108.trans (congrArg some (by kernel_rfl))
  f189 := Try.func54.trans (congrArg some (by kernel_rfl))
  f215 := Try.func91.trans (congrArg some (by kernel_rfl))
  f216 := Try.func104.trans (congrArg some (by kernel_rfl))
  f257 := Try.func82.trans (congrArg some (by kernel_rfl))
  f294 := Try.func98.trans (congrArg some (by kernel_rfl))
  f295 := Try.func99.trans (congrArg some (by kernel_rfl))
  f296 := Try.func100.trans (congrArg some (by kernel_rfl))
  f297 := Try.func101.trans (congrArg some (by kernel_rfl))
  f298 := Try.func102.trans (congrArg some (by kernel_rfl))
  f299 := Try.func103.trans (congrArg some (by kernel_rfl))
  f300 := Try.func105.trans (congrArg some (by kernel_rfl))
  f301 := Try.func106.trans (congrArg some (by kernel_rfl))
  f328 := Try.func122.trans (congrArg some (by kernel_rfl))
  f329 := Try.func123.trans (congrArg some (by kernel_rfl))
  f330 := Try.func124.trans (congrArg some (by kernel_rfl))
  f331 := Try.func125.trans (congrArg some (by kernel_rfl))
  f332 := Try.func126.trans (congrArg some (by kernel_rfl))
  f343 := Try.func139.trans (congrArg some (by kernel_rfl))
  t0 := Try.underlying0
  a0 := Try.isAgg0
  z0 := Try.sizeOf0
  v0 := Try.zeroValue0
  t3 := Try.underlying3
  a3 := Try.isAgg3
  z3 := Try.sizeOf3
  v3 := Try.zeroValue3
  t4 := Try.underlying4
  a4 := Try.isAgg4
  z4 := Try.sizeOf4
  v4 := Try.zeroValue4
  t5 := Try.underlying5
  a5 := Try.isAgg5
  z5 := Try.sizeOf5
  v5 := Try.zeroValue5
  t9 := Try.underlying9
  a9 := Try.isAgg9
  z9 := Try.sizeOf9
  v9 := Try.zeroValue9
  t28 := Try.underlying22
  a28 := Try.isAgg22
  z28 := Try.sizeOf22
  v28 := Try.zeroValue22
  t46 := Try.underlying124
  a46 := Try.isAgg124
  z46 := Try.sizeOf124
  v46 := Try.zeroValue124
  t51 := Try.underlying141
  a51 := Try.isAgg141
  z51 := Try.sizeOf141
  v51 := Try.zeroValue141
  t53 := Try.underlying56
  a53 := Try.isAgg56
  z53 := Try.sizeOf56
  v53 := Try.zeroValue56
  t131 := Try.underlying29
  a131 := Try.isAgg29
  z131 := Try.sizeOf29
  v131 := Try.zeroValue29
  t182 := Try.underlying134
  a182 := Try.isAgg134
  z182 := Try.sizeOf134
  v182 := Try.zeroValue134
  t183 := Try.underlying135
  a183 := Try.isAgg135
  z183 := Try.sizeOf135
  v183 := Try.zeroValue135
  t218 := Try.underlying161
  a218 := Try.isAgg161
  z218 := Try.sizeOf161
  v218 := Try.zeroValue161
  t222 := Try.underlying158
  a222 := Try.isAgg158
  z222 := Try.sizeOf158
  v222 := Try.zeroValue158
  t228 := Try.underlying175
  a228 := Try.isAgg175
  z228 := Try.sizeOf175
  v228 := Try.zeroValue175
  t229 := Try.underlying87
  a229 := Try.isAgg87
  z229 := Try.sizeOf87
  v229 := Try.zeroValue87 }
open Go.Sort Go.RowKit in
theorem Try.slices_Sort_int (blk off cap : Nat) (zs : List Int) (w : World) (hH : Holds (Value.int .i64) w blk off zs.toArray) (hblk : blk < w.heap.size) (hsz : zs.length < 4611686018427387904) :
    Calls Try.prog 54 #[.slice (some ⟨blk, off, none⟩) zs.length cap] w fun e w' =>
      e = .returned (.tuple #[]) ∧ ∃ n os, w' = grow (putRow (Value.int .i64) (Sort.ahead w n) blk off (zs.mergeSort fun x y => decide (x ≤ y)).toArray) os := Any.slices_Sort_int Try.lays189 blk off cap zs w hH hblk hsz
theorem Try.slices_Sort_int_none (p : Option Addr) (cap : Nat) (w : World) :
    Calls Try.prog 54 #[.slice p 0 cap] w fun e w' => e = .returned (.tuple #[]) ∧ w' = w := Any.slices_Sort_int_none Try.lays189 p cap w
end Go.Proofs

namespace Go.Proofs.Ytgblmkpfkcibiaa
open Go.Hb
attribute [local irreducible] LR CW At Ev thn blk finK noG again CallsTo
set_option linter.unusedSimpArgs false
set_option linter.unusedVariables false
set_option maxRecDepth 100000

def sortI (l : List Int) : List Int := l.mergeSort fun x y => decide (x ≤ y)
theorem sortI_len (l : List Int) : (sortI l).length = l.length := List.length_mergeSort ..
theorem compact_len (l : List Int) : (Lib.compact l).length ≤ l.length := by
  unfold Lib.compact Lib.compactUpTo
  rw [List.length_map]
  refine Nat.le_trans (List.length_filter_le _ _) ?_
  simp
theorem callsTo_of {P : Program} {g : FuncId} {args : List Value} {w : World} {R : Ending → World → Prop} {K : Value → World → Prop} (h : Calls P g args.toArray w R) (hk : ∀ e w', R e w' → ∃ v, e = .returned v ∧ K v w') : CallsTo P g args w K :=
  by unfold CallsTo; exact Calls.mono h hk
theorem il_stay {w : World} {a : Option Addr} {c : Nat} {l : List Int} (h : w.ownsRow 0 3 1 (.slice a l.length c) l.length (iv l)) : Step (il a c l) (il a c l) w w :=
  ⟨St.refl w _, h, fun _ hk => .inl hk⟩
theorem t53 (a : Option Addr) (c : Nat) (l : List Int) (w : World) (h : w.ownsRow 0 3 1 (.slice a l.length c) l.length (iv l)) (hm : l.length ≤ 140737488355328) :
    CallsTo Try.prog 54 [.slice a l.length c] w fun v w' => v = .tuple #[] ∧ Step (il a c l) (il a c (sortI l)) w w' := by
  by_cases hl : l = []
  · subst hl
    refine callsTo_of (Try.slices_Sort_int_none a c w) ?_
    rintro e w' ⟨rfl, rfl⟩
    exact ⟨_, rfl, rfl, by simpa [sortI] using il_stay h⟩
  · rcases h.2 with ⟨he, hn⟩ | ⟨g, cap, cur, he, hb, hg, h1, h2, h3, h4⟩
    · exact absurd (List.eq_nil_of_length_eq_zero hn) hl
    simp only [Value.slice.injEq, true_and] at he
    obtain ⟨rfl, rfl⟩ := he
    rw [Nat.mul_one] at h4
    refine callsTo_of (Try.slices_Sort_int g 0 c l w (holds_of_blockI hg h4) ((Array.getElem?_eq_some_iff.1 hg).1) (by omega)) ?_
    rintro e w' ⟨rfl, n, os, rfl⟩
    refine ⟨_, rfl, rfl, keep_of_grown (grownBy_sortedI _) (fun k hk => ?_), ?_, fun k hk => .inl hk⟩
    · cases hk; exact rfl
    · have := ownsRow_sortedI (base := 0) (n := n) (os := os) (sortI_len l) (Nat.zero_le _) hg h1 h2 h3
      show World.ownsRow _ _ _ _ _ _ _
      rw [sortI_len]
      exact this
/-- l[:k:k] -/
theorem Ev.slice_cut {P : Program} {f : Frm} {T T' E : TypeId} {x y z : Operand} {C : World → Prop} {sz by_ k c j : Nat} {a : Option Addr} [h : SliceOf P T E sz by_] (hx : f.ev x = .slice a k c) (hy : f.ev y = .int .i64 (j : Int)) (hz : f.ev z = .int .i64 (j : Int)) (h2 : j ≤ c) :
    Ev P C f (.slice T x none (some y) (some z)) T' (.slice (subA a j 0 sz) j j) := by
  unfold Ev
  intro w _ d p af g
  simp [execOp, hx, hy, hz, Instr.sliceAt, Instr.slice, Instr.sliceBounds, Instr.sliceBound, asIntOf, run_underlying h.und, size_of_slice h, h2, subA]
theorem ownsAt_cut {w : World} {E : TypeId} {sz k c l : Nat} {a : Option Addr} {xs : List Value} (h : ownsAt w E sz (.slice a k c) k xs) (hl : l ≤ k) : ownsAt w E sz (.slice a l l) l (xs.take (l * sz)) := by
  have hm : l * sz ≤ k * sz := Nat.mul_le_mul_right _ hl
  refine ⟨by rw [List.length_take, h.1]; omega, ?_⟩
  rcases h.2 with ⟨he, hn⟩ | ⟨g, o, cap, cur, he, hg, h1, h2, h3, h4⟩
  · simp only [Value.slice.injEq] at he
    obtain ⟨rfl, _, rfl⟩ := he
    have : l = 0 := by omega
    subst this
    exact .inl ⟨rfl, rfl⟩
  · simp only [Value.slice.injEq] at he
    obtain ⟨rfl, _, rfl⟩ := he
    have hm2 : l * sz ≤ c * sz := Nat.mul_le_mul_right _ (by omega)
    refine .inr ⟨g, o, l, cur, rfl, hg, by omega, by omega, by omega, ?_⟩
    rw [← h4, List.take_take, Nat.min_eq_left hm]
theorem ownsAt_sub0 {w : World} {E : TypeId} {sz n c j : Nat} {a : Option Addr} {xs : List Value} (h : ownsAt w E sz (.slice a n c) n xs) : subA a j 0 sz = a := by
  rcases h.2 with ⟨he, hn⟩ | ⟨g, o, cap, cur, he, _⟩
  · simp only [Value.slice.injEq] at he
    obtain ⟨rfl, _, rfl⟩ := he
    simp [subA]
  · simp only [Value.slice.injEq] at he
    obtain ⟨rfl, _, rfl⟩ := he
    exact subA_zero
/-- A new slice that may be a piece of its block. -/
structure NewOd (w w' : World) (v : Value) (E : TypeId) (sz n : Nat) (xs : List Value) : Prop where
  grew : Grew w w'
  own : ownsAt w' E sz v n xs
  new : ∀ k, v.ownBlock = some k → w.heap.size ≤ k ∧ k < w'.heap.size
theorem St.newOd {w0 w w' : World} {F : Nat → Prop} {L : List Asrt} {v : Value} {E : TypeId} {sz n : Nat} {xs : List Value} (h : St w0 F L w) (hn : NewOd w w' v E sz n xs) : St w0 F (odl v E sz n xs :: L) w' :=
  h.push hn.grew hn.own (fun k hk => hn.new k hk) (odl.dep _ _ _ _ _)
end Go.Proofs.Ytgblmkpfkcibiaa

namespace Go.Proofs
open Go.Shelf
def Try.keysA_ren : Go.Shelf.Ren := ⟨fun | 7 => 78 | 10 => 97 | n => n, fun | 23 => 102 | 26 => 3 | 3 => 68 | 28 => 116 | 0 => 0 | 27 => 115 | 33 => 98 | 4 => 4 | n => n, fun | n => n⟩
theorem Try.keysA : Go.Proofs.SlLaysZI.n7 Try.prog Try.keysA_ren := {
  mixed := by kernel_rfl
  f7 := ⟨Try.f78.name, by decide, Try.func78.trans (congrArg some (by kernel_rfl))⟩
  f10 := ⟨Try.f97.name, by decide, Try.func97.trans (congrArg some (by kernel_rfl))⟩
  t0 := Try.underlying0
  a0 := Try.isAgg0
  z0 := Try.sizeOf0
  v0 := Try.zeroValue0
  t4 := Try.underlying4
  a4 := Try.isAgg4
  z4 := Try.sizeOf4
  v4 := Try.zeroValue4
  t23 := Try.underlying102
  a23 := Try.isAgg102
  z23 := Try.sizeOf102
  v23 := Try.zeroValue102
  t26 := Try.underlying3
  a26 := Try.isAgg3
  z26 := Try.sizeOf3
  v26 := Try.zeroValue3
  t27 := Try.underlying115
  a27 := Try.isAgg115
  z27 := Try.sizeOf115
  v27 := Try.zeroValue115
  t28 := Try.underlying116
  a28 := Try.isAgg116
  z28 := Try.sizeOf116
  v28 := Try.zeroValue116
  t33 := Try.underlying98
  a33 := Try.isAgg98
  z33 := Try.sizeOf98
  v33 := Try.zeroValue98 }
def Try.sortedA_ren : Go.Shelf.Ren := ⟨fun | 6 => 77 | 8 => 96 | 9 => 54 | 11 => 121 | 13 => 83 | 12 => 82 | 23 => 107 | 24 => 108 | 14 => 98 | 15 => 99 | 16 => 100 | 17 => 101 | 18 => 102 | 19 => 103 | 20 => 104 | 21 => 105 | 22 => 106 | 25 => 122 | 26 => 123 | 27 => 124 | 28 => 125 | 29 => 126 | 30 => 91 | 31 => 139 | n => n, fun | 26 => 3 | 28 => 116 | 24 => 22 | 0 => 0 | 3 => 3 | 37 => 124 | 48 => 141 | 50 => 56 | 4 => 4 | 40 => 135 | 39 => 134 | 45 => 29 | 5 => 5 | 9 => 9 | 51 => 161 | 55 => 158 | 57 => 175 | 58 => 87 | 33 => 98 | n => n, fun | n => n⟩
theorem Try.sortedA : Go.Proofs.SlLaysZI.n6 Try.prog Try.sortedA_ren := {
  mixed := by kernel_rfl
  f6 := ⟨Try.f77.name, by decide, Try.func77.trans (congrArg some (by kernel_rfl))⟩
  f8 := ⟨Try.f96.name, by decide, Try.func96.trans (congrArg some (by kernel_rfl))⟩
  f11 := ⟨Try.f121.name, by decide, Try.func121.trans (congrArg some (by kernel_rfl))⟩
  t0 := Try.underlying0
  a0 := Try.isAgg0
  z0 := Try.sizeOf0
  v0 := Try.zeroValue0
  t24 := Try.underlying22
  a24 := Try.isAgg22
  z24 := Try.sizeOf22
  v24 := Try.zeroValue22
  t26 := Try.underlying3
  a26 := Try.isAgg3
  z26 := Try.sizeOf3
  v26 := Try.zeroValue3
  t28 := Try.underlying116
  a28 := Try.isAgg116
  z28 := Try.sizeOf116
  v28 := Try.zeroValue116
  i26 := by kernel_rfl }
end Go.Proofs

namespace Go.Proofs.Ytgblmkpfkcibiaa
open Go.Hb Go.Maps Go.Sort Go.Shelf Go.RowKit
set_option linter.unusedSimpArgs false
set_option linter.unusedVariables false
set_option maxRecDepth 100000

abbrev rU : Value → Option (DataW Unit × List MemPlace) := fun _ => some (.nil, [])
theorem sortsA (m : Nat) : AnyZI.SortsIn Try.prog Try.sortedA_ren Fence.wide m :=
  ⟨fun blk off cap ss W hH hblk hsz => callsIn_wide.2 (Try.slices_Sort_int blk off cap ss W hH hblk hsz), fun p cap W => callsIn_wide.2 (Try.slices_Sort_int_none p cap W)⟩
theorem ents_list (q : IntKind) : ∀ (l : List (Int × Value)) (n : Nat), (ents q n l).map (·.key) = l.map (fun x => Value.int q x.1) ∧ (ents q n l).map (·.born) = List.range' n l.length
  | [], n => ⟨rfl, rfl⟩
  | x :: r, n => by
    obtain ⟨h1, h2⟩ := ents_list q r (n + 1)
    simp [ents, h1, h2, List.range'_succ]
theorem key_i64 {x : Int} (h : -9223372036854775808 ≤ x ∧ x ≤ 9223372036854775807) : keyOf Try.prog 3 (.int .i64 x) = some (.int .i64 x) := by
  have e1 : IntKind.i64.min = -9223372036854775808 := rfl
  have e2 : IntKind.i64.max = 9223372036854775807 := rfl
  have hw : (Lit.int .i64 x).wf = true := by
    simp only [Lit.wf, e1, e2, Bool.and_eq_true, decide_eq_true_eq]
    omega
  simp [keyOf, Try.underlying3, mapKey, hw]
theorem keys_own {w : World} {bm : Nat} {es : List DaA} (hb : w.heap[bm]? = some (mapObj .i64 (es.map entD))) (hD : WOk (dats es)) (hl : es.length ≤ 100000) :
    ∃ D0 : DataW Unit, w.ownsMap Try.prog 3 rU bm es.length D0 ∧ (intKeys D0).Perm ((dats es).map Dat.seq) ∧ Maps.size D0 = es.length := by
  obtain ⟨hk, hbn⟩ := ents_list .i64 (es.map entD) 0
  have hlen : (ents .i64 0 (es.map entD)).length = es.length := by
    have := congrArg List.length hk
    simpa using this
  have hk2 : (ents .i64 0 (es.map entD)).map (·.key) = (dats es).map fun d => Value.int .i64 d.seq := by
    rw [hk]
    simp [dats, entD, Function.comp_def]
  have hrd : ∀ x ∈ ents .i64 0 (es.map entD), ∃ d ∈ dats es, x.key = .int .i64 d.seq ∧ WideElems.rd Try.prog 3 rU x = some (.int .i64 d.seq, .nil) := by
    intro x hx
    have : x.key ∈ (dats es).map fun d => Value.int .i64 d.seq := by rw [← hk2]; exact List.mem_map_of_mem hx
    obtain ⟨d, hd, he⟩ := List.mem_map.1 this
    have hr := hD.rng d hd
    refine ⟨d, hd, he.symm, ?_⟩
    unfold WideElems.rd
    rw [← he, key_i64 (by omega)]
    rfl
  have hfit : WideElems.Fit Try.prog 3 rU (ents .i64 0 (es.map entD)).toArray (es.map entD).length := by
    refine ⟨by simp [hlen]; unfold maxLen; omega, ⟨fun x hx => ?_, ?_, ?_⟩, fun x hx => ?_⟩
    · have hx : x ∈ ents .i64 0 (es.map entD) := by simpa using hx
      have : x.born ∈ List.range' 0 (es.map entD).length := by rw [← hbn]; exact List.mem_map_of_mem hx
      have := List.mem_range'_1.1 this
      omega
    · show ((ents .i64 0 (es.map entD)).map (·.born)).Nodup
      rw [hbn]
      exact List.nodup_range'
    · show ((ents .i64 0 (es.map entD)).map (·.key)).Nodup
      rw [hk2]
      have h2 : ((dats es).map fun d => Value.int .i64 d.seq) = ((dats es).map Dat.seq).map (Value.int .i64) := by simp
      rw [h2]
      exact List.Pairwise.map _ (fun a b hab e => hab (by simpa using e)) hD.nodup
    · obtain ⟨d, _, _, hr⟩ := hrd x (by simpa using hx)
      exact ⟨_, hr⟩
  have hrg : (ents .i64 0 (es.map entD)).map (WideElems.rg Try.prog 3 rU) = (dats es).map fun d => ((Lit.int .i64 d.seq, .nil) : Lit × DataW Unit) := by
    have h3 : ∀ x ∈ ents .i64 0 (es.map entD), WideElems.rg Try.prog 3 rU x = (match x.key with | .int _ s => (Lit.int .i64 s, .nil) | _ => (Lit.bool false, .nil)) := by
      intro x hx
      obtain ⟨d, _, he, hr⟩ := hrd x hx
      unfold WideElems.rg
      rw [hr, he]
      rfl
    rw [List.map_congr_left h3]
    have h4 : (ents .i64 0 (es.map entD)).map (fun x => (match x.key with | .int _ s => (Lit.int .i64 s, .nil) | _ => (Lit.bool false, .nil) : Lit × DataW Unit)) = ((ents .i64 0 (es.map entD)).map (·.key)).map (fun v => (match v with | .int _ s => (Lit.int .i64 s, .nil) | _ => (Lit.bool false, .nil) : Lit × DataW Unit)) := by rw [List.map_map]; rfl
    rw [h4, hk2, List.map_map]
    rfl
  have hperm := WideShapes.sorted_perm ((ents .i64 0 (es.map entD)).map (WideElems.rg Try.prog 3 rU))
  refine ⟨_, ⟨_, _, hb, hfit, by simp [hlen], rfl⟩, ?_, ?_⟩
  · show (List.map (fun p : Lit × DataW Unit => Go.intOf p.1) _).Perm _
    refine (hperm.map _).trans ?_
    rw [hrg, List.map_map]
    exact List.Perm.refl _
  · show List.length _ = _
    rw [hperm.length_eq]
    simp [hlen]
theorem below_grew {w w' : World} (h : Go.RowKit.Below w.heap.size w w') : Grew w w' :=
  ⟨h.os, h.tape, h.output, h.size, fun k hk _ => h.block k hk, fun _ h => (by cases h), fun _ h => (by cases h), fun _ h => (by cases h), List.Pairwise.nil, fun _ h => (by cases h)⟩
theorem t65 (mb : Option Nat) (w : World) : CallsTo Try.prog 78 [.map mb] w fun v w' => v = .func (.func 97) #[] [.pointer (some ⟨w.heap.size, 0, none⟩)].toArray ∧ w' = w.alloc (.cells #[.map mb] 102) := by
  have h := callsIn_wide.1 (AnyZI.keys_in Try.keysA Fence.wide 5 trivial rfl mb w)
  refine callsTo_of (g := 78) h ?_
  rintro e w' ⟨rfl, rfl⟩
  exact ⟨_, rfl, rfl, rfl⟩
theorem t64 (bm bk : Nat) (es : List DaA) (w : World) (hb : w.heap[bm]? = some (mapObj .i64 (es.map entD))) (hk : w.heap[bk]? = some (.cells #[.map (some bm)] 102 (0, 0))) (hD : WOk (dats es)) (hl : es.length ≤ 100000) :
    CallsTo Try.prog 77 [.func (.func 97) #[] [.pointer (some ⟨bk, 0, none⟩)].toArray] w fun v w' => ∃ a c, v = .slice a es.length c ∧ NewSl w w' (.slice a es.length c) 3 1 es.length (iv (sortI ((dats es).map Dat.seq))) := by
  obtain ⟨D0, hown, hperm, hsize⟩ := keys_own hb hD hl
  have hseq : SeqGives Fence.wide 2 Try.prog 97 #[.pointer (some ⟨bk, 0, none⟩)] encZ (fun ss => ss.Perm (intKeys D0)) (Maps.size D0) w :=
    AnyZI.keys_gives (ρ := Try.keysA_ren) { Try.keysA with } Fence.wide _ trivial rfl (by omega) bk bm es.length D0 _ (Array.getElem?_eq_some_iff.1 hk).1 (by rw [cell_own hk]; rfl) hown
  have cS := AnyZI.sorted_in Try.sortedA Fence.wide 5 trivial trivial trivial trivial rfl (by omega) (sortsA _) (enters_of Try.func54 (by kernel_rfl) rfl) 97 #[.pointer (some ⟨bk, 0, none⟩)] trivial (enters_of Try.func97 (by kernel_rfl) rfl) _ _ (by rw [hsize]; unfold maxLen; omega) (by rw [hsize]; omega) w hseq
  change CallsIn _ _ Try.prog 77 _ _ _ at cS
  refine callsTo_of (g := 77) (callsIn_wide.1 cS) ?_
  rintro e w' ⟨v, ss, rfl, hS, hrow, _, hbel⟩
  have hss : ss.length = es.length := by
    rw [hS.length_eq, hperm.length_eq]
    simp [dats]
  have hso : (ss.mergeSort fun x y => decide (x ≤ y)) = sortI ((dats es).map Dat.seq) := mergeSort_of_perm_i (hS.trans hperm)
  rw [hso, hss] at hrow
  obtain ⟨a, c, rfl⟩ := slice_form hrow
  exact ⟨_, rfl, a, c, rfl, below_grew hbel, hrow⟩
end Go.Proofs.Ytgblmkpfkcibiaa

namespace Go.Proofs.Ytgblmkpfkcibiaa
open Go.Hb
attribute [local irreducible] LR CW At Ev thn blk finK noG again CallsTo DW QL dnext TW DP
set_option linter.unusedSimpArgs false
set_option linter.unusedVariables false
set_option maxRecDepth 100000

def sqs (D : List Dat) : List Int := sortI (D.map Dat.seq)
def abvS (D : List Dat) (q : Int) (S : List Int) : List Dat := (S.filter fun s => decide (q < s)).map (getT D)
def abvT (D : List Dat) (q : Int) : List Dat := abvS D q (sqs D)
theorem abvS_snoc (D : List Dat) (q : Int) (S : List Int) (s : Int) : abvS D q (S ++ [s]) = abvS D q S ++ if q < s then [getT D s] else [] := by
  unfold abvS
  rw [List.filter_append, List.map_append]
  congr 1
  by_cases h : q < s <;> simp [h]
theorem sqs_len (D : List Dat) : (sqs D).length = D.length := by unfold sqs; rw [sortI_len, List.length_map]
theorem mem_sqs {D : List Dat} {s : Int} : s ∈ sqs D ↔ hasD D s = true := by
  unfold sqs sortI
  rw [List.mem_mergeSort, has_iff, List.mem_map]
theorem abvS_len (D : List Dat) (q : Int) (S : List Int) : (abvS D q S).length ≤ S.length := by
  unfold abvS
  rw [List.length_map]
  exact List.length_filter_le _ _
theorem take_snocI {L : List Int} {k : Nat} (h : k < L.length) : L.take (k + 1) = L.take k ++ [L[k]] := by
  rw [List.take_add_one, List.getElem?_eq_getElem h]
  rfl
/-- A row of data that is one's own. -/
abbrev dS (a : Option Addr) (c : Nat) (o : List DaA) : Asrt := osl (.slice a o.length c) 68 18 o.length (o.flatMap DaA.row)
def dO (a : Option Addr) (c : Nat) (o : List DaA) : Asrt := both (dS a c o) (bunD o)
theorem dO_dep (a : Option Addr) (c : Nat) (o : List DaA) : (dO a c o).dep := both_dep (osl.dep _ _ _ _ _) (bun_dep DaA.dep o)
theorem dS_snoc (a : Option Addr) (c : Nat) (o : List DaA) (x : DaA) : osl (.slice a (o.length + 1) c) 68 18 (o.length + 1) (o.flatMap DaA.row ++ x.row) = dS a c (o ++ [x]) := by simp [dS]
theorem dats_snoc (o : List DaA) (x : DaA) : dats (o ++ [x]) = dats o ++ [x.d] := by simp [dats]
theorem t65n (mb : Option Nat) (w : World) : CallsTo Try.prog 78 [.map mb] w fun v w' => ∃ bk, v = .func (.func 97) #[] [.pointer (some ⟨bk, 0, none⟩)].toArray ∧ New1 (.own bk (.cells [.map mb].toArray 102 (0, 0))) w w' := by
  refine (t65 mb w).mono ?_
  rintro v w2 ⟨rfl, rfl⟩
  exact ⟨_, rfl, St.new1 ((St.refl w NoF).alloc (.cells [.map mb].toArray 102 (0, 0))) rfl⟩
theorem win_get {C : World → Prop} {f : Frm} {x y : Operand} {T' : TypeId} {bm : Nat} {es : List DaA} {s : Int} {e : DaA} (hx : f.ev x = .map (some bm)) (hy : f.ev y = .int .i64 s) (hn : fnd es s = some e) (hC : ∀ w, C w → w.heap[bm]? = some (mapObj .i64 (es.map entD))) :
    Ev Try.prog C f (.lookup 102 x y false) T' (e.d.val e.a e.c) := by
  have := Ev.lookup1C (P := Try.prog) (C := C) (T := 102) (T' := T') (l := es.map entD) (r := findI s (es.map entD) 0) hx hy hC rfl
  rw [findI_fnd, hn] at this
  exact this
theorem d_push {w0 w : World} {F : Nat → Prop} {R : List Asrt} {a : Option Addr} {c : Nat} {o : List DaA} {x : DaA} (h : St w0 F (x.body :: osl (.slice a (o.length + 1) c) 68 18 (o.length + 1) (o.flatMap DaA.row ++ x.row) :: bunD o :: R) w) : St w0 F (dS a c (o ++ [x]) :: bunD (o ++ [x]) :: R) w := by
  have h1 : St w0 F (bunD o :: x.body :: osl (.slice a (o.length + 1) c) 68 18 (o.length + 1) (o.flatMap DaA.row ++ x.row) :: R) w := front h 2 rfl rfl
  have h2 : St w0 F (x.body :: bunD o :: osl (.slice a (o.length + 1) c) 68 18 (o.length + 1) (o.flatMap DaA.row ++ x.row) :: R) w := front h1 1 rfl rfl
  have h3 := h2.bun_snoc DaA.dep DaA.ex
  rw [dS_snoc] at h3
  exact front h3 1 rfl rfl
structure Ast where
  k : Nat
  o : List DaA
  a : Option Addr
  c : Nat
set_option maxHeartbeats 2000000 in
theorem t34 (bw bm : Nat) (es : List DaA) (aru high q : Int) (w : World) (h : (wO bw bm es aru high).holds w) (hD : WOk (dats es)) (hl : es.length ≤ 100000) :
    CallsTo Try.prog 45 [.pointer (some ⟨bw, 0, none⟩), .int .i64 q] w fun v w' => ∃ a' c' o, v = .slice a' o.length c' ∧ dats o = abvT (dats es) q ∧ New1 (dO a' c' o) w w' := by
  refine go_in (n := 36) (wO_in h) Try.func45 rfl rfl ?_
  repeat'(first|refine kv' ?_|apply jJ|refine jE' ?_|refine jp' ?_|(apply jc;kernel_rfl)|refine kg' ?_|refine kG' ?_|refine kB' fun _=>?_|refine kA' fun _=>?_|refine kK' fun _=>?_|refine kU' ?_|(apply kq; (· exact rfl); (· intro w1 h1; exact CallsTo.q (t58 bw bm es aru high w1 (w_out h1 (by (repeat (first | exact mH _ _ | apply mT))))) h1))|(apply LR.ev; (· apply Ev.load; (· exact rfl); (· exact fun w' hw' => w_cell hw' (by (repeat (first | exact mH _ _ | apply mT))) rfl)); (· exact rfl))|((first|refine kR' ?_ ?_|refine kQ' ?_ ?_);all_goals(intro hc;try simp only[hcs]at hc;try(exfalso;first|contradiction|omega))))
  apply LR.call
  · exact rfl
  intro w1 h1
  refine (t65n (some bm) w1).mono ?_
  rintro v w2 ⟨bk, rfl, hn⟩
  refine LR.back (h1.got hn (Asrt.dep_own _ _)) ?_
  clear hn h1
  apply LR.call
  · exact rfl
  intro w1 h1
  refine (t64 bm bk es w1 (wO_m (w_out h1 (by (repeat (first | exact mH _ _ | apply mT))))) (h1.own_at (by (repeat (first | exact mH _ _ | apply mT)))) hD hl).mono ?_
  rintro v w2 ⟨ak, ck, rfl, hn⟩
  have hrk : Rd w2 ak (iv (sqs (dats es))) := ownsRow_rd hn.own
  refine LR.back (h1.newSl hn) ?_
  clear hn h1
  have hSl : (sqs (dats es)).length = es.length := by rw [sqs_len]; simp [dats]
  have hSm : ∀ s, s ∈ sqs (dats es) → hasD (dats es) s = true := fun s hs => mem_sqs.1 hs
  have hab : abvT (dats es) q = abvS (dats es) q (sqs (dats es)) := rfl
  rw [hab]
  change LR _ _ _ _ _ _ _ (St w NoF (osl (.slice ak es.length ck) 3 1 es.length (iv (sqs (dats es))) :: _))
  generalize hSS : sqs (dats es) = S at hSl hSm hrk ⊢
  rw [← hSl] at hl ⊢
  repeat'(first|refine kv' ?_|apply jJ|refine jE' ?_|refine jp' ?_|(apply jc;kernel_rfl)|refine kg' ?_|refine kG' ?_|refine kB' fun _=>?_|refine kA' fun _=>?_|refine kK' fun _=>?_|refine kU' ?_|((first|refine kR' ?_ ?_|refine kQ' ?_ ?_);all_goals(intro hc;try simp only[hcs]at hc;try(exfalso;first|contradiction|omega))))
  apply CW.loop [5, 7, 17, 18, 19, 20, 21, 22, 23, 24, 25, 26, 27, 28, 29, 30, 31, 32, 33, 34] (fun s : Ast => s.k ≤ S.length ∧ s.o.length ≤ s.k ∧ dats s.o = abvS (dats es) q (S.take s.k)) (fun s => [(5, .slice s.a s.o.length s.c), (17, .int .i64 (s.k : Int))])
    (fun s => St w NoF [dS s.a s.c s.o, bunD s.o, il ak ck S, wR bw bm es aru high]) (fun s => S.length - s.k)
  · intro w' hw'
    refine ⟨⟨0, [], none, 0⟩, ⟨by simp, by simp, rfl⟩, ⟨rfl, rfl, trivial⟩, ?_⟩
    have h1 := (hw'.bun_nil DaA.dep).nilsl 68 18
    exact h1.sub (by (repeat (first | exact List.Sublist.refl _ | apply List.Sublist.cons_cons | apply List.Sublist.cons)))
  rintro ⟨k, o, a, c⟩ g' ⟨hk, hok, ho⟩
  simp only at hk hok ho ⊢
  by_cases hlt : k < S.length
  · obtain ⟨x, hx⟩ : ∃ x, fnd es S[k] = some x := by
      have h1 := fnd_has (dats es) S[k]
      rw [hSm _ (List.getElem_mem hlt), ← fnd_d, Option.isSome_map] at h1
      exact Option.isSome_iff_exists.1 h1
    have hxm := (fnd_mem hx).1
    have hxd : getT (dats es) S[k] = x.d := by unfold getT; rw [← fnd_d, hx]; rfl
    have hxl : x.d.msg.body.length ≤ 140737488351232 := hD.len _ (List.mem_map_of_mem hxm)
    obtain ⟨bg, og, rfl⟩ := hrk.form (fun e => by have h2 := congrArg List.length e; simp only [iv_length, List.length_nil] at h2; omega)
    have hsn := abvS_snoc (dats es) q (S.take k) S[k]
    rw [← take_snocI hlt, hxd, ← ho] at hsn
    repeat'(first|refine kv' ?_|apply jJ|refine jE' ?_|refine jp' ?_|(apply jc;kernel_rfl)|refine kg' ?_|refine kG' ?_|refine kB' fun _=>?_|refine kA' fun _=>?_|refine kK' fun _=>?_|refine kU' ?_|(apply idxX;(iterate 2 exact rfl);(iterate 2(first|omega|(dsimp only;omega)));exact rfl)|(apply LR.ev; (· first | (apply Ev.load_osl; (· exact rfl); (· (repeat (first | exact mH _ _ | apply mT))); (· exact iv_at (i := k) (by simp) (by omega))) | (apply Ev.load; (· exact rfl); (· exact fun w' hw' => w_cell hw' (by (repeat (first | exact mH _ _ | apply mT))) rfl)) | (apply win_get; (· exact rfl); (· exact rfl); (· exact hx); (· exact fun w' hw' => wO_m (w_out hw' (by (repeat (first | exact mH _ _ | apply mT))))))); (· exact rfl))|(apply addX;(iterate 2 exact rfl);(iterate 2(first|omega|(dsimp only;omega)));exact rfl)|(apply LR.call; (· exact rfl); (intro w1 h1; refine (t61 x.d x.a x.c w1 (wO_b (w_out h1 (by (repeat (first | exact mH _ _ | apply mT)))) hxm) (body_nz ((w_out h1 (by (repeat (first | exact mH _ _ | apply mT)))).2.1.1 x hxm)) (by omega)).mono ?_; rintro v w2 ⟨a2, c2, rfl, hn⟩; refine LR.back (h1.newSl hn) ?_; clear hn h1))|(apply LR.append (xs := o.flatMap DaA.row) (news := DaA.row ⟨x.d, a2, c2⟩) (m := 1); (· exact rfl); (· exact rfl); (· intro a' c'; (repeat (first | exact sH _ _ _ | apply sT))); (· exact fun w' hw' => hw'.rd_of_blk (mH _ _)); (· exact fun hx => by cases hx); (· exact rfl); (· simp [DaA.row, Dat.cells, Msg.cells, Value.oneCell']); (· omega); (· unfold maxLen; omega); (· exact rfl); (intro a3 c3))|((first|refine kR' ?_ ?_|refine kQ' ?_ ?_);all_goals(intro hc;try simp only[hcs]at hc;try(exfalso;first|contradiction|omega))))
    · rw [if_pos (by omega)] at hsn
      refine At.again (⟨k + 1, o ++ [⟨x.d, a2, c2⟩], a3, c3⟩ : Ast) ⟨by simp only; omega, by simp; omega, by rw [dats_snoc, hsn]⟩ ?_ ⟨?_, rfl, trivial⟩ ?_ (by simp only; omega)
      · (repeat (first | exact Out.refl _ _ | exact Out.mix | (apply Out.upd; (· exact rfl)) | (apply Out.updL; (· exact rfl)) | (apply Out.mixs; (· exact rfl))))
      · show Value.slice a3 (o.length + 1) c3 = .slice a3 (o ++ [(⟨x.d, a2, c2⟩ : DaA)]).length c3
        simp
      · intro w' hw'
        exact (d_push (x := ⟨x.d, a2, c2⟩) hw'.tail1).sub (by (repeat (first | exact List.Sublist.refl _ | apply List.Sublist.cons_cons | apply List.Sublist.cons)))
    · rw [if_neg (by omega), List.append_nil] at hsn
      refine At.again (⟨k + 1, o, a, c⟩ : Ast) ⟨by simp only; omega, by simp only; omega, hsn.symm⟩ ?_ ⟨rfl, rfl, trivial⟩ (fun w' hw' => hw'.sub (by (repeat (first | exact List.Sublist.refl _ | apply List.Sublist.cons_cons | apply List.Sublist.cons)))) (by simp only; omega)
      (repeat (first | exact Out.refl _ _ | exact Out.mix | (apply Out.upd; (· exact rfl)) | (apply Out.updL; (· exact rfl)) | (apply Out.mixs; (· exact rfl))))
  · have hke : k = S.length := by omega
    subst hke
    rw [List.take_length] at ho
    repeat'(first|refine kv' ?_|apply jJ|refine jE' ?_|refine jp' ?_|(apply jc;kernel_rfl)|refine kg' ?_|refine kG' ?_|refine kB' fun _=>?_|refine kA' fun _=>?_|refine kK' fun _=>?_|refine kU' ?_|((first|refine kR' ?_ ?_|refine kQ' ?_ ?_);all_goals(intro hc;try simp only[hcs]at hc;try(exfalso;first|contradiction|omega))))
    (apply ret1; (· exact rfl); intro w' hS)
    refine ⟨a, c, o, rfl, ho, ?_⟩
    have h1 : St w NoF (dO a c o :: il ak ck S :: wR bw bm es aru high :: []) w' := St.join hS rfl rfl
    exact St.new1 h1 rfl
end Go.Proofs.Ytgblmkpfkcibiaa

namespace Go.Proofs.Ytgblmkpfkcibiaa
open Go.Hb
attribute [local irreducible] LR CW At Ev thn blk finK noG again CallsTo DW QL dnext TW DP
set_option linter.unusedSimpArgs false
set_option linter.unusedVariables false
set_option maxRecDepth 100000

structure MsA where
  m : Msg
  a : Option Addr
  c : Nat
def MsA.row (x : MsA) : List Value := x.m.cells x.a x.c
theorem MsA.row_len (x : MsA) : x.row.length = 13 := rfl
def MsA.body (x : MsA) : Asrt := osl (.slice x.a x.m.body.length x.c) 5 1 x.m.body.length (bv x.m.body)
theorem MsA.dep (x : MsA) : x.body.dep := osl.dep _ _ _ _ _
theorem MsA.ex (x : MsA) : x.body.excl = true := rfl
abbrev bunM : List MsA → Asrt := bun MsA.body
abbrev gB (b : Nat) (a : Option Addr) (c n : Nat) : Asrt := .own b (.cells [.bool true, .slice a n c].toArray 109 (0, 0))
abbrev odM (a : Option Addr) (c : Nat) (l : List MsA) : Asrt := odl (.slice a l.length c) 66 13 l.length (l.flatMap MsA.row)
theorem odM_snoc (a : Option Addr) (c : Nat) (l : List MsA) (x : MsA) : odl (.slice a (l.length + 1) c) 66 13 (l.length + 1) (l.flatMap MsA.row ++ x.row) = odM a c (l ++ [x]) := by simp [odM]
def gsO (a : Option Addr) (c : Nat) (l : List MsA) : Asrt := both (odM a c l) (bunM l)
theorem gsO_dep (a : Option Addr) (c : Nat) (l : List MsA) : (gsO a c l).dep := both_dep (odl.dep _ _ _ _ _) (bun_dep MsA.dep l)
def gO (b : Nat) (a : Option Addr) (c : Nat) (L : List MsA) : Asrt := both (gB b a c L.length) (gsO a c L)
theorem gO_dep (b : Nat) (a : Option Addr) (c : Nat) (L : List MsA) : (gO b a c L).dep := both_dep (Asrt.dep_own _ _) (gsO_dep a c L)
section
variable {w0 w : World} {F : Nat → Prop} {R : List Asrt} {b : Nat} {a : Option Addr} {c : Nat} {L : List MsA}
theorem gsO_open (h : St w0 F (gsO a c L :: R) w) : St w0 F (odM a c L :: bunM L :: R) w := h.part (odl.dep _ _ _ _ _) (bun_dep MsA.dep L)
theorem gsO_shut (h : St w0 F (odM a c L :: bunM L :: R) w) : St w0 F (gsO a c L :: R) w := h.join rfl rfl
theorem gO_open (h : St w0 F (gO b a c L :: R) w) : St w0 F (gB b a c L.length :: odM a c L :: bunM L :: R) w := by
  have h1 := h.part (Asrt.dep_own _ _) (gsO_dep a c L)
  have h2 := gsO_open h1.swap
  exact h2.perm (((List.Perm.swap (gB b a c L.length) (bunM L) R).cons (odM a c L)).trans (List.Perm.swap (gB b a c L.length) (odM a c L) (bunM L :: R)))
theorem gO_shut (h : St w0 F (gB b a c L.length :: odM a c L :: bunM L :: R) w) : St w0 F (gO b a c L :: R) w := by
  have h1 : St w0 F (odM a c L :: bunM L :: gB b a c L.length :: R) w := h.perm ((List.Perm.swap (odM a c L) (gB b a c L.length) (bunM L :: R)).trans ((List.Perm.swap (bunM L) (gB b a c L.length) R).cons (odM a c L)))
  exact (gsO_shut h1).swap.join rfl rfl
end
/-! ### data above a number -/
theorem getT_mem {D : List Dat} {s : Int} (h : hasD D s = true) : getT D s ∈ D := by
  rw [← fnd_has] at h
  obtain ⟨d, hd⟩ := Option.isSome_iff_exists.1 h
  unfold getT
  rw [hd]
  unfold fndD at hd
  exact List.mem_of_find?_eq_some hd
theorem abv_mem {D : List Dat} {q : Int} {d : Dat} (h : d ∈ abvT D q) : d ∈ D := by
  unfold abvT abvS at h
  obtain ⟨s, hs, rfl⟩ := List.mem_map.1 h
  exact getT_mem (mem_sqs.1 (List.mem_filter.1 hs).1)
def sendL (ds : List Dat) : List Msg := ds.filterMap fun d => if (old d).2 = 0 then some (old d).1 else none
theorem sendL_snoc (ds : List Dat) (d : Dat) : sendL (ds ++ [d]) = sendL ds ++ if (old d).2 = 0 then [(old d).1] else [] := by
  unfold sendL
  rw [List.filterMap_append]
  congr 1
  by_cases h : (old d).2 = 0 <;> simp [h]
def BytD (D : List Dat) : Prop := ∀ d ∈ D, Byt d.msg.body
/-! ### the walk -/
theorem g40 (b : Nat) (a : Option Addr) (c n : Nat) (w : World) (h : Rd w (some ⟨b, 0, none⟩) [.bool true, .slice a n c]) : CallsTo Try.prog 40 [.pointer (some ⟨b, 0, none⟩)] w fun v w' => v = .int .i64 (n : Int) ∧ Grew w w' := by
  refine go_in (n := 10) (St.rd1 h) Try.func40 rfl rfl ?_
  repeat'(first|refine kv' ?_|apply jJ|refine jE' ?_|refine jp' ?_|(apply jc;kernel_rfl)|refine kg' ?_|refine kG' ?_|refine kB' fun _=>?_|refine kA' fun _=>?_|refine kK' fun _=>?_|refine kU' ?_|((first|refine kR' ?_ ?_|refine kQ' ?_ ?_);all_goals(intro hc;try simp only[hcs]at hc;try(exfalso;first|contradiction|omega))))
  (apply ret1; (· exact rfl); intro w' hS)
  exact ⟨rfl, hS.toKeep⟩
structure Rgs where
  k : Nat
  a : Option Addr
  c : Nat
  ms : List MsA
set_option maxHeartbeats 4000000 in
theorem g39 (bw bm : Nat) (es : List DaA) (aru high low : Int) (w : World) (h : (wO bw bm es aru high).holds w) (hD : WOk (dats es)) (hl : es.length ≤ 100000) (hB : BytD (dats es)) :
    CallsTo Try.prog 39 [.pointer (some ⟨bw, 0, none⟩), .int .i64 low] w fun v w' => ∃ b a c ms, v = .tuple [.pointer (some ⟨b, 0, none⟩), .int .i64 0].toArray ∧ ms.map MsA.m = sendL (abvT (dats es) low) ∧ New1 (gO b a c ms) w w' := by
  refine go_in (n := 42) (wO_in h) Try.func39 rfl rfl ?_
  repeat'(first|(apply kB;(iterate 2 exact rfl);intro b)|refine kv' ?_|apply jJ|refine jE' ?_|refine jp' ?_|(apply jc;kernel_rfl)|refine kg' ?_|refine kG' ?_|refine kB' fun _=>?_|refine kA' fun _=>?_|refine kK' fun _=>?_|refine kU' ?_|((first|refine kR' ?_ ?_|refine kQ' ?_ ?_);all_goals(intro hc;try simp only[hcs]at hc;try(exfalso;first|contradiction|omega))))
  apply LR.call
  · exact rfl
  intro w1 h1
  refine (t34 bw bm es aru high low w1 (w_out h1 (by (repeat (first | exact mH _ _ | apply mT)))) hD hl).mono ?_
  rintro v w2 ⟨a1, c1, o, rfl, ho, hn⟩
  have hr1 : Rd w2 a1 (o.flatMap DaA.row) := ownsRow_rd hn.holds.1
  refine LR.back ((h1.got hn (dO_dep _ _ _)).part (osl.dep _ _ _ _ _) (bun_dep DaA.dep o)) ?_
  clear hn h1
  repeat'(first|refine kv' ?_|apply jJ|refine jE' ?_|refine jp' ?_|(apply jc;kernel_rfl)|refine kg' ?_|refine kG' ?_|refine kB' fun _=>?_|refine kA' fun _=>?_|refine kK' fun _=>?_|refine kU' ?_|((first|refine kR' ?_ ?_|refine kQ' ?_ ?_);all_goals(intro hc;try simp only[hcs]at hc;try(exfalso;first|contradiction|omega))))
  have hBo : BytD (dats o) := fun d hd => by rw [ho] at hd; exact hB d (abv_mem hd)
  have hLo : ∀ x ∈ o, x.d.msg.body.length ≤ 140737488351232 := fun x hx => hD.len _ (abv_mem (q := low) (by rw [← ho]; exact List.mem_map_of_mem hx))
  have hlo : o.length ≤ 100000 := by
    have h1 : (dats o).length ≤ (dats es).length := by rw [ho]; exact Nat.le_trans (abvS_len _ _ _) (by rw [sqs_len]; exact Nat.le_refl _)
    simp only [dats, List.length_map] at h1
    omega
  rw [← ho]
  apply CW.loop [8, 9, 10, 19, 20, 21, 22, 23, 24, 25, 26, 27, 28, 29, 30, 31, 32, 33, 34, 35, 36, 37, 38, 39, 40] (fun s : Rgs => s.k ≤ o.length ∧ s.ms.length ≤ s.k ∧ s.ms.map MsA.m = sendL ((dats o).take s.k)) (fun s => [(19, .int .i64 (s.k : Int))])
    (fun s => St w NoF [gB b s.a s.c s.ms.length, odM s.a s.c s.ms, bunM s.ms, dS a1 c1 o, bunD o, wR bw bm es aru high]) (fun s => o.length - s.k)
  · intro w' hw'
    refine ⟨⟨0, none, 0, []⟩, ⟨by simp, by simp, rfl⟩, ⟨rfl, trivial⟩, ?_⟩
    have h1 := ((hw'.bun_nil MsA.dep).nilsl 66 13).osl_odl (sH _ _ _)
    exact front (L' := [gB b none 0 0, odM none 0 [], bunM [], dS a1 c1 o, bunD o, wR bw bm es aru high]) h1 4 rfl rfl
  rintro ⟨k, a, c, ms⟩ g' ⟨hk, hmk, hms⟩
  simp only at hk hmk hms ⊢
  by_cases hlt : k < o.length
  · obtain ⟨x, hx⟩ : ∃ x, x = o[k] := ⟨_, rfl⟩
    have hxo : x ∈ o := by rw [hx]; exact List.getElem_mem hlt
    have hxl := hLo x hxo
    have hxb : Byt x.d.msg.body := hBo x.d (List.mem_map_of_mem hxo)
    have hsn := sendL_snoc ((dats o).take k) x.d
    have htk : (dats o).take (k + 1) = (dats o).take k ++ [x.d] := by
      rw [List.take_succ_eq_append_getElem (by simpa [dats] using hlt)]
      simp [dats, hx]
    rw [← htk, ← hms] at hsn
    have hof : (o.flatMap DaA.row) ≠ [] := rows_ne DaA.row_len (by omega) hlt
    obtain ⟨ba, oa, rfl⟩ := hr1.form hof
    repeat'(first|(apply kA; (· exact rfl); intro b9)|refine kv' ?_|apply jJ|refine jE' ?_|refine jp' ?_|refine kg' ?_|refine kG' ?_|refine kB' fun _=>?_|refine kA' fun _=>?_|refine kK' fun _=>?_|refine kU' ?_|(apply idxX;(iterate 2 exact rfl);(iterate 2(first|omega|(dsimp only;omega)));exact rfl)|(apply addX;(iterate 2 exact rfl);(iterate 2(first|omega|(dsimp only;omega)));exact rfl)|(apply LR.ev; (· apply Ev.load_agg_at (cs := x.row); (· exact rfl); (· exact rfl); (· intro w' hw'; rw [hx]; exact rd_row DaA.row_len (ownsRow_rd (hw'.holds (dS (some ⟨ba, oa, none⟩) c1 o) (by (repeat (first | exact mH _ _ | apply mT))))) hlt (by simp))); (· exact rfl))|(apply LR.call; (· exact rfl); (intro w1 h1; refine CallsTo.mono (show CallsTo Try.prog 74 [x.d.val x.a x.c] w1 _ from c32 x.d x.a x.c w1 (ownsRow_rd (h1.holds (bunD o) (by (repeat (first | exact mH _ _ | apply mT))) |>.1 x hxo)) (body_nz (h1.holds (bunD o) (by (repeat (first | exact mH _ _ | apply mT))) |>.1 x hxo)) (by omega) hxb) ?_; rintro v w2 ⟨a2, c2, rfl, hn⟩; refine LR.back (h1.newSl hn) ?_; clear hn h1))|((first|refine kR' ?_ ?_|refine kQ' ?_ ?_);all_goals(intro hc;try simp only[hcs]at hc;try(exfalso;first|contradiction|omega))))
    · apply CW.reg_sink 10 (St w NoF [.own b9 (.cells ((old x.d).1.cells a2 c2).toArray 66 (0, 0)), gB b a c ms.length])
      · exact rfl
      · decide +kernel
      all_goals (
        apply DW.quiet [0, 1, 2, 3, 4, 5]
        · decide +kernel
        · first | exact fun _ h => h | exact fun _ h => St.sub h (by repeat (first | exact List.Sublist.refl _ | apply List.Sublist.cons_cons | apply List.Sublist.cons))
        repeat'(first|refine yv' ?_|refine uv' ?_|refine un' ?_|(refine us' ?_ ?_;all_goals(intro hc;try simp only[hcs]at hc;try(exfalso;first|contradiction|omega)))|apply QL.nil)
        all_goals (show DW _ _ _ _ _ _ _ _))
      all_goals (
        apply DW.loud 6
        · exact rfl
        · decide +kernel
        repeat'(first|refine kg' ?_|refine kG' ?_|apply kM|refine kv' ?_|refine kK' fun _=>?_|refine kU' ?_|refine kB' fun _=>?_|refine kA' fun _=>?_|(apply LR.append_odl (a := a) (k := ms.length) (c := c) (xs := ms.flatMap MsA.row) (news := MsA.row ⟨(old x.d).1, a2, c2⟩) (m := 1); (· exact rfl); (· exact rfl); (· intro a' c'; (repeat (first | exact sH _ _ _ | apply sT))); (· intro w' hw'; exact hw'.rd_of_blk (mH _ _)); (· intro hx; cases hx); (· exact rfl); (· simp [MsA.row, Msg.cells, Value.oneCell']); (· omega); (· unfold maxLen; omega); (· exact rfl); (intro ay cy; apply kM)))
        all_goals (refine At.stage_same (fun _ h => St.sub h (by repeat (first | exact List.Sublist.refl _ | apply List.Sublist.cons_cons | apply List.Sublist.cons))) ?_))
      all_goals (
        apply DW.loud 7
        · exact rfl
        · decide +kernel
        repeat'(first|refine kg' ?_|refine kG' ?_|apply kM|refine kv' ?_|refine kK' fun _=>?_|refine kU' ?_|refine kB' fun _=>?_|refine kA' fun _=>?_|(apply LR.append_odl (a := a) (k := ms.length) (c := c) (xs := ms.flatMap MsA.row) (news := MsA.row ⟨(old x.d).1, a2, c2⟩) (m := 1); (· exact rfl); (· exact rfl); (· intro a' c'; (repeat (first | exact sH _ _ _ | apply sT))); (· intro w' hw'; exact hw'.rd_of_blk (mH _ _)); (· intro hx; cases hx); (· exact rfl); (· simp [MsA.row, Msg.cells, Value.oneCell']); (· omega); (· unfold maxLen; omega); (· exact rfl); (intro ay cy; apply kM)))
        all_goals (refine At.stage_same (fun _ h => St.sub h (by repeat (first | exact List.Sublist.refl _ | apply List.Sublist.cons_cons | apply List.Sublist.cons))) ?_))
      all_goals (
        apply DW.quiet [8, 9]
        · decide +kernel
        · first | exact fun _ h => h | exact fun _ h => St.sub h (by repeat (first | exact List.Sublist.refl _ | apply List.Sublist.cons_cons | apply List.Sublist.cons))
        repeat'(first|refine yv' ?_|refine uv' ?_|refine un' ?_|(refine us' ?_ ?_;all_goals(intro hc;try simp only[hcs]at hc;try(exfalso;first|contradiction|omega)))|apply QL.nil)
        all_goals (show DW _ _ _ _ _ _ _ _))
      all_goals (apply DW.done; (· decide +kernel))
      all_goals apply At.sink
      repeat'(first|refine kv' ?_|apply jJ|refine jE' ?_|refine jp' ?_|(apply jc;kernel_rfl)|refine kg' ?_|refine kG' ?_|refine kB' fun _=>?_|refine kA' fun _=>?_|refine kK' fun _=>?_|refine kU' ?_|(apply addX;(iterate 2 exact rfl);(iterate 2(first|omega|(dsimp only;omega)));exact rfl)|((first|refine kR' ?_ ?_|refine kQ' ?_ ?_);all_goals(intro hc;try simp only[hcs]at hc;try(exfalso;first|contradiction|omega))))
      rw [if_pos (by assumption)] at hsn
      refine At.again (⟨k + 1, ay, cy, ms ++ [⟨(old x.d).1, a2, c2⟩]⟩ : Rgs) ⟨by simp only; omega, by simp; omega, by rw [hsn, List.map_append]; rfl⟩ ?_ ⟨rfl, trivial⟩ ?_ (by simp only; omega)
      · (repeat (first | exact Out.refl _ _ | exact Out.mix | (apply Out.upd; (· exact rfl)) | (apply Out.updL; (· exact rfl)) | (apply Out.mixs; (· exact rfl))))
      · intro w' hw'
        obtain ⟨y, hy⟩ : ∃ y : MsA, y = ⟨(old x.d).1, a2, c2⟩ := ⟨_, rfl⟩
        have h1 : St w NoF [y.body, gB b ay cy (ms.length + 1), odl (.slice ay (ms.length + 1) cy) 66 13 (ms.length + 1) (ms.flatMap MsA.row ++ y.row), bunM ms, dS (some ⟨ba, oa, none⟩) c1 o, bunD o, wR bw bm es aru high] w' := by
          rw [hy]; exact hw'.sub (by (repeat (first | exact List.Sublist.refl _ | apply List.Sublist.cons_cons | apply List.Sublist.cons)))
        have h2 : St w NoF [bunM ms, y.body, gB b ay cy (ms.length + 1), odl (.slice ay (ms.length + 1) cy) 66 13 (ms.length + 1) (ms.flatMap MsA.row ++ y.row), dS (some ⟨ba, oa, none⟩) c1 o, bunD o, wR bw bm es aru high] w' := front h1 3 rfl rfl
        have h3 : St w NoF [bunM (ms ++ [y]), gB b ay cy (ms.length + 1), odl (.slice ay (ms.length + 1) cy) 66 13 (ms.length + 1) (ms.flatMap MsA.row ++ y.row), dS (some ⟨ba, oa, none⟩) c1 o, bunD o, wR bw bm es aru high] w' := h2.swap.bun_snoc MsA.dep MsA.ex
        have h4 : St w NoF [odl (.slice ay (ms.length + 1) cy) 66 13 (ms.length + 1) (ms.flatMap MsA.row ++ y.row), bunM (ms ++ [y]), gB b ay cy (ms.length + 1), dS (some ⟨ba, oa, none⟩) c1 o, bunD o, wR bw bm es aru high] w' := front h3 2 rfl rfl
        have h5 : St w NoF [gB b ay cy (ms.length + 1), odl (.slice ay (ms.length + 1) cy) 66 13 (ms.length + 1) (ms.flatMap MsA.row ++ y.row), bunM (ms ++ [y]), dS (some ⟨ba, oa, none⟩) c1 o, bunD o, wR bw bm es aru high] w' := front h4 2 rfl rfl
        rw [odM_snoc, show gB b ay cy (ms.length + 1) = gB b ay cy (ms ++ [y]).length by simp] at h5
        rw [← hy]
        exact h5
    · rw [if_neg (by assumption), List.append_nil] at hsn
      refine At.again (⟨k + 1, a, c, ms⟩ : Rgs) ⟨by simp only; omega, by simp only; omega, hsn.symm⟩ ?_ ⟨rfl, trivial⟩ (fun w' hw' => hw'.sub (by (repeat (first | exact List.Sublist.refl _ | apply List.Sublist.cons_cons | apply List.Sublist.cons)))) (by simp only; omega)
      (repeat (first | exact Out.refl _ _ | exact Out.mix | (apply Out.upd; (· exact rfl)) | (apply Out.updL; (· exact rfl)) | (apply Out.mixs; (· exact rfl))))
  · have hke : k = o.length := by omega
    subst hke
    rw [List.take_of_length_le (by simp [dats])] at hms
    repeat'(first|refine kv' ?_|apply jJ|refine jE' ?_|refine jp' ?_|(apply jc;kernel_rfl)|refine kg' ?_|refine kG' ?_|refine kB' fun _=>?_|refine kA' fun _=>?_|refine kK' fun _=>?_|refine kU' ?_|((first|refine kR' ?_ ?_|refine kQ' ?_ ?_);all_goals(intro hc;try simp only[hcs]at hc;try(exfalso;first|contradiction|omega))))
    (apply ret2; (· exact rfl); intro w' hS)
    refine ⟨b, a, c, ms, rfl, hms, St.new1 (gO_shut hS) rfl⟩
end Go.Proofs.Ytgblmkpfkcibiaa

namespace Go.Proofs.Ytgblmkpfkcibiaa
open Go.Hb
attribute [local irreducible] LR CW At Ev thn blk finK noG again CallsTo DW QL dnext TW DP
set_option linter.unusedSimpArgs false
set_option linter.unusedVariables false
set_option maxRecDepth 100000

theorem body_nzM {x : MsA} {w : World} (h : x.body.holds w) (e : x.a = none) : x.c = 0 := by
  have h : w.ownsRow 0 5 1 (.slice x.a x.m.body.length x.c) x.m.body.length (bv x.m.body) := h
  rcases h.2 with ⟨he, _⟩ | ⟨g, cap, cur, he, _⟩
  · simp only [Value.slice.injEq] at he
    exact he.2.2
  · simp only [Value.slice.injEq] at he
    rw [he.1] at e
    cases e
theorem g41e (b : Nat) (a : Option Addr) (c : Nat) (w : World) (h : Rd w (some ⟨b, 0, none⟩) [.bool true, .slice a 0 c]) : CallsTo Try.prog 41 [.pointer (some ⟨b, 0, none⟩)] w fun v w' => v = .tuple [zeroMsg.val none 0, .int .i64 8].toArray ∧ Grew w w' := by
  refine go_in (n := 43) (St.rd1 h) Try.func41 rfl rfl ?_
  repeat'(first|refine kv' ?_|apply jJ|refine jE' ?_|refine jp' ?_|(apply jc;kernel_rfl)|refine kg' ?_|refine kG' ?_|refine kB' fun _=>?_|refine kA' fun _=>?_|refine kK' fun _=>?_|refine kU' ?_|((first|refine kR' ?_ ?_|refine kQ' ?_ ?_);all_goals(intro hc;try simp only[hcs]at hc;try(exfalso;first|contradiction|omega))))
  (apply ret2c; (· exact rfl); (· exact inferInstance); (· exact rfl); (· (repeat (first | exact List.Mem.head _ | apply List.Mem.tail))); (· exact rfl); intro w' hS)
  exact ⟨rfl, hS.toKeep⟩
set_option maxHeartbeats 1000000 in
theorem g41 (b : Nat) (a : Option Addr) (c : Nat) (x : MsA) (L : List MsA) (w : World) (h : (gO b a c (x :: L)).holds w) (hm : x.m.body.length ≤ 140737488355328) :
    CallsTo Try.prog 41 [.pointer (some ⟨b, 0, none⟩)] w fun v w' => ∃ a1 c1 a2 c2, v = .tuple [x.m.val a2 c2, .int .i64 0].toArray ∧ St w (gO b a c (x :: L)).foot [gO b a1 c1 L, MsA.body ⟨x.m, a2, c2⟩] w' := by
  have hS1 := gO_open (St.one h (both_live h) (gO_dep b a c (x :: L)))
  generalize hF : (gO b a c (x :: L)).foot = F at *
  obtain ⟨by_, oy, rfl⟩ := (ownsAt_rd hS1.g1).form (by simp [MsA.row, Msg.cells])
  have hl : (x :: L).length = L.length + 1 := rfl
  refine go_in (n := 43) hS1 Try.func41 rfl rfl ?_
  repeat'(first|refine kv' ?_|apply jJ|refine jE' ?_|refine jp' ?_|(apply jc;kernel_rfl)|refine kg' ?_|refine kG' ?_|refine kB' fun _=>?_|refine kA' fun _=>?_|refine kK' fun _=>?_|refine kU' ?_|(apply idxX;(iterate 2 exact rfl);(iterate 2(first|omega|(dsimp only;omega)));exact rfl)|(apply LR.ev; (· apply Ev.slice_lo; (· exact rfl); (· exact rfl); (· first | omega | (dsimp only; omega)); (· first | omega | (dsimp only; omega))); (· exact rfl))|(apply LR.ev; (· apply Ev.load_agg_at (cs := x.row); (· exact rfl); (· exact rfl); (· intro w' hw'; exact rd_row (l := x :: L) (i := 0) MsA.row_len (ownsAt_rd (hw'.holds (odM (some ⟨by_, oy, none⟩) c (x :: L)) (by (repeat (first | exact mH _ _ | apply mT))))) (by simp) (by simp))); (· exact rfl))|((first|refine kR' ?_ ?_|refine kQ' ?_ ?_);all_goals(intro hc;try simp only[hcs]at hc;try(exfalso;first|contradiction|omega))))
  apply LR.call
  · exact rfl
  intro w1 h1
  have hb1 : (x.body).holds w1 := (h1.holds (bunM (x :: L)) (by (repeat (first | exact mH _ _ | apply mT)))).1 x List.mem_cons_self
  refine (c86 x.a x.c x.m.body w1 (ownsRow_rd hb1) (body_nzM hb1) hm).mono ?_
  rintro v w2 ⟨a2, c2, rfl, hn⟩
  refine LR.back (h1.newSl hn) ?_
  clear hn h1
  repeat'(first|refine kv' ?_|apply jJ|refine jE' ?_|refine jp' ?_|(apply jc;kernel_rfl)|refine kg' ?_|refine kG' ?_|refine kB' fun _=>?_|refine kA' fun _=>?_|refine kK' fun _=>?_|refine kU' ?_|((first|refine kR' ?_ ?_|refine kQ' ?_ ?_);all_goals(intro hc;try simp only[hcs]at hc;try(exfalso;first|contradiction|omega))))
  (apply ret2c; (· exact rfl); (· exact inferInstance); (· exact rfl); (· (repeat (first | exact List.Mem.head _ | apply List.Mem.tail))); (· exact rfl); intro w' hS)
  refine ⟨subA (some ⟨by_, oy, none⟩) c 1 13, c - 1, a2, c2, rfl, ?_⟩
  obtain ⟨y, hy⟩ : ∃ y : MsA, y = ⟨x.m, a2, c2⟩ := ⟨_, rfl⟩
  have h1 : St w F [y.body, gB b (subA (some ⟨by_, oy, none⟩) c 1 13) (c - 1) L.length, odM (some ⟨by_, oy, none⟩) c (x :: L), bunM (x :: L)] w' := by
    rw [hy]; exact hS.sub (by (repeat (first | exact List.Sublist.refl _ | apply List.Sublist.cons_cons | apply List.Sublist.cons)))
  have h2 := h1.odl_drop (l := 1) (E := 66) (sz := 13) (xs := (x :: L).flatMap MsA.row) (a := some ⟨by_, oy, none⟩) (c := c) (k := (x :: L).length) (by (repeat (first | exact sH _ _ _ | apply sT))) (by simp)
  have h3 : St w F [y.body, gB b (subA (some ⟨by_, oy, none⟩) c 1 13) (c - 1) L.length, odM (subA (some ⟨by_, oy, none⟩) c 1 13) (c - 1) L, bunM (x :: L)] w' := h2
  have h4 : St w F [bunM (x :: L), y.body, gB b (subA (some ⟨by_, oy, none⟩) c 1 13) (c - 1) L.length, odM (subA (some ⟨by_, oy, none⟩) c 1 13) (c - 1) L] w' := front h3 3 rfl rfl
  have h5 := (St.bun_head MsA.dep h4).tail1
  have h6 : St w F [odM (subA (some ⟨by_, oy, none⟩) c 1 13) (c - 1) L, bunM L, y.body, gB b (subA (some ⟨by_, oy, none⟩) c 1 13) (c - 1) L.length] w' := front h5 3 rfl rfl
  have h7 : St w F [gB b (subA (some ⟨by_, oy, none⟩) c 1 13) (c - 1) L.length, odM (subA (some ⟨by_, oy, none⟩) c 1 13) (c - 1) L, bunM L, y.body] w' := front h6 3 rfl rfl
  rw [← hy]
  exact gO_shut h7
def tkB (R1 R2 : Int) (D : List Dat) (m : Msg) : Bool := decide ((inner m).2 = 0 ∧ (inner m).1.rseq = R1 ∧ (inner m).1.rrep = R2)
def tkNew (R1 R2 : Int) (D : List Dat) (m : Msg) : Bool := tkB R1 R2 D m && wpNew D (inner m).1
def tkE (R1 R2 : Int) (D : List Dat) (m : Msg) : Int := if tkB R1 R2 D m then wpE (inner m).1 else (inner m).2
def tkD (R1 R2 : Int) (D : List Dat) (m : Msg) : List Dat := if tkB R1 R2 D m then wpD D (inner m).1 else D
def tkH (R1 R2 : Int) (D : List Dat) (high : Int) (m : Msg) : Int := if tkB R1 R2 D m then wpH D high (inner m).1 else high
set_option maxHeartbeats 1000000 in
theorem g42 (bw bm : Nat) (es : List DaA) (aru high R1 R2 : Int) (m : Msg) (a : Option Addr) (c : Nat) (w : World) (h : (wO bw bm es aru high).holds w) (hD : WOk (dats es)) (hA : IsAru (dats es) aru)
    (hr : Rd w a (bv m.body)) (hz : a = none → c = 0) (hd : ∀ k, rdFoot a (bv m.body) k → ¬ (wO bw bm es aru high).foot k) (hl : m.body.length ≤ 140737488355328) (hb : Byt m.body) (hi : (inner m).1.msg.body.length ≤ 140737488351232) :
    CallsTo Try.prog 42 [.pointer (some ⟨bw, 0, none⟩), .agg [.int .i64 R1, .int .i64 R2].toArray, m.val a c] w fun v w' => ∃ es' aru', v = .tuple [.bool (tkNew R1 R2 (dats es) m), .int .i64 (tkE R1 R2 (dats es) m)].toArray ∧ dats es' = tkD R1 R2 (dats es) m ∧ IsAru (tkD R1 R2 (dats es) m) aru' ∧ Step (wO bw bm es aru high) (wO bw bm es' aru' (tkH R1 R2 (dats es) high m)) w w' := by
  refine go_in (n := 31) ((St.one h (both_live h) (wO_dep _ _ _ _ _)).addRd hr hd) Try.func42 rfl rfl ?_
  repeat'(first|refine kv' ?_|apply jJ|refine jE' ?_|refine jp' ?_|(apply jc;kernel_rfl)|refine kg' ?_|refine kG' ?_|refine kB' fun _=>?_|refine kA' fun _=>?_|refine kK' fun _=>?_|refine kU' ?_|(apply LR.call; (· exact rfl); (intro w1 h1; refine CallsTo.mono (show CallsTo Try.prog 76 [m.val a c] w1 _ from c33 m a c w1 (h1.rd_of (by (repeat (first | exact mH _ _ | apply mT)))) hz hl hb) ?_; rintro v w2 ⟨a2, c2, rfl, hn⟩; refine LR.back (h1.newSl hn) ?_; clear hn h1))|((first|refine kR' ?_ ?_|refine kQ' ?_ ?_);all_goals(intro hc;try simp only[hcs]at hc;try(exfalso;first|contradiction|omega))))
  · have e : tkB R1 R2 (dats es) m = false := by unfold tkB; exact decide_eq_false (fun h => hc h.1)
    (apply ret2; (· exact rfl); intro w' hS)
    unfold tkNew tkE tkD tkH
    rw [e]
    exact ⟨es, aru, rfl, rfl, hA, (hS.sub (L' := [wO bw bm es aru high]) (by (repeat (first | exact List.Sublist.refl _ | apply List.Sublist.cons_cons | apply List.Sublist.cons)))).step rfl⟩
  · rename (inner m).2 = 0 => h0
    have e : tkB R1 R2 (dats es) m = false := by unfold tkB; exact decide_eq_false (fun h => by first | exact hc h.2 | exact hc (by simp [h.2]) | simp_all)
    (apply ret2; (· exact rfl); intro w' hS)
    unfold tkNew tkE tkD tkH
    rw [e]
    refine ⟨es, aru, ?_, rfl, hA, (hS.sub (L' := [wO bw bm es aru high]) (by (repeat (first | exact List.Sublist.refl _ | apply List.Sublist.cons_cons | apply List.Sublist.cons)))).step rfl⟩
    show Value.tuple [.bool false, .int .i64 0].toArray = .tuple [.bool false, .int .i64 (inner m).2].toArray
    rw [h0]
  · have e : tkB R1 R2 (dats es) m = true := by unfold tkB; exact decide_eq_true ⟨by assumption, hc⟩
    unfold tkNew tkE tkD tkH
    rw [e]
    apply LR.call
    · exact rfl
    intro w1 h1
    have hz2 : a2 = none → c2 = 0 := body_nz (x := ⟨(inner m).1, a2, c2⟩) (h1.holds _ (by (repeat (first | exact mH _ _ | apply mT))))
    refine CallsTo.mono (show CallsTo Try.prog 37 [.pointer (some ⟨bw, 0, none⟩), (inner m).1.val a2 c2] w1 _ from t29 bw bm es aru high (inner m).1 a2 c2 w1 (h1.holds _ (by (repeat (first | exact mH _ _ | apply mT)))) hD hA (h1.rd_of_own (by (repeat (first | exact mH _ _ | apply mT)))) hz2 (fun k hk => St.apart (x := osl (.slice a2 (inner m).1.msg.body.length c2) 5 1 (inner m).1.msg.body.length (bv (inner m).1.msg.body)) (h1.sub (L' := [osl (.slice a2 (inner m).1.msg.body.length c2) 5 1 (inner m).1.msg.body.length (bv (inner m).1.msg.body), wO bw bm es aru high]) (by (repeat (first | exact List.Sublist.refl _ | apply List.Sublist.cons_cons | apply List.Sublist.cons)))) (by (repeat (first | exact mH _ _ | apply mT))) rfl k (St.osl_foot hk)) hi) ?_
    rintro v w2 ⟨es1, ar1, rfl, he1, ha1, hst⟩
    refine LR.back (h1.did (by (repeat (first | exact sH _ _ _ | apply sT))) rfl hst (wO_dep _ _ _ _ _)) ?_
    clear hst h1
    repeat'(first|refine kv' ?_|apply jJ|refine jE' ?_|refine jp' ?_|(apply jc;kernel_rfl)|refine kg' ?_|refine kG' ?_|refine kB' fun _=>?_|refine kA' fun _=>?_|refine kK' fun _=>?_|refine kU' ?_|((first|refine kR' ?_ ?_|refine kQ' ?_ ?_);all_goals(intro hc;try simp only[hcs]at hc;try(exfalso;first|contradiction|omega))))
    (apply ret2; (· exact rfl); intro w' hS)
    exact ⟨es1, ar1, rfl, he1, ha1, (hS.sub (L' := [wO bw bm es1 ar1 (wpH (dats es) high (inner m).1)]) (by (repeat (first | exact List.Sublist.refl _ | apply List.Sublist.cons_cons | apply List.Sublist.cons)))).step rfl⟩
end Go.Proofs.Ytgblmkpfkcibiaa

namespace Go.Proofs.Ytgblmkpfkcibiaa
open Go.Hb
attribute [local irreducible] LR CW At Ev thn blk finK noG again CallsTo DW QL dnext TW DP
set_option linter.unusedSimpArgs false
set_option linter.unusedVariables false
set_option maxRecDepth 100000

def oneR (r1 r2 n : Int) : Dat := ⟨r1, r2, n, 1 + n.tmod 8, n, ⟨1, 1 + n.tmod 8, 1, n, 0, 1, 1, false, 0, 0, 0, 0, [IntKind.wrap .u8 n]⟩⟩
/-- Data that may be sent again. -/
structure OkR (d : Dat) : Prop where
  may : mayOld d = true
  ck : check d.msg = 0
  kind : d.msg.kind ≠ 5
  byt : Byt d.msg.body
  wp : wpOk d = true
theorem OkR.old {d : Dat} (h : OkR d) : old d = (oldM d, 0) := by
  unfold Go.Proofs.Ytgblmkpfkcibiaa.old
  rw [if_pos ⟨h.may, h.ck, h.kind⟩]
theorem OkR.inner {d : Dat} (h : OkR d) : inner (oldM d) = (d, 0) := inner_old h.may h.byt h.ck h.kind
theorem OkR.check {d : Dat} (h : OkR d) : check (oldM d) = 0 := check_oldM h.may h.byt h.ck h.kind
theorem OkR.len {d : Dat} (h : OkR d) : (oldM d).body.length ≤ 160 := (check_ok h.check).1
theorem OkR.bytM {d : Dat} (h : OkR d) : Byt (oldM d).body := h.byt.bytes h.ck
theorem OkR.lenD {d : Dat} (h : OkR d) : d.msg.body.length ≤ 160 := (check_ok h.ck).1
theorem one_ck : ∀ n : Nat, n < 51 → check (oneR 2 1 (n : Int)).msg = 0 := by decide +kernel
theorem one_may : ∀ i : Nat, i < 3 → ∀ j : Nat, j < 2 → ∀ n : Nat, n < 50 → mayOld (oneR (1 + i) (1 + j) (1 + n)) = true ∧ wpOk (oneR (1 + i) (1 + j) (1 + n)) = true := by decide +kernel
theorem one_byt : ∀ n : Nat, n < 51 → (IntKind.wrap .u8 (n : Int)) = n := by decide +kernel
theorem one_ok {r1 r2 n : Int} (h1 : 1 ≤ r1 ∧ r1 ≤ 3) (h2 : 1 ≤ r2 ∧ r2 ≤ 2) (h3 : 1 ≤ n ∧ n ≤ 50) : OkR (oneR r1 r2 n) := by
  obtain ⟨i, rfl⟩ : ∃ i : Nat, r1 = 1 + (i : Int) := ⟨(r1 - 1).toNat, by omega⟩
  obtain ⟨j, rfl⟩ : ∃ j : Nat, r2 = 1 + (j : Int) := ⟨(r2 - 1).toNat, by omega⟩
  obtain ⟨k, rfl⟩ : ∃ k : Nat, n = 1 + (k : Int) := ⟨(n - 1).toNat, by omega⟩
  have hm := one_may i (by omega) j (by omega) k (by omega)
  have hc := one_ck (1 + k) (by omega)
  have hb := one_byt (1 + k) (by omega)
  have e : ((1 + k : Nat) : Int) = 1 + (k : Int) := by omega
  rw [e] at hc hb
  refine ⟨hm.1, hc, ?_, ?_, hm.2⟩
  · show (1 : Int) ≠ 5
    omega
  · intro x hx
    have hx : x ∈ [IntKind.wrap .u8 (1 + (k : Int))] := hx
    rw [List.mem_singleton] at hx
    rw [hx, hb]
    omega
theorem wp_new {D : List Dat} {d : Dat} (h : OkR d) : wpNew D d = !hasD D d.seq := by unfold wpNew; rw [h.wp]; rfl
theorem wp_e {d : Dat} (h : OkR d) : wpE d = 0 := by unfold wpE; rw [h.wp]; rfl
theorem sendL_ok {ds : List Dat} (h : ∀ d ∈ ds, OkR d) : sendL ds = ds.map oldM := by
  induction ds with
  | nil => rfl
  | cons d r ih =>
    have h1 := (h d List.mem_cons_self).old
    have h2 := ih fun x hx => h x (List.mem_cons_of_mem _ hx)
    unfold sendL at h2 ⊢
    rw [List.filterMap_cons, h2, h1]
    rfl
/-! ### numbers in order -/
theorem sqs_ascG {D : List Dat} (h : WOk D) : (sqs D).Pairwise (· < ·) := by
  have h1 : (sqs D).Pairwise (· ≤ ·) := by
    have := List.pairwise_mergeSort (le := fun x y : Int => decide (x ≤ y)) (fun a b c h1 h2 => by simp only [decide_eq_true_eq] at *; omega) (fun a b => by simp only [Bool.or_eq_true, decide_eq_true_eq]; omega) (D.map Dat.seq)
    exact this.imp (fun hab => by simpa using hab)
  have h2 : (sqs D).Nodup := (List.mergeSort_perm _ _).nodup_iff.2 h.nodup
  exact (h1.and h2).imp (fun ⟨ha, hb⟩ => by omega)
theorem asc_extG {l r : List Int} (hl : l.Pairwise (· < ·)) (hr : r.Pairwise (· < ·)) (h : ∀ x, x ∈ l ↔ x ∈ r) : l = r := by
  have n1 : l.Nodup := hl.imp (fun hab => by omega)
  have n2 : r.Nodup := hr.imp (fun hab => by omega)
  refine List.Perm.eq_of_pairwise (le := fun a b => a < b) (fun a b _ _ h1 h2 => by omega) hl hr ((List.perm_ext_iff_of_nodup n1 n2).2 h)
theorem getT_seqG {D : List Dat} {s : Int} (h : hasD D s = true) : (getT D s).seq = s := by
  rw [← fnd_has] at h
  obtain ⟨d, hd⟩ := Option.isSome_iff_exists.1 h
  unfold getT
  rw [hd]
  unfold fndD at hd
  simpa using List.find?_some hd
theorem nodup_inj {D : List Dat} (h : (D.map Dat.seq).Nodup) {x y : Dat} (hx : x ∈ D) (hy : y ∈ D) (e : x.seq = y.seq) : x = y := by
  induction D with
  | nil => cases hx
  | cons d r ih =>
    rw [List.map_cons, List.nodup_cons] at h
    rcases List.mem_cons.1 hx with h1 | h1
    · rcases List.mem_cons.1 hy with h2 | h2
      · rw [h1, h2]
      · exact absurd (by rw [← h1, e]; exact List.mem_map_of_mem h2) h.1
    · rcases List.mem_cons.1 hy with h2 | h2
      · exact absurd (by rw [← h2, ← e]; exact List.mem_map_of_mem h1) h.1
      · exact ih h.2 h1 h2
theorem getT_ofG {D : List Dat} (h : (D.map Dat.seq).Nodup) {d : Dat} (hd : d ∈ D) : getT D d.seq = d := by
  have h1 := getT_seqG (has_iff.2 ⟨d, hd, rfl⟩)
  have h2 := getT_mem (D := D) (s := d.seq) (has_iff.2 ⟨d, hd, rfl⟩)
  exact nodup_inj h h2 hd h1
theorem abv_seqG (D : List Dat) (q : Int) : (abvT D q).map Dat.seq = (sqs D).filter fun s => decide (q < s) := by
  unfold abvT abvS
  rw [List.map_map]
  refine (List.map_congr_left (g := id) fun s hs => ?_).trans (List.map_id _)
  exact getT_seqG (mem_sqs.1 (List.mem_filter.1 hs).1)
theorem mem_abv {D : List Dat} (h : WOk D) {q : Int} {d : Dat} : d ∈ abvT D q ↔ d ∈ D ∧ q < d.seq := by
  constructor
  · intro hd
    refine ⟨abv_mem hd, ?_⟩
    have h1 : d.seq ∈ (abvT D q).map Dat.seq := List.mem_map_of_mem hd
    rw [abv_seqG, List.mem_filter] at h1
    simpa using h1.2
  · rintro ⟨h1, h2⟩
    unfold abvT abvS
    rw [List.mem_map]
    exact ⟨d.seq, List.mem_filter.2 ⟨mem_sqs.2 (has_iff.2 ⟨d, h1, rfl⟩), by simpa using h2⟩, getT_ofG h.nodup h1⟩
theorem abv_asc {D : List Dat} (h : WOk D) (ha : (D.map Dat.seq).Pairwise (· < ·)) (q : Int) : abvT D q = D.filter fun d => decide (q < d.seq) := by
  have e : sqs D = D.map Dat.seq := asc_extG (sqs_ascG h) ha fun x => by rw [mem_sqs, has_iff, List.mem_map]
  unfold abvT abvS
  rw [e, List.filter_map, List.map_map]
  refine (List.map_congr_left (g := id) fun d hd => ?_).trans (List.map_id _)
  exact getT_ofG h.nodup (List.mem_filter.1 hd).1
/-! ### the statements' small functions -/
theorem g43 (w : World) : CallsTo Try.prog 43 [] w fun v w' => v = .agg [.int .i64 2, .int .i64 1].toArray ∧ Grew w w' := by
  refine go_in (n := 2) (St.refl _ NoF) Try.func43 rfl rfl ?_
  repeat'(first|refine kv' ?_|apply jJ|refine jE' ?_|refine jp' ?_|(apply jc;kernel_rfl)|refine kg' ?_|refine kG' ?_|refine kB' fun _=>?_|refine kA' fun _=>?_|refine kK' fun _=>?_|refine kU' ?_|((first|refine kR' ?_ ?_|refine kQ' ?_ ?_);all_goals(intro hc;try simp only[hcs]at hc;try(exfalso;first|contradiction|omega))))
  (apply ret1c; (· exact rfl); (· exact inferInstance); (· exact rfl); (· (repeat (first | exact List.Mem.head _ | apply List.Mem.tail))); (· exact rfl); intro w' hS)
  exact ⟨rfl, hS.toKeep⟩
theorem g38 (n : Int) (h0 : 0 ≤ n) (h1 : n ≤ 1000) (w : World) : CallsTo Try.prog 38 [.int .i64 n] w fun v w' => ∃ a c, v = (oneR 2 1 n).val a c ∧ NewSl w w' (.slice a 1 c) 5 1 1 (bv (oneR 2 1 n).msg.body) := by
  have hb := tmod_bd n 8 (by omega)
  refine go_in (n := 18) (St.refl _ NoF) Try.func38 rfl rfl ?_
  repeat'(first|refine kv' ?_|apply jJ|refine jE' ?_|refine jp' ?_|(apply jc;kernel_rfl)|refine kg' ?_|refine kG' ?_|refine kB' fun _=>?_|refine kA' fun _=>?_|refine kK' fun _=>?_|refine kU' ?_|(apply LR.ev; (· apply Ev.rem; (· exact rfl); (· exact rfl); (· first | decide | omega)); (· exact rfl))|(apply addX;(iterate 2 exact rfl);(iterate 2(first|omega|(dsimp only;omega)));exact rfl)|(apply kq; (· exact rfl); (· intro w1 h1; exact CallsTo.q (g43 w1) h1))|((first|refine kR' ?_ ?_|refine kQ' ?_ ?_);all_goals(intro hc;try simp only[hcs]at hc;try(exfalso;first|contradiction|omega))))
  (apply ret1c; (· exact rfl); (· exact inferInstance); (· exact rfl); (· (repeat (first | exact List.Mem.head _ | apply List.Mem.tail))); (· exact rfl); intro w' hS)
  exact ⟨_, 1, rfl, (hS.own_osl (k := 1) (sz := 1) (E := 5) (cs := [.int .u8 (IntKind.wrap .u8 n)]) (by (repeat (first | exact sH _ _ _ | apply sT))) rfl (by unfold maxLen; omega)).toNew (by (repeat (first | exact mH _ _ | apply mT)))⟩
end Go.Proofs.Ytgblmkpfkcibiaa

namespace Go.Proofs.Ytgblmkpfkcibiaa
open Go.Hb
attribute [local irreducible] LR CW At Ev thn blk finK noG again CallsTo DW QL dnext TW DP
set_option linter.unusedSimpArgs false
set_option linter.unusedVariables false
set_option maxRecDepth 100000

structure GWin (D : List Dat) (es : List DaA) (aru : Int) : Prop where
  e : dats es = D
  ok : WOk D
  aru : IsAru D aru
  good : ∀ d ∈ D, OkR d
theorem wpD_new {D : List Dat} {d : Dat} (h : OkR d) (hn : hasD D d.seq = false) : wpD D d = D ++ [d] := by unfold wpD; rw [wp_new h, hn]; rfl
theorem wpD_old {D : List Dat} {d : Dat} (h : OkR d) (hn : hasD D d.seq = true) : wpD D d = D := by unfold wpD; rw [wp_new h, hn]; rfl
theorem wpH_new {D : List Dat} {d : Dat} {hi : Int} (h : OkR d) (hn : hasD D d.seq = false) : wpH D hi d = max hi d.seq := by unfold wpH; rw [wp_new h, hn]; rfl
theorem GWin.nil : GWin [] [] 0 := ⟨rfl, ⟨by simp, fun d hd => by simp at hd, fun d hd => by simp at hd⟩, ⟨⟨by omega, fun s h1 h2 => by omega⟩, rfl⟩, fun d hd => by simp at hd⟩
theorem GWin.put {D : List Dat} {es : List DaA} {ar : Int} (g : GWin D es ar) {d : Dat} (hd : OkR d) {es' : List DaA} {ar' : Int} (he : dats es' = wpD D d) (ha : IsAru (wpD D d) ar') : GWin (wpD D d) es' ar' := by
  refine ⟨he, wpD_ok g.ok (by have := hd.lenD; omega), ha, fun x hx => ?_⟩
  unfold wpD at hx
  split at hx
  · rcases List.mem_append.1 hx with hx | hx
    · exact g.good x hx
    · rw [List.mem_singleton] at hx; rw [hx]; exact hd
  · exact g.good x hx
theorem g37 (bw bm : Nat) (es : List DaA) (ar hi : Int) (D : List Dat) (d : Dat) (a : Option Addr) (c : Nat) (w : World) (h : (wO bw bm es ar hi).holds w) (g : GWin D es ar) (hd : OkR d)
    (hr : Rd w a (bv d.msg.body)) (hz : a = none → c = 0) (hx : ∀ k, rdFoot a (bv d.msg.body) k → ¬ (wO bw bm es ar hi).foot k) :
    CallsTo Try.prog 37 [.pointer (some ⟨bw, 0, none⟩), d.val a c] w fun v w' => ∃ es' ar', v = .tuple [.bool (!hasD D d.seq), .int .i64 0].toArray ∧ GWin (wpD D d) es' ar' ∧ Step (wO bw bm es ar hi) (wO bw bm es' ar' (wpH D hi d)) w w' := by
  obtain rfl := g.e
  refine CallsTo.mono (show CallsTo Try.prog 37 [.pointer (some ⟨bw, 0, none⟩), d.val a c] w _ from t29 bw bm es ar hi d a c w h g.ok g.aru hr hz hx (by have := hd.lenD; omega)) ?_
  rintro v w2 ⟨es', ar', rfl, he, ha, hst⟩
  rw [wp_new hd, wp_e hd]
  exact ⟨es', ar', rfl, g.put hd he ha, hst⟩
def ringIs (R1 R2 : Int) (d : Dat) : Bool := decide (d.rseq = R1 ∧ d.rrep = R2)
def takD (R1 R2 : Int) (D : List Dat) (d : Dat) : List Dat := if ringIs R1 R2 d then wpD D d else D
def takH (R1 R2 : Int) (D : List Dat) (hi : Int) (d : Dat) : Int := if ringIs R1 R2 d then wpH D hi d else hi
theorem g42o (bw bm : Nat) (es : List DaA) (ar hi : Int) (D : List Dat) (R1 R2 : Int) (d : Dat) (a : Option Addr) (c : Nat) (w : World) (h : (wO bw bm es ar hi).holds w) (g : GWin D es ar) (hd : OkR d)
    (hr : Rd w a (bv (oldM d).body)) (hz : a = none → c = 0) (hx : ∀ k, rdFoot a (bv (oldM d).body) k → ¬ (wO bw bm es ar hi).foot k) :
    CallsTo Try.prog 42 [.pointer (some ⟨bw, 0, none⟩), .agg [.int .i64 R1, .int .i64 R2].toArray, (oldM d).val a c] w fun v w' => ∃ es' ar', v = .tuple [.bool (ringIs R1 R2 d && !hasD D d.seq), .int .i64 0].toArray ∧ GWin (takD R1 R2 D d) es' ar' ∧ Step (wO bw bm es ar hi) (wO bw bm es' ar' (takH R1 R2 D hi d)) w w' := by
  obtain rfl := g.e
  refine (g42 bw bm es ar hi R1 R2 (oldM d) a c w h g.ok g.aru hr hz hx (by have := hd.len; omega) hd.bytM (by rw [hd.inner]; have := hd.lenD; show d.msg.body.length ≤ _; omega)).mono ?_
  rintro v w2 ⟨es', ar', rfl, he, ha, hst⟩
  have eb : tkB R1 R2 (dats es) (oldM d) = ringIs R1 R2 d := by unfold tkB ringIs; rw [hd.inner]; simp
  unfold tkD at he ha
  unfold tkH at hst
  unfold tkNew tkE
  unfold takD takH
  rw [eb, hd.inner] at he ha hst ⊢
  cases hq : ringIs R1 R2 d with
  | true =>
    rw [hq] at he ha hst
    rw [wp_new hd, wp_e hd]
    exact ⟨es', ar', rfl, g.put hd he ha, hst⟩
  | false =>
    rw [hq] at he ha hst
    exact ⟨es', ar', rfl, ⟨he, g.ok, ha, g.good⟩, hst⟩
theorem g39o (bw bm : Nat) (es : List DaA) (ar hi low : Int) (D : List Dat) (w : World) (h : (wO bw bm es ar hi).holds w) (g : GWin D es ar) (hl : es.length ≤ 100000) :
    CallsTo Try.prog 39 [.pointer (some ⟨bw, 0, none⟩), .int .i64 low] w fun v w' => ∃ b a c ms, v = .tuple [.pointer (some ⟨b, 0, none⟩), .int .i64 0].toArray ∧ ms.map MsA.m = (abvT D low).map oldM ∧ New1 (gO b a c ms) w w' := by
  obtain rfl := g.e
  refine (g39 bw bm es ar hi low w h g.ok hl (fun d hd => (g.good d hd).byt)).mono ?_
  rintro v w2 ⟨b, a, c, ms, rfl, hm, hn⟩
  exact ⟨b, a, c, ms, rfl, by rw [hm, sendL_ok fun d hd => g.good d (abv_mem hd)], hn⟩
theorem gO_rd {b : Nat} {a : Option Addr} {c : Nat} {L : List MsA} {w : World} (h : (gO b a c L).holds w) : Rd w (some ⟨b, 0, none⟩) [.bool true, .slice a L.length c] := by
  exact fun j v hj => ⟨_, rfl, by rw [addr_add, cell_own (show w.heap[b]? = some (.cells [Value.bool true, .slice a L.length c].toArray 109 (0, 0)) from h.1)]; simpa using hj⟩
set_option maxHeartbeats 2000000 in
theorem g35 (w : World) : CallsTo Try.prog 35 [] w fun v w' => v = .bool true ∧ Grew w w' := by
  have k1 : OkR (oneR 2 1 1) := one_ok (by omega) (by omega) (by omega)
  have k2 : OkR (oneR 2 1 2) := one_ok (by omega) (by omega) (by omega)
  have k4 : OkR (oneR 2 1 4) := one_ok (by omega) (by omega) (by omega)
  refine go_in (n := 119) (St.refl _ NoF) Try.func35 rfl rfl ?_
  repeat'(first|refine kv' ?_|apply jJ|refine jE' ?_|refine jp' ?_|(apply jc;kernel_rfl)|refine kg' ?_|refine kG' ?_|refine kB' fun _=>?_|refine kA' fun _=>?_|refine kK' fun _=>?_|refine kU' ?_|((first|refine kR' ?_ ?_|refine kQ' ?_ ?_);all_goals(intro hc;try simp only[hcs]at hc;try(exfalso;first|contradiction|omega))))
  apply LR.call
  · exact rfl
  intro w1 h1
  refine (t24 w1).mono ?_
  rintro v w2 ⟨bw, bm, rfl, hn⟩
  refine LR.back (h1.got hn (wO_dep _ _ _ _ _)) ?_
  clear h1
  clear hn
  apply LR.call
  · exact rfl
  intro w1 h1
  refine (t24 w1).mono ?_
  rintro v w2 ⟨bv_, bn, rfl, hn⟩
  refine LR.back (h1.got hn (wO_dep _ _ _ _ _)) ?_
  clear h1
  clear hn
  repeat'(first|refine kv' ?_|apply jJ|refine jE' ?_|refine jp' ?_|(apply jc;kernel_rfl)|refine kg' ?_|refine kG' ?_|refine kB' fun _=>?_|refine kA' fun _=>?_|refine kK' fun _=>?_|refine kU' ?_|((first|refine kR' ?_ ?_|refine kQ' ?_ ?_);all_goals(intro hc;try simp only[hcs]at hc;try(exfalso;first|contradiction|omega))))
  apply LR.call
  · exact rfl
  intro w1 h1
  refine (g38 1 (by omega) (by omega) w1).mono ?_
  rintro v w2 ⟨a1, c1, rfl, hn⟩
  refine LR.back (h1.newSl hn) ?_
  clear h1
  clear hn
  repeat'(first|refine kv' ?_|apply jJ|refine jE' ?_|refine jp' ?_|(apply jc;kernel_rfl)|refine kg' ?_|refine kG' ?_|refine kB' fun _=>?_|refine kA' fun _=>?_|refine kK' fun _=>?_|refine kU' ?_|((first|refine kR' ?_ ?_|refine kQ' ?_ ?_);all_goals(intro hc;try simp only[hcs]at hc;try(exfalso;first|contradiction|omega))))
  apply LR.call
  · exact rfl
  intro w1 h1
  have hz : a1 = none → c1 = 0 := body_nz (x := ⟨oneR 2 1 1, a1, c1⟩) (h1.holds (osl (.slice a1 1 c1) 5 1 1 (bv (oneR 2 1 1).msg.body)) (by (repeat (first | exact mH _ _ | apply mT))))
  have hap := St.apart (x := osl (.slice a1 1 c1) 5 1 1 (bv (oneR 2 1 1).msg.body)) (y := wO bw bm [] 0 (0)) (h1.sub (L' := [osl (.slice a1 1 c1) 5 1 1 (bv (oneR 2 1 1).msg.body), wO bw bm [] 0 (0)]) (by (repeat (first | exact List.Sublist.refl _ | apply List.Sublist.cons_cons | apply List.Sublist.cons)))) (by (repeat (first | exact mH _ _ | apply mT))) rfl
  refine (show CallsTo Try.prog 37 [.pointer (some ⟨bw, 0, none⟩), (oneR 2 1 1).val a1 c1] w1 _ from g37 bw bm [] 0 (0) ([]) (oneR 2 1 1) a1 c1 w1 (h1.holds _ (by (repeat (first | exact mH _ _ | apply mT)))) GWin.nil k1 (h1.rd_of_own (n := 1) (E := 5) (sz := 1) (by (repeat (first | exact mH _ _ | apply mT)))) hz (fun k hk => hap k (St.osl_foot hk))).mono ?_
  rintro v w2 ⟨es1, ar1, rfl, g1, hst⟩
  refine LR.back (h1.did (by (repeat (first | exact sH _ _ _ | apply sT))) rfl hst (wO_dep _ _ _ _ _)) ?_
  clear h1
  clear hst hap hz
  have e1 : wpD [] (oneR 2 1 1) = [oneR 2 1 1] := wpD_new k1 rfl
  have f1 : wpH [] 0 (oneR 2 1 1) = 1 := wpH_new k1 rfl
  rw [e1] at g1
  rw [f1]
  repeat'(first|refine kv' ?_|apply jJ|refine jE' ?_|refine jp' ?_|(apply jc;kernel_rfl)|refine kg' ?_|refine kG' ?_|refine kB' fun _=>?_|refine kA' fun _=>?_|refine kK' fun _=>?_|refine kU' ?_|((first|refine kR' ?_ ?_|refine kQ' ?_ ?_);all_goals(intro hc;try simp only[hcs]at hc;try(exfalso;first|contradiction|omega))))
  apply LR.call
  · exact rfl
  intro w1 h1
  refine (g38 2 (by omega) (by omega) w1).mono ?_
  rintro v w2 ⟨a2, c2, rfl, hn⟩
  refine LR.back (h1.newSl hn) ?_
  clear h1
  clear hn
  repeat'(first|refine kv' ?_|apply jJ|refine jE' ?_|refine jp' ?_|(apply jc;kernel_rfl)|refine kg' ?_|refine kG' ?_|refine kB' fun _=>?_|refine kA' fun _=>?_|refine kK' fun _=>?_|refine kU' ?_|((first|refine kR' ?_ ?_|refine kQ' ?_ ?_);all_goals(intro hc;try simp only[hcs]at hc;try(exfalso;first|contradiction|omega))))
  apply LR.call
  · exact rfl
  intro w1 h1
  have hz : a2 = none → c2 = 0 := body_nz (x := ⟨oneR 2 1 2, a2, c2⟩) (h1.holds (osl (.slice a2 1 c2) 5 1 1 (bv (oneR 2 1 2).msg.body)) (by (repeat (first | exact mH _ _ | apply mT))))
  have hap := St.apart (x := osl (.slice a2 1 c2) 5 1 1 (bv (oneR 2 1 2).msg.body)) (y := wO bw bm es1 ar1 (1)) (h1.sub (L' := [osl (.slice a2 1 c2) 5 1 1 (bv (oneR 2 1 2).msg.body), wO bw bm es1 ar1 (1)]) (by (repeat (first | exact List.Sublist.refl _ | apply List.Sublist.cons_cons | apply List.Sublist.cons)))) (by (repeat (first | exact mH _ _ | apply mT))) rfl
  refine (show CallsTo Try.prog 37 [.pointer (some ⟨bw, 0, none⟩), (oneR 2 1 2).val a2 c2] w1 _ from g37 bw bm es1 ar1 (1) ([oneR 2 1 1]) (oneR 2 1 2) a2 c2 w1 (h1.holds _ (by (repeat (first | exact mH _ _ | apply mT)))) g1 k2 (h1.rd_of_own (n := 1) (E := 5) (sz := 1) (by (repeat (first | exact mH _ _ | apply mT)))) hz (fun k hk => hap k (St.osl_foot hk))).mono ?_
  rintro v w2 ⟨es2, ar2, rfl, g2, hst⟩
  refine LR.back (h1.did (by (repeat (first | exact sH _ _ _ | apply sT))) rfl hst (wO_dep _ _ _ _ _)) ?_
  clear h1
  clear hst hap hz
  have e2 : wpD [oneR 2 1 1] (oneR 2 1 2) = [oneR 2 1 1, oneR 2 1 2] := wpD_new k2 (by decide)
  have f2 : wpH [oneR 2 1 1] 1 (oneR 2 1 2) = 2 := wpH_new k2 (by decide)
  rw [e2] at g2
  rw [f2]
  repeat'(first|refine kv' ?_|apply jJ|refine jE' ?_|refine jp' ?_|(apply jc;kernel_rfl)|refine kg' ?_|refine kG' ?_|refine kB' fun _=>?_|refine kA' fun _=>?_|refine kK' fun _=>?_|refine kU' ?_|((first|refine kR' ?_ ?_|refine kQ' ?_ ?_);all_goals(intro hc;try simp only[hcs]at hc;try(exfalso;first|contradiction|omega))))
  apply LR.call
  · exact rfl
  intro w1 h1
  refine (g38 4 (by omega) (by omega) w1).mono ?_
  rintro v w2 ⟨a4, c4, rfl, hn⟩
  refine LR.back (h1.newSl hn) ?_
  clear h1
  clear hn
  repeat'(first|refine kv' ?_|apply jJ|refine jE' ?_|refine jp' ?_|(apply jc;kernel_rfl)|refine kg' ?_|refine kG' ?_|refine kB' fun _=>?_|refine kA' fun _=>?_|refine kK' fun _=>?_|refine kU' ?_|((first|refine kR' ?_ ?_|refine kQ' ?_ ?_);all_goals(intro hc;try simp only[hcs]at hc;try(exfalso;first|contradiction|omega))))
  apply LR.call
  · exact rfl
  intro w1 h1
  have hz : a4 = none → c4 = 0 := body_nz (x := ⟨oneR 2 1 4, a4, c4⟩) (h1.holds (osl (.slice a4 1 c4) 5 1 1 (bv (oneR 2 1 4).msg.body)) (by (repeat (first | exact mH _ _ | apply mT))))
  have hap := St.apart (x := osl (.slice a4 1 c4) 5 1 1 (bv (oneR 2 1 4).msg.body)) (y := wO bw bm es2 ar2 (2)) (h1.sub (L' := [osl (.slice a4 1 c4) 5 1 1 (bv (oneR 2 1 4).msg.body), wO bw bm es2 ar2 (2)]) (by (repeat (first | exact List.Sublist.refl _ | apply List.Sublist.cons_cons | apply List.Sublist.cons)))) (by (repeat (first | exact mH _ _ | apply mT))) rfl
  refine (show CallsTo Try.prog 37 [.pointer (some ⟨bw, 0, none⟩), (oneR 2 1 4).val a4 c4] w1 _ from g37 bw bm es2 ar2 (2) ([oneR 2 1 1, oneR 2 1 2]) (oneR 2 1 4) a4 c4 w1 (h1.holds _ (by (repeat (first | exact mH _ _ | apply mT)))) g2 k4 (h1.rd_of_own (n := 1) (E := 5) (sz := 1) (by (repeat (first | exact mH _ _ | apply mT)))) hz (fun k hk => hap k (St.osl_foot hk))).mono ?_
  rintro v w2 ⟨es4, ar4, rfl, g4, hst⟩
  refine LR.back (h1.did (by (repeat (first | exact sH _ _ _ | apply sT))) rfl hst (wO_dep _ _ _ _ _)) ?_
  clear h1
  clear hst hap hz
  have e4 : wpD [oneR 2 1 1, oneR 2 1 2] (oneR 2 1 4) = [oneR 2 1 1, oneR 2 1 2, oneR 2 1 4] := wpD_new k4 (by decide)
  have f4 : wpH [oneR 2 1 1, oneR 2 1 2] 2 (oneR 2 1 4) = 4 := wpH_new k4 (by decide)
  rw [e4] at g4
  rw [f4]
  have ea : abvT [oneR 2 1 1, oneR 2 1 2, oneR 2 1 4] 1 = [oneR 2 1 2, oneR 2 1 4] := (abv_asc g4.ok (by decide) 1).trans rfl
  repeat'(first|refine kv' ?_|apply jJ|refine jE' ?_|refine jp' ?_|(apply jc;kernel_rfl)|refine kg' ?_|refine kG' ?_|refine kB' fun _=>?_|refine kA' fun _=>?_|refine kK' fun _=>?_|refine kU' ?_|((first|refine kR' ?_ ?_|refine kQ' ?_ ?_);all_goals(intro hc;try simp only[hcs]at hc;try(exfalso;first|contradiction|omega))))
  apply LR.call
  · exact rfl
  intro w1 h1
  refine (g39o bw bm es4 ar4 4 1 _ w1 (h1.holds _ (by (repeat (first | exact mH _ _ | apply mT)))) g4 (by have := congrArg List.length g4.e; simp [dats] at this; omega)).mono ?_
  rintro v w2 ⟨b, ag, cg, ms, rfl, hm, hn⟩
  refine LR.back (h1.got hn (gO_dep _ _ _ _)) ?_
  clear h1
  clear hn
  rw [ea] at hm
  obtain ⟨x1, x2, rfl⟩ : ∃ x1 x2, ms = [x1, x2] := by
    have hl := congrArg List.length hm
    simp only [List.length_map, List.length_cons, List.length_nil] at hl
    obtain ⟨x1, r, rfl⟩ : ∃ x1 r, ms = x1 :: r := by cases ms with | nil => simp at hl | cons x r => exact ⟨x, r, rfl⟩
    obtain ⟨x2, r, rfl⟩ : ∃ x1 r2, r = x1 :: r2 := by cases r with | nil => simp at hl | cons x r => exact ⟨x, r, rfl⟩
    obtain rfl : r = [] := by cases r with | nil => rfl | cons x r => simp at hl
    exact ⟨x1, x2, rfl⟩
  obtain ⟨y1, ax1, cx1⟩ := x1
  obtain ⟨y2, ax2, cx2⟩ := x2
  obtain rfl : y1 = oldM (oneR 2 1 2) := (List.cons.inj hm).1
  obtain rfl : y2 = oldM (oneR 2 1 4) := (List.cons.inj (List.cons.inj hm).2).1
  obtain ⟨x1, hx1⟩ : ∃ x1 : MsA, x1 = ⟨oldM (oneR 2 1 2), ax1, cx1⟩ := ⟨_, rfl⟩
  obtain ⟨x2, hx2⟩ : ∃ x2 : MsA, x2 = ⟨oldM (oneR 2 1 4), ax2, cx2⟩ := ⟨_, rfl⟩
  have m1 : x1.m = oldM (oneR 2 1 2) := by rw [hx1]
  have m2 : x2.m = oldM (oneR 2 1 4) := by rw [hx2]
  rw [← hx1, ← hx2]
  repeat'(first|refine kv' ?_|apply jJ|refine jE' ?_|refine jp' ?_|(apply jc;kernel_rfl)|refine kg' ?_|refine kG' ?_|refine kB' fun _=>?_|refine kA' fun _=>?_|refine kK' fun _=>?_|refine kU' ?_|(apply kq; (· exact rfl); (· intro w1 h1; exact CallsTo.q (g40 b ag cg 2 w1 (gO_rd (h1.holds (gO b ag cg [x1, x2]) (by (repeat (first | exact mH _ _ | apply mT)))))) h1))|((first|refine kR' ?_ ?_|refine kQ' ?_ ?_);all_goals(intro hc;try simp only[hcs]at hc;try(exfalso;first|contradiction|omega))))
  apply LR.call
  · exact rfl
  intro w1 h1
  have hl1 : x1.m.body.length ≤ 140737488355328 := by rw [m1]; have := k2.len; omega
  refine (g41 b ag cg x1 [x2] w1 (h1.holds _ (by (repeat (first | exact mH _ _ | apply mT)))) hl1).mono ?_
  rintro v w2 ⟨a1g, c1g, ap, cp, rfl, st⟩
  refine LR.back (h1.two st rfl rfl rfl (by (repeat (first | exact sH _ _ _ | apply sT)))) ?_
  clear h1
  clear st hl1
  rw [m1]
  repeat'(first|refine kv' ?_|apply jJ|refine jE' ?_|refine jp' ?_|(apply jc;kernel_rfl)|refine kg' ?_|refine kG' ?_|refine kB' fun _=>?_|refine kA' fun _=>?_|refine kK' fun _=>?_|refine kU' ?_|((first|refine kR' ?_ ?_|refine kQ' ?_ ?_);all_goals(intro hc;try simp only[hcs]at hc;try(exfalso;first|contradiction|omega))))
  apply LR.call
  · exact rfl
  intro w1 h1
  have hl1 : x2.m.body.length ≤ 140737488355328 := by rw [m2]; have := k4.len; omega
  refine (g41 b a1g c1g x2 [] w1 (h1.holds _ (by (repeat (first | exact mH _ _ | apply mT)))) hl1).mono ?_
  rintro v w2 ⟨a2g, c2g, aq, cq, rfl, st⟩
  refine LR.back (h1.two st rfl rfl rfl (by (repeat (first | exact sH _ _ _ | apply sT)))) ?_
  clear h1
  clear st hl1
  rw [m2]
  repeat'(first|refine kv' ?_|apply jJ|refine jE' ?_|refine jp' ?_|refine kg' ?_|refine kG' ?_|refine kB' fun _=>?_|refine kA' fun _=>?_|refine kK' fun _=>?_|refine kU' ?_|(apply kq; (· exact rfl); (· intro w1 h1; exact CallsTo.q (g41e b a2g c2g w1 (gO_rd (h1.holds (gO b a2g c2g []) (by (repeat (first | exact mH _ _ | apply mT)))))) h1))|((first|refine kR' ?_ ?_|refine kQ' ?_ ?_);all_goals(intro hc;try simp only[hcs]at hc;try(exfalso;first|contradiction|omega))))
  apply CW.reg_held (St w NoF [.own _ (.cells ((oldM (oneR 2 1 2)).cells ap cp).toArray 66 (0, 0))])
  all_goals (
    apply DW.quiet [0, 2]
    · decide +kernel
    · first | exact fun _ h => h | exact fun _ h => St.sub h (by repeat (first | exact List.Sublist.refl _ | apply List.Sublist.cons_cons | apply List.Sublist.cons))
    repeat'(first|refine yv' ?_|refine uv' ?_|refine un' ?_|(refine us' ?_ ?_;all_goals(intro hc;try simp only[hcs]at hc;try(exfalso;first|contradiction|omega)))|apply QL.nil)
    all_goals (show DW _ _ _ _ _ _ _ _))
  all_goals (
    apply DW.loud 1
    · exact rfl
    · decide +kernel
    repeat'(first|refine kg' ?_|refine kG' ?_|apply kM|refine kv' ?_|refine kK' fun _=>?_|refine kU' ?_|refine kB' fun _=>?_|refine kA' fun _=>?_|(apply kq; (· exact rfl); (· intro w1 h1; exact CallsTo.q (g43 w1) h1))|(apply LR.call; (· exact rfl); (intro w1 h1; have hb := h1.holds (MsA.body ⟨oldM (oneR 2 1 2), ap, cp⟩) (by (repeat (first | exact mH _ _ | apply mT))); have hap := St.apart (x := MsA.body ⟨oldM (oneR 2 1 2), ap, cp⟩) (y := wO bv_ bn [] 0 0) (h1.sub (L' := [MsA.body ⟨oldM (oneR 2 1 2), ap, cp⟩, wO bv_ bn [] 0 0]) (by (repeat (first | exact List.Sublist.refl _ | apply List.Sublist.cons_cons | apply List.Sublist.cons)))) (by (repeat (first | exact mH _ _ | apply mT))) rfl; refine (g42o bv_ bn [] 0 0 [] 2 1 (oneR 2 1 2) ap cp w1 (h1.holds _ (by (repeat (first | exact mH _ _ | apply mT)))) GWin.nil k2 (ownsRow_rd hb) (body_nzM hb) (fun k hk => hap k (St.osl_foot hk))).mono ?_; rintro v w2 ⟨ev1, av1, rfl, q1, hst⟩; have h2 := h1.one' hst rfl (wO_dep _ _ _ _ _) (by (repeat (first | exact sH _ _ _ | apply sT))); refine LR.back h2 ?_; clear h2 h1 hst hap hb; apply kM)))
    all_goals (refine At.stage_same (fun _ h => St.sub h (by repeat (first | exact List.Sublist.refl _ | apply List.Sublist.cons_cons | apply List.Sublist.cons))) ?_))
  all_goals (
    apply DW.loud 3
    · exact rfl
    · decide +kernel
    repeat'(first|refine kg' ?_|refine kG' ?_|apply kM|refine kv' ?_|refine kK' fun _=>?_|refine kU' ?_|refine kB' fun _=>?_|refine kA' fun _=>?_|(apply kq; (· exact rfl); (· intro w1 h1; exact CallsTo.q (g43 w1) h1))|(apply LR.call; (· exact rfl); (intro w1 h1; have hb := h1.holds (MsA.body ⟨oldM (oneR 2 1 2), ap, cp⟩) (by (repeat (first | exact mH _ _ | apply mT))); have hap := St.apart (x := MsA.body ⟨oldM (oneR 2 1 2), ap, cp⟩) (y := wO bv_ bn [] 0 0) (h1.sub (L' := [MsA.body ⟨oldM (oneR 2 1 2), ap, cp⟩, wO bv_ bn [] 0 0]) (by (repeat (first | exact List.Sublist.refl _ | apply List.Sublist.cons_cons | apply List.Sublist.cons)))) (by (repeat (first | exact mH _ _ | apply mT))) rfl; refine (g42o bv_ bn [] 0 0 [] 2 1 (oneR 2 1 2) ap cp w1 (h1.holds _ (by (repeat (first | exact mH _ _ | apply mT)))) GWin.nil k2 (ownsRow_rd hb) (body_nzM hb) (fun k hk => hap k (St.osl_foot hk))).mono ?_; rintro v w2 ⟨ev1, av1, rfl, q1, hst⟩; have h2 := h1.one' hst rfl (wO_dep _ _ _ _ _) (by (repeat (first | exact sH _ _ _ | apply sT))); refine LR.back h2 ?_; clear h2 h1 hst hap hb; apply kM)))
    all_goals (refine At.stage_same (fun _ h => St.sub h (by repeat (first | exact List.Sublist.refl _ | apply List.Sublist.cons_cons | apply List.Sublist.cons))) ?_))
  all_goals (
    apply DW.quiet [4, 5, 6, 7, 8]
    · decide +kernel
    · first | exact fun _ h => h | exact fun _ h => St.sub h (by repeat (first | exact List.Sublist.refl _ | apply List.Sublist.cons_cons | apply List.Sublist.cons))
    repeat'(first|refine yv' ?_|refine uv' ?_|refine un' ?_|(refine us' ?_ ?_;all_goals(intro hc;try simp only[hcs]at hc;try(exfalso;first|contradiction|omega)))|apply QL.nil)
    all_goals (show DW _ _ _ _ _ _ _ _))
  all_goals (first | (apply DW.done_thn; (· decide +kernel)) | (apply DW.done; (· decide +kernel)))
  have t1 : takD 2 1 [] (oneR 2 1 2) = [oneR 2 1 2] := by unfold takD; rw [if_pos (by decide)]; exact wpD_new k2 rfl
  have t2 : takH 2 1 [] 0 (oneR 2 1 2) = 2 := by unfold takH; rw [if_pos (by decide)]; exact wpH_new k2 rfl
  have t3 : (ringIs 2 1 (oneR 2 1 2) && !hasD [] (oneR 2 1 2).seq) = true := by decide
  have t4 : (ringIs 2 1 (oneR 2 1 2) && !hasD [oneR 2 1 2] (oneR 2 1 2).seq) = false := by decide
  have t5 : takH 2 1 [oneR 2 1 2] 2 (oneR 2 1 2) = 2 := by unfold takH; rw [if_pos (by decide)]; unfold wpH; rw [wp_new k2]; rfl
  rw [t1] at q1
  rw [t2, t3]
  repeat'(first|refine kv' ?_|apply jJ|refine jE' ?_|refine jp' ?_|refine kg' ?_|refine kG' ?_|refine kB' fun _=>?_|refine kA' fun _=>?_|refine kK' fun _=>?_|refine kU' ?_|((first|refine kR' ?_ ?_|refine kQ' ?_ ?_);all_goals(intro hc;try simp only[hcs]at hc;try(exfalso;first|contradiction|omega))))
  apply CW.reg_held (St w NoF [.own _ (.cells ((oldM (oneR 2 1 2)).cells ap cp).toArray 66 (0, 0))])
  all_goals (
    apply DW.quiet [0, 2]
    · decide +kernel
    · first | exact fun _ h => h | exact fun _ h => St.sub h (by repeat (first | exact List.Sublist.refl _ | apply List.Sublist.cons_cons | apply List.Sublist.cons))
    repeat'(first|refine yv' ?_|refine uv' ?_|refine un' ?_|(refine us' ?_ ?_;all_goals(intro hc;try simp only[hcs]at hc;try(exfalso;first|contradiction|omega)))|apply QL.nil)
    all_goals (show DW _ _ _ _ _ _ _ _))
  all_goals (
    apply DW.loud 1
    · exact rfl
    · decide +kernel
    repeat'(first|refine kg' ?_|refine kG' ?_|apply kM|refine kv' ?_|refine kK' fun _=>?_|refine kU' ?_|refine kB' fun _=>?_|refine kA' fun _=>?_|(apply kq; (· exact rfl); (· intro w1 h1; exact CallsTo.q (g43 w1) h1))|(apply LR.call; (· exact rfl); (intro w1 h1; have hb := h1.holds (MsA.body ⟨oldM (oneR 2 1 2), ap, cp⟩) (by (repeat (first | exact mH _ _ | apply mT))); have hap := St.apart (x := MsA.body ⟨oldM (oneR 2 1 2), ap, cp⟩) (y := wO bv_ bn ev1 av1 2) (h1.sub (L' := [MsA.body ⟨oldM (oneR 2 1 2), ap, cp⟩, wO bv_ bn ev1 av1 2]) (by (repeat (first | exact List.Sublist.refl _ | apply List.Sublist.cons_cons | apply List.Sublist.cons)))) (by (repeat (first | exact mH _ _ | apply mT))) rfl; refine (g42o bv_ bn ev1 av1 2 [oneR 2 1 2] 2 1 (oneR 2 1 2) ap cp w1 (h1.holds _ (by (repeat (first | exact mH _ _ | apply mT)))) q1 k2 (ownsRow_rd hb) (body_nzM hb) (fun k hk => hap k (St.osl_foot hk))).mono ?_; rintro v w2 ⟨ev2, av2, rfl, q2, hst⟩; have h2 := h1.one' hst rfl (wO_dep _ _ _ _ _) (by (repeat (first | exact sH _ _ _ | apply sT))); refine LR.back h2 ?_; clear h2 h1 hst hap hb; apply kM)))
    all_goals (refine At.stage_same (fun _ h => St.sub h (by repeat (first | exact List.Sublist.refl _ | apply List.Sublist.cons_cons | apply List.Sublist.cons))) ?_))
  all_goals (
    apply DW.loud 3
    · exact rfl
    · decide +kernel
    repeat'(first|refine kg' ?_|refine kG' ?_|apply kM|refine kv' ?_|refine kK' fun _=>?_|refine kU' ?_|refine kB' fun _=>?_|refine kA' fun _=>?_|(apply kq; (· exact rfl); (· intro w1 h1; exact CallsTo.q (g43 w1) h1))|(apply LR.call; (· exact rfl); (intro w1 h1; have hb := h1.holds (MsA.body ⟨oldM (oneR 2 1 2), ap, cp⟩) (by (repeat (first | exact mH _ _ | apply mT))); have hap := St.apart (x := MsA.body ⟨oldM (oneR 2 1 2), ap, cp⟩) (y := wO bv_ bn ev1 av1 2) (h1.sub (L' := [MsA.body ⟨oldM (oneR 2 1 2), ap, cp⟩, wO bv_ bn ev1 av1 2]) (by (repeat (first | exact List.Sublist.refl _ | apply List.Sublist.cons_cons | apply List.Sublist.cons)))) (by (repeat (first | exact mH _ _ | apply mT))) rfl; refine (g42o bv_ bn ev1 av1 2 [oneR 2 1 2] 2 1 (oneR 2 1 2) ap cp w1 (h1.holds _ (by (repeat (first | exact mH _ _ | apply mT)))) q1 k2 (ownsRow_rd hb) (body_nzM hb) (fun k hk => hap k (St.osl_foot hk))).mono ?_; rintro v w2 ⟨ev2, av2, rfl, q2, hst⟩; have h2 := h1.one' hst rfl (wO_dep _ _ _ _ _) (by (repeat (first | exact sH _ _ _ | apply sT))); refine LR.back h2 ?_; clear h2 h1 hst hap hb; apply kM)))
    all_goals (refine At.stage_same (fun _ h => St.sub h (by repeat (first | exact List.Sublist.refl _ | apply List.Sublist.cons_cons | apply List.Sublist.cons))) ?_))
  all_goals (
    apply DW.quiet [4, 5, 6, 7, 8]
    · decide +kernel
    · first | exact fun _ h => h | exact fun _ h => St.sub h (by repeat (first | exact List.Sublist.refl _ | apply List.Sublist.cons_cons | apply List.Sublist.cons))
    repeat'(first|refine yv' ?_|refine uv' ?_|refine un' ?_|(refine us' ?_ ?_;all_goals(intro hc;try simp only[hcs]at hc;try(exfalso;first|contradiction|omega)))|apply QL.nil)
    all_goals (show DW _ _ _ _ _ _ _ _))
  all_goals (first | (apply DW.done_thn; (· decide +kernel)) | (apply DW.done; (· decide +kernel)))
  rw [t4, t5]
  repeat'(first|refine kv' ?_|apply jJ|refine jE' ?_|refine jp' ?_|(apply jc;kernel_rfl)|refine kg' ?_|refine kG' ?_|refine kB' fun _=>?_|refine kA' fun _=>?_|refine kK' fun _=>?_|refine kU' ?_|(apply kq; (· exact rfl); (· intro w1 h1; exact CallsTo.q (show CallsTo Try.prog 70 _ w1 _ from t37 bv_ bn ev2 av2 2 w1 (h1.holds _ (by (repeat (first | exact mH _ _ | apply mT))))) h1))|((first|refine kR' ?_ ?_|refine kQ' ?_ ?_);all_goals(intro hc;try simp only[hcs]at hc;try(exfalso;first|contradiction|omega))))
  (apply ret1; (· exact rfl); intro w' hS)
  exact ⟨rfl, hS.toKeep⟩
end Go.Proofs.Ytgblmkpfkcibiaa

namespace Go.Proofs.Ytgblmkpfkcibiaa
open Go.Hb
set_option linter.unusedSimpArgs false
set_option linter.unusedVariables false
set_option maxRecDepth 100000

theorem ints_of : ∀ (css : List (List Value)), (∀ c ∈ css, ∃ n : Int, c = [.int .i64 n] ∧ i64 n) → ∃ l : List Int, css.flatten = iv l ∧ l.length = css.length ∧ ∀ x ∈ l, i64 x
  | [], _ => ⟨[], rfl, rfl, fun p hp => by simp at hp⟩
  | c :: r, h => by
    obtain ⟨n, rfl, hp⟩ := h c List.mem_cons_self
    obtain ⟨l, h1, h2, h3⟩ := ints_of r fun c hc => h c (List.mem_cons_of_mem _ hc)
    refine ⟨n :: l, by rw [List.flatten_cons, h1]; rfl, by simp [h2], fun q hq => ?_⟩
    rcases List.mem_cons.1 hq with rfl | hq
    · exact hp
    · exact h3 q hq
theorem opn_ints : Opn Try.prog 22 (fun w cs => ∃ (a : Option Addr) (c : Nat) (l : List Int), cs = [.slice a l.length c] ∧ Rd w a (iv l) ∧ (∀ x ∈ l, i64 x) ∧ (a = none → c = 0) ∧ l.length ≤ c ∧ l.length ≤ 17592186043904) := by
  refine (opn_slice Try.underlying22 (sz := 1) (by_ := 8) (by kernel_rfl) (by omega) (by kernel_rfl) opn_i64).mono ?_
  rintro w cs ⟨a, len, cap, css, rfl, rfl, hg, hr, hz, hc, hm⟩
  obtain ⟨l, h1, h2, h3⟩ := ints_of css fun c hc => (hg c hc).1
  rw [h1] at hr
  have hm : css.length * 8 ≤ 140737488351232 := hm
  exact ⟨a, cap, l, by rw [h2], hr, h3, hz, by omega, by omega⟩
def TkI (t : Tk) : Prop := i64 t.r1 ∧ i64 t.r2 ∧ i64 t.hop ∧ i64 t.seq ∧ i64 t.aru ∧ i64 t.low ∧ i64 t.stamp ∧ i64 t.idle ∧ ∀ x ∈ t.ask, i64 x
structure Vst where
  node : Int
  aru : Int
  gaps : List Int
def Vst.cells (v : Vst) (a : Option Addr) (c : Nat) : List Value := [.int .i64 v.node, .int .i64 v.aru, .slice a v.gaps.length c]
def Vst.val (v : Vst) (a : Option Addr) (c : Nat) : Value := .agg (v.cells a c).toArray
def VstI (v : Vst) : Prop := i64 v.node ∧ i64 v.aru ∧ ∀ x ∈ v.gaps, i64 x
end Go.Proofs.Ytgblmkpfkcibiaa

namespace Go.Proofs.Ytgblmkpfkcibiaa
open Go.Hb
attribute [local irreducible] LR CW At Ev thn blk finK noG again CallsTo DW QL dnext TW DP
set_option linter.unusedSimpArgs false
set_option linter.unusedVariables false
set_option maxRecDepth 100000

/-! ### 64 bits -/
abbrev U64 (x : BitVec 64) : Int := (x.toNat : Int)
theorem ofInt_U64 (x : BitVec 64) : BitVec.ofInt 64 (U64 x) = x := by
  apply BitVec.eq_of_toNat_eq
  rw [BitVec.toNat_ofInt]
  have := x.isLt
  show (((x.toNat : Int) % ((2 ^ 64 : Nat) : Int)).toNat) = x.toNat
  omega
theorem wrap_U64 (x : BitVec 64) : IntKind.wrap .u64 (x.toNat : Int) = U64 x := by
  have := x.isLt
  unfold IntKind.wrap
  simp only [IntKind.signed, IntKind.bits]
  first
  | (show (x.toNat : Int) % 2 ^ 64 = _; unfold U64; omega)
  | (simp; omega)
theorem and_U64 (x y : BitVec 64) : andI .u64 (U64 x) (U64 y) = U64 (x &&& y) := by
  unfold andI
  rw [show IntKind.u64.bits = 64 from rfl, ofInt_U64, ofInt_U64]
  exact wrap_U64 _
theorem or_U64 (x y : BitVec 64) : orI .u64 (U64 x) (U64 y) = U64 (x ||| y) := by
  unfold orI
  rw [show IntKind.u64.bits = 64 from rfl, ofInt_U64, ofInt_U64]
  exact wrap_U64 _
theorem shr_U64 (x : BitVec 64) (k : Nat) (hk : k ≤ 64) : (U64 x).fdiv (2 ^ (min k 64)) = U64 (x >>> k) := by
  rw [show min k 64 = k by omega, Int.fdiv_eq_ediv_of_nonneg _ (by exact Int.le_of_lt (Int.pow_pos (by decide)))]
  unfold U64
  rw [BitVec.toNat_ushiftRight, Nat.shiftRight_eq_div_pow]
  rw [show (2 : Int) ^ k = ((2 ^ k : Nat) : Int) by simp]
  exact (Int.natCast_ediv _ _).symm
theorem low_U64 (x : BitVec 64) : andI .u64 (U64 x) 1 = if x.getLsbD 0 then 1 else 0 := by
  rw [show (1 : Int) = U64 1#64 from rfl, and_U64]
  have e : (x &&& 1#64) = if x.getLsbD 0 then 1#64 else 0#64 := by
    refine BitVec.eq_of_getLsbD_eq fun i hi => ?_
    rw [BitVec.getLsbD_and]
    cases i with
    | zero => cases x.getLsbD 0 <;> rfl
    | succ i =>
      have h1 : (1#64).getLsbD (i + 1) = false := by simp
      rw [h1, Bool.and_false]
      split
      · exact h1.symm
      · simp
  rw [e]
  cases x.getLsbD 0 <;> rfl
section
variable {P : Program} {C : World → Prop} {f : Frm} {T T' T'' : TypeId} {x y : Operand}
theorem Ev.andU64 {X Y : BitVec 64} {b : Int} (hx : f.ev x = .int .u64 (U64 X)) (hy : f.ev y = .int .u64 b) (hb : b = U64 Y) : Ev P C f (.binOp .and T' x y T'') T (.int .u64 (U64 (X &&& Y))) := by
  subst hb
  exact and_U64 X Y ▸ Ev.and hx hy
theorem Ev.orU64 {X Y : BitVec 64} (hx : f.ev x = .int .u64 (U64 X)) (hy : f.ev y = .int .u64 (U64 Y)) : Ev P C f (.binOp .or T' x y T'') T (.int .u64 (U64 (X ||| Y))) := or_U64 X Y ▸ Ev.or hx hy
theorem Ev.shrU64 {X : BitVec 64} {q : IntKind} {k : Int} {j : Nat} (hx : f.ev x = .int .u64 (U64 X)) (hy : f.ev y = .int q k) (hj : k = (j : Int)) (hk : j ≤ 64) : Ev P C f (.binOp .shr T' x y T'') T (.int .u64 (U64 (X >>> j))) := by
  subst hj
  rw [← shr_U64 X j hk]
  exact Ev.shr hx hy (by omega)
theorem Ev.lowU64 {X : BitVec 64} {k : Nat} {b : Bool} (hb : X.getLsbD k = b) (hx : f.ev x = .int .u64 (U64 (X >>> k))) (hy : f.ev y = .int .u64 1) : Ev P C f (.binOp .and T' x y T'') T (.int .u64 (if b then 1 else 0)) := by
  have h := low_U64 (X >>> k)
  rw [BitVec.getLsbD_ushiftRight, Nat.add_zero, hb] at h
  exact h ▸ Ev.and hx hy
end
def lowB (j : Nat) : BitVec 64 := (1#64 <<< j) - 1#64
theorem lowB_bit : ∀ j : Nat, j < 20 → ∀ k : Nat, k < 40 → (lowB j).getLsbD k = decide (k < j) := by decide +kernel
theorem lowB_val : ∀ j : Nat, j < 20 → IntKind.wrap .u64 (1 * 2 ^ (min j 64)) - 1 = U64 (lowB j) ∧ 1 ≤ IntKind.wrap .u64 (1 * 2 ^ (min j 64)) ∧ IntKind.wrap .u64 (1 * 2 ^ (min j 64)) ≤ 1048576 := by decide +kernel
def mask40 : BitVec 64 := 1099511627775#64
theorem mask_bit : ∀ k : Nat, k < 40 → mask40.getLsbD k = true := by decide +kernel
/-! ### sets of numbers -/
def bitsN (b : BitVec 64) (n : Nat) : List Dat := ((List.range n).filter fun k => b.getLsbD k).map fun (k : Nat) => oneR 2 1 ((k : Int) + 1)
abbrev bitsD (b : BitVec 64) : List Dat := bitsN b 40
theorem bitsN_succ (b : BitVec 64) (n : Nat) : bitsN b (n + 1) = bitsN b n ++ if b.getLsbD n then [oneR 2 1 ((n : Int) + 1)] else [] := by
  unfold bitsN
  rw [List.range_succ, List.filter_append, List.map_append]
  congr 1
  cases h : b.getLsbD n <;> simp [h]
theorem mem_bitsN {b : BitVec 64} {n : Nat} {d : Dat} : d ∈ bitsN b n ↔ ∃ k, k < n ∧ b.getLsbD k = true ∧ d = oneR 2 1 ((k : Int) + 1) := by
  unfold bitsN
  rw [List.mem_map]
  constructor
  · rintro ⟨k, hk, rfl⟩
    rw [List.mem_filter, List.mem_range] at hk
    exact ⟨k, hk.1, hk.2, rfl⟩
  · rintro ⟨k, h1, h2, rfl⟩
    exact ⟨k, by rw [List.mem_filter, List.mem_range]; exact ⟨h1, h2⟩, rfl⟩
theorem has_bitsN {b : BitVec 64} {n : Nat} {s : Int} : hasD (bitsN b n) s = true ↔ ∃ k, k < n ∧ b.getLsbD k = true ∧ s = (k : Int) + 1 := by
  rw [has_iff]
  constructor
  · rintro ⟨d, hd, rfl⟩
    obtain ⟨k, h1, h2, rfl⟩ := mem_bitsN.1 hd
    exact ⟨k, h1, h2, rfl⟩
  · rintro ⟨k, h1, h2, rfl⟩
    exact ⟨_, mem_bitsN.2 ⟨k, h1, h2, rfl⟩, rfl⟩
theorem bits_len (b : BitVec 64) (n : Nat) : (bitsN b n).length ≤ n := by
  unfold bitsN
  rw [List.length_map]
  exact Nat.le_trans (List.length_filter_le _ _) (by simp)
theorem bits_asc (b : BitVec 64) (n : Nat) : ((bitsN b n).map Dat.seq).Pairwise (· < ·) := by
  unfold bitsN
  rw [List.map_map, List.pairwise_map]
  have h : (List.range n).Pairwise (· < ·) := List.pairwise_lt_range
  refine (h.filter _).imp ?_
  intro x y hxy
  show (x : Int) + 1 < (y : Int) + 1
  omega
theorem one_okN {n : Nat} (h : n < 40) : OkR (oneR 2 1 ((n : Int) + 1)) := one_ok (by omega) (by omega) (by omega)
/-- Data as the statement makes them. -/
def IsOne (d : Dat) : Prop := ∃ k : Nat, k < 40 ∧ d = oneR 2 1 ((k : Int) + 1)
theorem bits_one {b : BitVec 64} {d : Dat} (h : d ∈ bitsD b) : IsOne d := by
  obtain ⟨k, h1, _, h3⟩ := mem_bitsN.1 h
  exact ⟨k, h1, h3⟩
theorem IsOne.ok {d : Dat} (h : IsOne d) : OkR d := by obtain ⟨k, h1, rfl⟩ := h; exact one_okN h1
theorem IsOne.e {d : Dat} (h : IsOne d) : d = oneR 2 1 d.seq := by obtain ⟨k, h1, rfl⟩ := h; rfl
theorem nseq_bits (b : BitVec 64) : ((List.range 40).filter fun k => b.getLsbD k).map (fun (k : Nat) => (k : Int) + 1) = (bitsD b).map Dat.seq := by
  unfold bitsD bitsN
  rw [List.map_map]
  rfl
/-! ### numbers of a window -/
structure Nst where
  k : Nat
  a : Option Addr
  c : Nat
set_option maxHeartbeats 1000000 in
theorem g44 (bw bm : Nat) (es : List DaA) (ar hi : Int) (w : World) (h : (wO bw bm es ar hi).holds w) (hD : WOk (dats es)) (hl : es.length ≤ 100000) :
    CallsTo Try.prog 44 [.pointer (some ⟨bw, 0, none⟩)] w fun v w' => ∃ a c, v = .slice a ((abvT (dats es) 0).map Dat.seq).length c ∧ NewSl w w' (.slice a ((abvT (dats es) 0).map Dat.seq).length c) 3 1 ((abvT (dats es) 0).map Dat.seq).length (iv ((abvT (dats es) 0).map Dat.seq)) := by
  refine go_in (n := 23) (wO_in h) Try.func44 rfl rfl ?_
  repeat'(first|refine kv' ?_|apply jJ|refine jE' ?_|refine jp' ?_|(apply jc;kernel_rfl)|refine kg' ?_|refine kG' ?_|refine kB' fun _=>?_|refine kA' fun _=>?_|refine kK' fun _=>?_|refine kU' ?_|((first|refine kR' ?_ ?_|refine kQ' ?_ ?_);all_goals(intro hc;try simp only[hcs]at hc;try(exfalso;first|contradiction|omega))))
  apply LR.call
  · exact rfl
  intro w1 h1
  refine CallsTo.mono (show CallsTo Try.prog 45 [.pointer (some ⟨bw, 0, none⟩), .int .i64 0] w1 _ from t34 bw bm es ar hi 0 w1 (w_out h1 (by (repeat (first | exact mH _ _ | apply mT)))) hD hl) ?_
  rintro v w2 ⟨a1, c1, l, rfl, ho, hn⟩
  have hr : Rd w2 a1 (l.flatMap DaA.row) := ownsRow_rd hn.holds.1
  refine LR.back ((h1.got hn (dO_dep _ _ _)).part (osl.dep _ _ _ _ _) (bun_dep DaA.dep l)) ?_
  clear hn h1
  have hm : l.length ≤ 100000 := by
    have h1 : (dats l).length ≤ (dats es).length := by rw [ho]; exact Nat.le_trans (abvS_len _ _ _) (by rw [sqs_len]; exact Nat.le_refl _)
    simp only [dats, List.length_map] at h1
    omega
  rw [← ho]
  repeat'(first|refine kv' ?_|apply jJ|refine jE' ?_|refine jp' ?_|(apply jc;kernel_rfl)|refine kg' ?_|refine kG' ?_|refine kB' fun _=>?_|refine kA' fun _=>?_|refine kK' fun _=>?_|refine kU' ?_|((first|refine kR' ?_ ?_|refine kQ' ?_ ?_);all_goals(intro hc;try simp only[hcs]at hc;try(exfalso;first|contradiction|omega))))
  apply CW.loop [3, 5, 8, 9, 10, 11, 12, 13, 14, 15, 16, 17, 18, 19, 20, 21] (fun s : Nst => s.k ≤ l.length) (fun s => [(3, .slice s.a ((dats (l.take s.k)).map Dat.seq).length s.c), (5, .int .i64 (s.k : Int))])
    (fun s => St w NoF [il s.a s.c ((dats (l.take s.k)).map Dat.seq), dS a1 c1 l]) (fun s => l.length - s.k)
  · intro w' hw'
    exact ⟨⟨0, none, 0⟩, by simp, ⟨rfl, rfl, trivial⟩, (hw'.nilsl 3 1).sub (by (repeat (first | exact List.Sublist.refl _ | apply List.Sublist.cons_cons | apply List.Sublist.cons)))⟩
  rintro ⟨k, a2, c2⟩ g1 hk
  simp only at hk ⊢
  have hlen : ((dats (l.take k)).map Dat.seq).length = k := by simp [dats]; omega
  by_cases hlt : k < l.length
  · obtain ⟨bg, og, rfl⟩ := hr.form (rows_ne DaA.row_len (by omega) hlt)
    have hsucc : (dats (l.take (k + 1))).map Dat.seq = (dats (l.take k)).map Dat.seq ++ [l[k].d.seq] := by
      unfold dats
      rw [List.take_add_one, List.getElem?_eq_getElem hlt, List.map_append, List.map_append]
      rfl
    generalize (dats (l.take k)).map Dat.seq = L at hlen hsucc ⊢
    repeat'(first|(apply Go.Hb.kK;(iterate 4 exact rfl);intro bs)|refine kv' ?_|apply jJ|refine jE' ?_|refine jp' ?_|(apply jc;kernel_rfl)|refine kg' ?_|refine kG' ?_|refine kB' fun _=>?_|refine kA' fun _=>?_|refine kK' fun _=>?_|refine kU' ?_|(apply idxX;(iterate 2 exact rfl);(iterate 2(first|omega|(dsimp only;omega)));exact rfl)|(apply LR.ev; (· apply Ev.load; (· exact rfl); (· exact fun w' hw' => row_cell DaA.row_len (ownsRow_rd (hw'.holds (dS (some ⟨bg, og, none⟩) c1 l) (by (repeat (first | exact mH _ _ | apply mT))))) hlt 2 rfl (by omega))); (· exact rfl))|(apply addX;(iterate 2 exact rfl);(iterate 2(first|omega|(dsimp only;omega)));exact rfl)|(apply LR.append (xs := iv L) (news := [Value.int .i64 l[k].d.seq]) (m := 1); (· exact rfl); (· exact rfl); (· intro a' c'; (repeat (first | exact sH _ _ _ | apply sT))); (· exact fun w' hw' => hw'.rd_of_blk (mH _ _)); (· exact fun hx => by cases hx); (· exact rfl); (· exact rfl); (· omega); (· unfold maxLen; omega); (· exact rfl); (intro a3 c3))|((first|refine kR' ?_ ?_|refine kQ' ?_ ?_);all_goals(intro hc;try simp only[hcs]at hc;try(exfalso;first|contradiction|omega))))
    refine At.again (⟨k + 1, a3, c3⟩ : Nst) (by simp only; omega) ?_ ⟨?_, rfl, trivial⟩ ?_ (by simp only; omega)
    · (repeat (first | exact Out.refl _ _ | exact Out.mix | (apply Out.upd; (· exact rfl)) | (apply Out.updL; (· exact rfl)) | (apply Out.mixs; (· exact rfl))))
    · simp only
      rw [hsucc]
      simp only [List.length_append, List.length_cons, List.length_nil]
      rfl
    · intro w' hw'
      simp only
      rw [hsucc]
      have e : il a3 c3 (L ++ [l[k].d.seq]) = osl (.slice a3 (L.length + 1) c3) 3 1 (L.length + 1) (iv L ++ [Value.int .i64 l[k].d.seq]) := by simp [il, iv]
      rw [e]
      exact hw'.sub (by (repeat (first | exact List.Sublist.refl _ | apply List.Sublist.cons_cons | apply List.Sublist.cons)))
  · have hke : k = l.length := by omega
    subst hke
    rw [List.take_length] at hlen ⊢
    repeat'(first|refine kv' ?_|apply jJ|refine jE' ?_|refine jp' ?_|(apply jc;kernel_rfl)|refine kg' ?_|refine kG' ?_|refine kB' fun _=>?_|refine kA' fun _=>?_|refine kK' fun _=>?_|refine kU' ?_|((first|refine kR' ?_ ?_|refine kQ' ?_ ?_);all_goals(intro hc;try simp only[hcs]at hc;try(exfalso;first|contradiction|omega))))
    (apply ret1; (· exact rfl); intro w' hS)
    exact ⟨a2, c2, rfl, hS.toNew (by (repeat (first | exact mH _ _ | apply mT)))⟩
end Go.Proofs.Ytgblmkpfkcibiaa
