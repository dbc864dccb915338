/-
  Windows: the first check of the laws.
-/
import Derived.Test.YtohbcfokihplbaaGreatDoorRLCM4
import Derived.Deep.AppendSrc
import Derived.Lib.SliceRun
import Derived.Shelf.Sort.Plain
import Derived.Ground.Names2Prog
import Derived.Shelf.Slices.CompactI
import Derived.Shelf.Slices.In.SortNone
import Derived.Test.YtohbcfokihplbaaGreatDoorProg
import Derived.Sort.OwnSortedInts
import Derived.Shelf.SlGeneric
import Derived.Shelf.SlIterI.Sorted
import Derived.Shelf.SlIterI.Collect
import Derived.Ground.GgzProg
set_option linter.unusedSimpArgs false
set_option linter.unusedVariables false
namespace Go.Hb
section
variable {w0 w : World} {F : Nat → Prop} {L L' : List Asrt}
def ownsAt (w : World) (E : TypeId) (sz : Nat) (v : Value) (n : Nat) (xs : List Value) : Prop :=
 xs.length = n * sz ∧ ((v = .slice none 0 0 ∧ n = 0) ∨
   ∃ g o cap cur,v = .slice (some ⟨g,o,none⟩) n cap ∧ w.heap[g]? = some (.cells cur E (0,0)) ∧ n ≤ cap ∧ cap ≤ maxLen ∧ o + cap * sz ≤ cur.size ∧ (cur.toList.drop o).take (n * sz) = xs)
def odl (v : Value) (E : TypeId) (sz n : Nat) (xs : List Value) : Asrt := .ex (fun k=>v.ownBlock = some k) (fun w=>ownsAt w E sz v n xs)
theorem odl.dep (v : Value) (E : TypeId) (sz n : Nat) (xs : List Value) : (odl v E sz n xs).dep := by
 intro w w' hk h
 refine ⟨h.1,?_⟩
 rcases h.2 with hn | ⟨g,o,cap,cur,rfl,hg,r⟩
 ·exact .inl hn
 ·refine .inr ⟨g,o,cap,cur,rfl,?_,r⟩
  rw [hk g rfl];exact hg
theorem ownsAt_of {E : TypeId} {sz n base : Nat} {v : Value} {xs : List Value} (h : w.ownsRow base E sz v n xs) : ownsAt w E sz v n xs := by
 refine ⟨h.1,?_⟩
 rcases h.2 with hn | ⟨g,cap,cur,rfl,hb,hg,h1,h2,h3,h4⟩
 ·exact .inl hn
 ·exact .inr ⟨g,0,cap,cur,rfl,hg,h1,h2,by omega,h4⟩
theorem ownsAt_rd {E : TypeId} {sz n c : Nat} {a : Option Addr} {xs : List Value} (h : ownsAt w E sz (.slice a n c) n xs) : Rd w a xs := by
 intro j v hj
 rcases h.2 with ⟨he,hn⟩ | ⟨g,o,cap,cur,he,hg,h1,h2,h3,h4⟩
 ·subst hn
  have := h.1
  simp only [Nat.zero_mul] at this
  rw [List.eq_nil_of_length_eq_zero this] at hj;simp at hj
 ·simp only [Value.slice.injEq] at he
  obtain ⟨rfl,_,rfl⟩ := he
  refine ⟨_,rfl,?_⟩
  rw [addr_add,cell_own hg]
  rw [← h4,List.getElem?_take] at hj
  split at hj
  ·rw [List.getElem?_drop] at hj
   simpa using hj
  ·cases hj
theorem ownsAt_drop {E : TypeId} {sz k c l : Nat} {a : Option Addr} {xs : List Value} (h : ownsAt w E sz (.slice a k c) k xs) (hl : l ≤ k) :
  ownsAt w E sz (.slice (subA a c l sz) (k - l) (c - l)) (k - l) (xs.drop (l * sz)) := by
 refine ⟨by rw [List.length_drop,h.1,Nat.sub_mul],?_⟩
 rcases h.2 with ⟨he,hn⟩ | ⟨g,o,cap,cur,he,hg,h1,h2,h3,h4⟩
 ·simp only [Value.slice.injEq] at he
  obtain ⟨rfl,_,rfl⟩ := he
  subst hn
  left
  refine ⟨?_,by omega⟩
  unfold subA
  simp
 ·simp only [Value.slice.injEq] at he
  obtain ⟨rfl,_,rfl⟩ := he
  right
  by_cases hc : c = l
  ·refine ⟨g,o,c - l,cur,by simp [subA,hc],hg,by omega,by omega,by rw [hc,Nat.sub_self];omega,?_⟩
   rw [show k - l = 0 by omega,Nat.zero_mul,List.take_zero,List.drop_of_length_le (by rw [h.1,show k = l by omega];exact Nat.le_refl _)]
  ·have hm : l * sz + (c - l) * sz = c * sz := by rw [← Nat.add_mul];congr 1;omega
   refine ⟨g,o + l * sz,c - l,cur,?_,hg,by omega,by omega,by omega,?_⟩
   ·unfold subA
    rw [if_neg hc]
    show Value.slice (some ((⟨g,o,none⟩ : Addr).add (l * sz))) _ _ = _
    rw [addr_add]
   ·rw [← h4,List.drop_take,List.drop_drop,Nat.sub_mul]
theorem St.osl_odl {E : TypeId} {sz n : Nat} {v : Value} {xs : List Value} (h : St w0 F L w) (hs : Sel L (osl v E sz n xs) (odl v E sz n xs) L') : St w0 F L' w :=
 h.turn hs rfl (St.refl w _) (ownsAt_of (h.holds _ hs.mem)) (fun _ hk=>.inl hk) (odl.dep _ _ _ _ _)
theorem St.odl_drop {E : TypeId} {sz k c l : Nat} {a : Option Addr} {xs : List Value} (h : St w0 F L w) (hs : Sel L (odl (.slice a k c) E sz k xs) (odl (.slice (subA a c l sz) (k - l) (c - l)) E sz (k - l) (xs.drop (l * sz))) L') (hl : l ≤ k) : St w0 F L' w := by
 refine h.turn hs rfl (St.refl w _) (ownsAt_drop (h.holds _ hs.mem) hl) (fun j hj=>.inl ?_) (odl.dep _ _ _ _ _)
 have hj : (Value.slice (subA a c l sz) (k - l) (c - l)).ownBlock = some j := hj
 show (Value.slice a k c).ownBlock = some j
 unfold subA at hj
 split at hj
 ·cases a <;> exact hj
 ·cases a with
  | none=>cases hj
  | some ad=>
   have : (ad.add (l * sz)).block = ad.block := addr_add_block _ _
   simp only [Option.map_some,Value.ownBlock,this] at hj
   exact hj
theorem St.rd_of_odl {n : Nat} {E : TypeId} {sz c : Nat} {a : Option Addr} {xs : List Value} (h : St w0 F L w) (hm : odl (.slice a n c) E sz n xs ∈ L) : Rd w a xs := ownsAt_rd (h.holds _ hm)
theorem odl_form {E : TypeId} {sz n : Nat} {v : Value} {xs : List Value} (h : ownsAt w E sz v n xs) : ∃ a c,v = .slice a n c := by
 rcases h.2 with ⟨rfl,rfl⟩ | ⟨g,o,cap,cur,rfl,_⟩
 ·exact ⟨_,_,rfl⟩
 ·exact ⟨_,_,rfl⟩
end
section
variable {P : Program} {f : Frm} {T T' : TypeId} {s x y : Operand} {v : Value} {w0 : World} {F : Nat → Prop} {L : List Asrt} {C : World → Prop}
variable {n : Nat} {ops rest : List Oper} {Q : Post} {p : String} {af : Array Edge} {d : Nat}
theorem run_append_in (w : World) (t tx ty e : TypeId) (i : TypeInfo) (ht : P.underlying t = some (.slice e)) (hi : P.info? e = some i) (b off sLen sCap : Nat) (cur : Array Value) (x : Value) (n : Nat) (news : List Value) (hs : Src P i.size tx x n news w)
  (hg : w.heap[b]? = some (.cells cur e (0,0))) (hroom : sLen + n ≤ sCap) (hfit : off + sLen * i.size + news.length ≤ cur.size) :
  (Builtin.append_ #[t,tx] ty #[.slice (some ⟨b,off,none⟩) sLen sCap,x]).run P w = .ok (.slice (some ⟨b,off,none⟩) (sLen + n) sCap) (w.setRow b (splice cur.toList (off + sLen * i.size) news).toArray) := by
 have hst := run_storeCells_at P b (off + sLen * i.size) e news 0 cur w hg (by simpa using hfit) hs.one
 simp only [Nat.add_zero] at hst
 rcases hs.kind with ⟨e',hk⟩ | hk <;> simp [Builtin.append_,run_underlying ht,run_underlying hk,sizeOf,typeInfo,hi,hs.len,hroom,hs.cells,Addr.add_lit,hst,splice]
theorem run_append_odl {E : TypeId} {sz by_ : Nat} (h : SliceOf P T E sz by_) (w : World) (ty : TypeId) {n m cx : Nat} {ax : Option Addr} {xs news : List Value} (hown : ownsAt w E sz v n xs)
  (hrd : Rd w ax news) (hnone : ax = none → m = 0 ∧ cx = 0) (hl : news.length = m * sz) (h1 : news.all Value.oneCell' = true) (hbytes : (n + m) * by_ ≤ 140737488355328) (hmax : n + m ≤ maxLen) :
  ∃ v' w',(Builtin.append_ #[T,T] ty #[v,.slice ax m cx]).run P w = .ok v' w' ∧ ownsAt w' E sz v' (n + m) (xs ++ news) ∧ w.grownBy w' v.ownBlock ∧
   (∀ k,v'.ownBlock = some k → v.ownBlock = some k ∨ (w.heap.size ≤ k ∧ k < w'.heap.size)) := by
 rcases hown.2 with ⟨rfl,rfl⟩ | ⟨g,o,cap,cur,rfl,hg,hnc,hcm,hcs,htake⟩
 ·have hx : xs = [] := List.eq_nil_of_length_eq_zero (by simpa using hown.1)
  subst hx
  obtain ⟨v',w',a1,a2,a3,_,a5⟩ := run_append_any (P := P) h w ty (v := .slice none 0 0) (n := 0) (World.ownsRow_nil w 0 E sz) hrd hnone hl h1 hbytes hmax
  exact ⟨v',w',a1,ownsAt_of a2,a3,a5⟩
 ·have hinf := h.inf
  obtain ⟨z,hz,hzs⟩ := h.zero
  cases hi : P.info? E with
  | none=>simp [hi] at hinf
  | some inf=>
   simp only [hi,Option.map_some,Option.some.injEq,Prod.mk.injEq] at hinf
   simp only [hi,Option.bind_some] at hz
   obtain ⟨rfl,rfl⟩ := hinf
   have h1' : ∀ u ∈ news,u.oneCell' = true := fun u hu=>List.all_eq_true.1 h1 u hu
   have hsrc : Src P inf.size T (.slice ax m cx) m news w := by
    cases ax with
    | none=>
     obtain ⟨rfl,rfl⟩ := hnone rfl
     have hn : news = [] := List.eq_nil_of_length_eq_zero (by simpa using hl)
     subst hn
     exact Src.ofNil w h.und 0
    | some ad=>
     exact Src.ofSlice w h.und ad m cx news hl (fun j u hj=>by obtain ⟨ad',ha',hc⟩ := hrd j u hj;cases ha';exact hc) h1'
   have hlen : (xs ++ news).length = (n + m) * inf.size := by rw [List.length_append,hown.1,hl,Nat.add_mul]
   by_cases hroom : n + m ≤ cap
   ·have hm : n * inf.size + m * inf.size ≤ cap * inf.size := by rw [← Nat.add_mul];exact Nat.mul_le_mul_right _ hroom
    have hr := run_append_in w T T ty E inf h.und hi g o n cap cur (.slice ax m cx) m news hsrc hg hroom (by omega)
    refine ⟨_,_,hr,⟨hlen,.inr ⟨g,o,cap,_,rfl,setRow_heap w g cur _ E _ hg,hroom,hcm,?_,?_⟩⟩,⟨rfl,rfl,rfl,by simp,fun k _ hk=>setRow_other w g k _ (fun e=>hk (by simp [Value.ownBlock,e]))⟩,fun k hk=>.inl hk⟩
    ·simp only [splice,List.size_toArray,List.length_append,List.length_take,List.length_drop,Array.length_toList]
     omega
    ·have e1 : (splice cur.toList (o + n * inf.size) news).drop o = (cur.toList.drop o).take (n * inf.size) ++ news ++ cur.toList.drop (o + n * inf.size + news.length) := by
      unfold splice
      rw [List.append_assoc,List.drop_append,List.drop_take,List.length_take,Array.length_toList]
      rw [show o + n * inf.size - o = n * inf.size by omega,show o - min (o + n * inf.size) cur.size = 0 by omega,List.drop_zero,List.append_assoc]
     show ((splice cur.toList (o + n * inf.size) news).drop o).take ((n + m) * inf.size) = xs ++ news
     rw [e1,htake,← hlen]
     exact List.take_left
   ·have hx63 : n + m ≤ 9223372036854775807 := by simp only [maxLen] at hmax;omega
    have holds : ∀ j u,xs[j]? = some u → w.drew.cell? ((⟨g,o,none⟩ : Addr).add j) = some u := fun j u hj=>by
     obtain ⟨ad,he,hc⟩ := ownsAt_rd hown j u hj
     cases he;exact hc
    have hr := run_append_grow_src (P := P) w T T ty E inf z h.und hi hz (some ⟨g,o,none⟩) n cap xs (run_firstCells_some w.drew inf.size n ⟨g,o,none⟩ n cap xs hown.1 holds) (.slice ax m cx) m news hsrc (by omega) (by omega) (growslice_fits (by omega) hbytes)
    have hge := grownCap_ge w (n + m) cap E
    have hcm2 : grownCap w (n + m) cap E ≤ maxLen := grownCap_le_maxLen w (n + m) cap E hmax
    refine ⟨_,_,hr,⟨hlen,.inr ⟨w.heap.size,0,_,_,rfl,heap_alloc_new w.drew _,hge,hcm2,?_,?_⟩⟩,⟨rfl,rfl,rfl,by simp,fun k hk _=>by first | exact heap_alloc_old w.drew _ hk | exact heap_alloc_old w.drew _ k hk⟩,?_⟩
    ·simp only [Array.size_append,List.size_toArray,size_zeroCells,hzs,hlen,Nat.zero_add,← Nat.add_mul]
     exact Nat.le_of_eq (congrArg (·* _) (by omega))
    ·simp only [Array.toList_append,List.drop_zero]
     rw [← hlen]
     exact List.take_left
    ·intro k hk
     simp only [Value.ownBlock,Option.some.injEq] at hk
     subst hk
     exact .inr ⟨Nat.le_refl _,by simp⟩
theorem LR.append_odl {E : TypeId} {sz by_ k c m cx : Nat} {a ax : Option Addr} {xs news : List Value} {L' : Option Addr → Nat → List Asrt} [h : SliceOf P T E sz by_]
  (hs : f.ev s = .slice a k c) (hx : f.ev x = .slice ax m cx) (hsel : ∀ a' c',Sel L (odl (.slice a k c) E sz k xs) (odl (.slice a' (k + m) c') E sz (k + m) (xs ++ news)) (L' a' c'))
  (hrd : ∀ w,St w0 F L w → Rd w ax news) (hnone : ax = none → m = 0 ∧ cx = 0) (hl : news.length = m * sz) (h1 : news.all Value.oneCell' = true) (hbytes : (k + m) * by_ ≤ 140737488355328) (hmax : k + m ≤ maxLen) (hd : Nat.blt d n = true)
  (kk : ∀ a' c',LR false P n ops rest Q (upd f d (.slice a' (k + m) c')) (St w0 F (L' a' c'))) :
  LR false P n ops (⟨some d,.call ⟨.builtin .append,[s,x].toArray,[T,T].toArray⟩,T',p,af,none⟩ :: rest) Q f (St w0 F L) := by
 intro w hw b hb
 refine wpList_plain rfl fun K hK=>?_
 have hown : ownsAt w E sz (.slice a k c) k xs := hw.holds _ (hsel none 0).mem
 obtain ⟨v',w',hr,ho,hg,hblk⟩ := run_append_odl (P := P) h w T' hown (hrd w hw) hnone hl h1 hbytes hmax
 obtain ⟨a',c',rfl⟩ := odl_form ho
 have hr' := run_builtin_append (P := P) (T' := T') (dst := some d) (p := p) (af := af) (g := none) hs hx hr
 rw [← hb.eval] at hr'
 simp only [Oper.wp,hr',Oper.upon_value]
 refine hK _ _ (kk a' c' w' ?_ _ (hb.put _ hd))
 exact hw.turn (hsel a' c') rfl (keep_of_grown hg fun k hk=>hk) ho (fun k hk=>hblk k hk) (odl.dep _ _ _ _ _)
end
section
variable {α : Type} {f : α → Asrt} {w0 w : World} {F : Nat → Prop} {R : List Asrt} {x : α} {l r : List α}
theorem St.bun_append (hd : ∀ x,(f x).dep) (h : St w0 F (bun f l :: bun f r :: R) w) : St w0 F (bun f (l ++ r) :: R) w := by
 obtain ⟨b1,b2,b3⟩ : (bun f l).holds w := h.g0
 obtain ⟨c1,c2,c3⟩ : (bun f r).holds w := h.g1
 have hdis := (List.pairwise_cons.1 h.dis).1 (bun f r) (by simp) rfl
 refine h.merge rfl rfl ⟨?_,?_,?_⟩ ?_ (bun_dep hd _)
 ·intro y hy
  rcases List.mem_append.1 hy with hy | hy
  ·exact b1 y hy
  ·exact c1 y hy
 ·exact List.pairwise_append.2 ⟨b2,c2,fun a ha b hb k hk hk2=>hdis k ⟨a,ha,hk⟩ ⟨b,hb,hk2⟩⟩
 ·rintro k ⟨y,hy,hk⟩
  rcases List.mem_append.1 hy with hy | hy
  ·exact b3 k ⟨y,hy,hk⟩
  ·exact c3 k ⟨y,hy,hk⟩
 ·rintro k ⟨y,hy,hk⟩
  rcases List.mem_append.1 hy with hy | hy
  ·exact .inl ⟨y,hy,hk⟩
  ·exact .inr ⟨y,hy,hk⟩
end
theorem splice_take {D vs : List Value} {i N : Nat} (h : i + vs.length ≤ N) (hN : N ≤ D.length) : (splice D i vs).take N = splice (D.take N) i vs := by
 have e2 : splice D i vs = splice (D.take N) i vs ++ D.drop N := by
  have e3 : D = D.take N ++ D.drop N := (List.take_append_drop N D).symm
  have hl : (D.take N).length = N := by simp;omega
  conv=>lhs;rw [e3]
  unfold splice
  rw [List.take_append_of_le_length (by omega),List.drop_append_of_le_length (by omega)]
  simp
 have e4 : (splice (D.take N) i vs).length = N := by simp [splice];omega
 rw [e2,List.take_append_of_le_length (by omega),List.take_of_length_le (by omega)]
section
variable {P : Program} {md : Region.Mode} {ops : Array Oper} {Q Q' : Exit → Act → World → Prop} {z : Nat}
theorem oper_only (hN : ∀ e a w,Q' e a w → e = .normal) {o : Oper} {a : Act} {w : World} {K K' : Act → World → Prop} (hk : ∀ a w,K a w → K' a w) (h : o.wp P a w K Q') : o.wp P a w K' Q := by
 unfold Oper.wp at *
 generalize (execOp a.eval o).run P w = r at *
 cases r with
 | ok nx w'=>
  cases nx <;> simp only [Oper.upon] at h ⊢
  case value=>exact hk _ _ h
  case skip=>exact hk _ _ h
  case defer=>exact hk _ _ h
  case enter g args=>
   refine Calls.mono h fun e w'' he=>?_
   cases e with
   | returned u=>exact hk _ _ he
   | panicked c=>cases hN _ _ _ he
   | outgrown=>obtain ⟨_,_,he⟩ := he;cases hN _ _ _ he
  case row=>exact Rows.mono h (fun _ _ he=>hk _ _ he)
 | halt x w'=>
  cases x <;> simp only [Oper.upon] at h ⊢
  case panic=>cases hN _ _ _ h
theorem wpOp_only (hN : ∀ e a w,Q' e a w → e = .normal) {i : Nat} {a : Act} {w : World} {K K' : Act → World → Prop} (hk : ∀ a w,K a w → K' a w) (h : wpOp P ops Q' i K a w) : wpOp P ops Q i K' a w := by
 unfold wpOp at *
 cases ho : ops[i]? with
 | none=>simp only [ho] at h;exact hk _ _ h
 | some o=>
  simp only [ho] at h ⊢
  split
  ·rename_i hw
   rw [if_pos hw] at h
   rcases h with h | ⟨_,a',w',he⟩
   ·exact .inl (oper_only hN hk h)
   ·cases hN _ _ _ he
  ·rename_i hw
   rw [if_neg hw] at h
   exact hk _ _ h
structure Sink (md : Region.Mode) (ops : Array Oper) (z : Nat) : Prop where
 deps : ∀ (j : Nat) (o : Oper),ops[j]? = some o → ∀ e ∈ o.after,Region.binds md e = true → e.on ≠ z ∧ e.on < j
 all : ∀ i,i < ops.size → i ≠ z → ∃ (j : Nat) (o : Oper),ops[j]? = some o ∧ ∃ e ∈ o.after,Region.binds md e = true ∧ e.on = i
 lt : z < ops.size
theorem getD_tf {listed : Array Bool} {i : Nat} (h : listed.getD i false = true) : listed.getD i true = true := by
 rcases Nat.lt_or_ge i listed.size with h' | h'
 ·simp [h'] at h ⊢;exact h
 ·simp [Array.getElem?_eq_none h'] at h
theorem getD_set_self {listed : Array Bool} {i : Nat} (h : i < listed.size) : (listed.setIfInBounds i true).getD i true = true := by simp [h]
def Closed (md : Region.Mode) (ops : Array Oper) (z : Nat) (listed : Array Bool) : Prop := ∀ (j : Nat) (o : Oper),ops[j]? = some o → j ≠ z → listed.getD j false = true → ∀ e ∈ o.after,Region.binds md e = true → listed.getD e.on false = true
theorem Sink.before (hs : Sink md ops z) {listed : Array Bool} (hc : Closed md ops z listed) (hz : z ∈ Region.ready md ops listed) : ∀ d k,ops.size - k ≤ d → k < ops.size → k ≠ z → listed.getD k false = true := by
 intro d
 induction d with
 | zero=>intro k hd hk;omega
 | succ d ih=>
  intro k hd hk hkz
  obtain ⟨j,o,ho,e,he,hb,rfl⟩ := hs.all k hk hkz
  have hj : j < ops.size := (Array.getElem?_eq_some_iff.1 ho).1
  have hlt := (hs.deps j o ho e he hb).2
  by_cases hjz : j = z
  ·subst hjz
   obtain ⟨_,o',ho',hd'⟩ := mem_ready.1 hz
   rw [ho] at ho';cases ho'
   exact hd' e he hb
  ·exact hc j o ho hjz (ih j (by omega) hj hjz) e he hb
theorem any_ready (hs : Sink md ops z) {listed : Array Bool} : ∀ i,i ≠ z → (i ∈ Region.ready md ops listed ↔ i ∈ Region.ready md ops (listed.setIfInBounds z true)) := by
 intro i hi
 rw [mem_ready,mem_ready]
 constructor
 ·rintro ⟨h1,o,ho,h2⟩
  exact ⟨by rw [getD_set_ne true (Ne.symm hi)];exact h1,o,ho,fun e he hb=>getD_set_true (h2 e he hb)⟩
 ·rintro ⟨h1,o,ho,h2⟩
  refine ⟨by rw [getD_set_ne true (Ne.symm hi)] at h1;exact h1,o,ho,fun e he hb=>?_⟩
  have := h2 e he hb
  rwa [getD_set_ne false (Ne.symm (hs.deps i o ho e he hb).1)] at this
theorem any_sink_end (hs : Sink md ops z) (hN : ∀ e a w,Q' e a w → e = .normal) (hK : ∀ a w,Q' .normal a w → wpOp P ops Q z (Q .normal) a w) {listed : Array Bool} {a : Act} {w : World} (hsz : listed.size = ops.size) (hlz : listed.getD z true = false)
  (hr : Region.ready md ops (listed.setIfInBounds z true) = []) (hq : Q' .normal a w) (fuel : Nat) : wpAny P md ops Q (fuel + 1) listed a w := by
 have hR := any_ready hs (listed := listed)
 have hall : ∀ k i,i < k → i < ops.size → i ≠ z → listed.getD i false = true := by
  intro k
  induction k with
  | zero=>intro i hi;omega
  | succ k ih=>
   intro i hik hi hiz
   cases hx : listed.getD i false with
   | true=>rfl
   | false=>
    have : i ∈ Region.ready md ops (listed.setIfInBounds z true) := by
     rw [← hR i hiz,mem_ready]
     have hi' : i < listed.size := hsz ▸ hi
     refine ⟨by simp [hi'] at hx ⊢;exact hx,ops[i],by simp [hi],fun e he hb=>?_⟩
     have hd := hs.deps i ops[i] (by simp [hi]) e he hb
     exact ih e.on (by omega) (by omega) hd.1
    rw [hr] at this;cases this
 have hz : z ∈ Region.ready md ops listed := by
  rw [mem_ready]
  refine ⟨hlz,ops[z]'hs.lt,by simp [hs.lt],fun e he hb=>?_⟩
  have hd := hs.deps z (ops[z]'hs.lt) (by simp [hs.lt]) e he hb
  exact hall ops.size e.on (by have := hs.lt;omega) (by have := hs.lt;omega) hd.1
 refine ⟨fun h0=>(by rw [h0] at hz;cases hz),fun i hi=>?_⟩
 have hiz : i = z := Classical.byContradiction fun hne=>by
  have := (hR i hne).1 hi
  rw [hr] at this;cases this
 subst hiz
 refine wpOp_mono (fun a' w' hq'=>?_) (hK a w hq)
 cases fuel with
 | zero=>exact ⟨hr,hq'⟩
 | succ f=>exact ⟨fun _=>hq',by rw [hr];simp⟩
theorem any_sink (hs : Sink md ops z) (hN : ∀ e a w,Q' e a w → e = .normal) (hK : ∀ a w,Q' .normal a w → wpOp P ops Q z (Q .normal) a w) : ∀ (fuel : Nat) (listed : Array Bool) (a : Act) (w : World),listed.size = ops.size → listed.getD z true = false → Closed md ops z listed →
  wpAny P md ops Q' fuel (listed.setIfInBounds z true) a w → wpAny P md ops Q (fuel + 1) listed a w := by
 intro fuel
 induction fuel with
 | zero=>
  intro listed a w hsz hlz hcl h
  exact any_sink_end hs hN hK hsz hlz h.1 h.2 0
 | succ fuel ih=>
  intro listed a w hsz hlz hcl h
  by_cases hr : Region.ready md ops (listed.setIfInBounds z true) = []
  ·exact any_sink_end hs hN hK hsz hlz hr (h.1 hr) _
  ·obtain ⟨j,hj⟩ := List.exists_mem_of_ne_nil _ hr
   have hjz : j ≠ z := by
    rintro rfl
    have := (mem_ready.1 hj).1
    rw [getD_set_self (hsz ▸ hs.lt)] at this
    cases this
   have hR := any_ready hs (listed := listed)
   refine ⟨fun h0=>?_,fun i hi=>?_⟩
   ·have := (hR j hjz).2 hj
    rw [h0] at this;cases this
   ·have hiz : i ≠ z := by
     rintro rfl
     obtain ⟨hj1,oj,hoj,_⟩ := mem_ready.1 hj
     have hjlt : j < ops.size := (Array.getElem?_eq_some_iff.1 hoj).1
     have := getD_tf (hs.before hcl hi ops.size j (by omega) hjlt hjz)
     rw [getD_set_ne true (Ne.symm hjz)] at hj1
     rw [this] at hj1;cases hj1
    have hcl2 : Closed md ops z (listed.setIfInBounds i true) := by
     intro j o ho hjz hj e he hb
     by_cases hji : j = i
     ·subst hji
      obtain ⟨_,o',ho',hd'⟩ := mem_ready.1 hi
      rw [ho] at ho';cases ho'
      exact getD_set_true (hd' e he hb)
     ·rw [getD_set_ne false (Ne.symm hji)] at hj
      exact getD_set_true (hcl j o ho hjz hj e he hb)
    refine wpOp_only hN (fun a' w' h'=>?_) (h.2 i ((hR i hiz).1 hi))
    refine ih _ a' w' (by simpa using hsz) (by rw [getD_set_ne true hiz];exact hlz) hcl2 ?_
    have e : (listed.setIfInBounds i true).setIfInBounds z true = (listed.setIfInBounds z true).setIfInBounds i true := by
     exact Array.setIfInBounds_comm true true hiz
    rw [e];exact h'
def sinkB (ops : List Oper) (z : Nat) : Bool :=
 Nat.blt z ops.length && (List.range ops.length).all fun j=>match ops[j]? with
  | some o=>(o.after.all fun e=>!Region.binds .any e || (!Nat.beq e.on z && Nat.blt e.on j)) && (Nat.beq j z || (List.range ops.length).any fun k=>Region.waitsFor .any ops.toArray k j)
  | none=>false
theorem sinkB_sound {ops : List Oper} (h : sinkB ops z = true) : Sink .any ops.toArray z := by
 unfold sinkB at h
 simp only [Bool.and_eq_true] at h
 obtain ⟨h1,h2⟩ := h
 have key : ∀ j o,ops[j]? = some o → (∀ e ∈ o.after,Region.binds .any e = true → e.on ≠ z ∧ e.on < j) ∧ (j = z ∨ ∃ k,Region.waitsFor .any ops.toArray k j = true) := by
  intro j o ho
  have hj : j < ops.length := (List.getElem?_eq_some_iff.1 ho).1
  have := List.all_eq_true.1 h2 j (List.mem_range.2 hj)
  rw [ho] at this
  simp only [Bool.and_eq_true,Bool.or_eq_true] at this
  refine ⟨fun e he hb=>?_,this.2.imp Nat.eq_of_beq_eq_true (fun h=>by obtain ⟨k,_,hk⟩ := List.any_eq_true.1 h;exact ⟨k,hk⟩)⟩
  have := (Array.all_eq_true_iff_forall_mem.1 this.1) e he
  simp only [hb,Bool.not_true,Bool.false_or,Bool.and_eq_true,Bool.not_eq_true'] at this
  exact ⟨fun e2=>by rw [e2] at this;simp at this,by simpa using this.2⟩
 refine ⟨fun j o ho=>(key j o (by simpa using ho)).1,fun i hi hne=>?_,by simpa using h1⟩
 have hi' : i < ops.length := by simpa using hi
 rcases (key i ops[i] (by simp [hi'])).2 with e | e
 ·exact (hne e).elim
 ·obtain ⟨k,e⟩ := e
  obtain ⟨oj,hoj,e,he,hb,hon⟩ := Region.waitsFor_spec e
  exact ⟨k,oj,hoj,e,he,hb,hon⟩
end
section
variable {P : Program} {n : Nat} {ops : List Oper} {Q : Post} {f : Frm} {C : World → Prop}
def zpost (P : Program) (n : Nat) (ops : List Oper) (oz : Oper) (Q : Post) : Post := fun e f w=>e = .normal ∧ LW P n ops [oz] Q f (fun u=>u = w)
theorem CW.reg_sink (z : Nat) {id : Nat} {oz : Oper} (S : World → Prop) [hm : Mixed P] [hc : Drawn C] (hz : ops[z]? = some oz) (hB : sinkB ops z = true) (h : DW P n ops (zpost P n ops oz Q) [z] S f C) : CW P n (.region id ops.toArray true) Q f C := by
 intro w hw a ha
 have h1 := wpAny_of_held _ _ _ _ (h _ (hc.drew w hw) a ha)
 have hs := sinkB_sound hB
 have hlt : z < ops.length := by simpa using hs.lt
 refine wp_region_any hm.mixed ?_
 have h2 := any_sink (Q' := lift n (only fun f w=>zpost P n ops oz Q .normal f w)) (Q := lift n Q) hs (fun e a w ⟨_,_,he,_⟩=>he) (fun a w ⟨f,hf,_,_,hl⟩=>by
  have h3 := hl w rfl a hf
  have ho : ops.toArray[z]? = some oz := by simpa using hz
  unfold wpOp
  simp only [ho]
  simp only [wpList] at h3
  exact h3) (ops.length - 1) (Array.replicate ops.length false) a _ (by simp) (by simp [hlt]) (fun j o ho _ hj=>by
   have hj' : j < ops.length := by simpa using (Array.getElem?_eq_some_iff.1 ho).1
   simp [hj'] at hj) (by simpa [lst] using h1)
 have e : ops.toArray.size = ops.length - 1 + 1 := by simp;omega
 rw [e]
 have e2 : (Array.replicate (ops.length - 1 + 1) false) = Array.replicate ops.length false := by congr 1;omega
 rw [e2]
 exact h2
theorem CW.reg_sinkC (z : Nat) {id : Nat} {oz : Oper} [hm : Mixed P] [hc : Drawn C] (hz : ops[z]? = some oz) (hB : sinkB ops z = true) (h : DW P n ops (zpost P n ops oz Q) [z] C f C) : CW P n (.region id ops.toArray true) Q f C := CW.reg_sink z C hz hB h
theorem At.sink {oz : Oper} (h : LR false P n ops [oz] Q f C) : At (zpost P n ops oz Q) .normal f C := fun w hw=>⟨rfl,fun u e=>e ▸ h w hw⟩
end
section
variable {P : Program} {f : Frm} {T T' T'' : TypeId} {x y : Operand} {C : World → Prop} {w0 w : World} {F : Nat → Prop} {L L' : List Asrt}
theorem Ev.min2 {k k' : IntKind} {a b : Int} {ts : Array TypeId} (hx : f.ev x = .int k a) (hy : f.ev y = .int k' b) : Ev P C f (.call ⟨.builtin .min,[x,y].toArray,ts⟩) T (.int k (if b < a then b else a)) := fun w _ d p af g=>by
 simp [execOp,resolve,invoke,builtin,Builtin.min_,Builtin.min2,hx,hy]
theorem Ev.max2 {k k' : IntKind} {a b : Int} {ts : Array TypeId} (hx : f.ev x = .int k a) (hy : f.ev y = .int k' b) : Ev P C f (.call ⟨.builtin .max,[x,y].toArray,ts⟩) T (.int k (if b > a then b else a)) := fun w _ d p af g=>by
 simp [execOp,resolve,invoke,builtin,Builtin.max_,Builtin.max2,hx,hy]
theorem minQ {a b q : Nat} {ts : Array TypeId} (h : min b a = q) (hx : f.ev x = .int .i64 (a : Int)) (hy : f.ev y = .int .i64 (b : Int)) : Ev P C f (.call ⟨.builtin .min,[x,y].toArray,ts⟩) T (.int .i64 (q : Int)) := by
 have h2 := Ev.min2 (P := P) (C := C) (T := T) (ts := ts) hx hy
 have e : (if (b : Int) < (a : Int) then (b : Int) else (a : Int)) = (q : Int) := by subst h;split <;> omega
 rwa [e] at h2
theorem subA_zero {b o c sz : Nat} : subA (some ⟨b,o,none⟩) c 0 sz = some ⟨b,o,none⟩ := by
 unfold subA
 split
 ·rfl
 ·simp [addr_add]
end
def eq3V : Value → Value → Option Bool
 | .agg ⟨[.int .i64 a,.int .i64 b,.int .i64 c]⟩,.agg ⟨[.int .i64 a',.int .i64 b',.int .i64 c']⟩=>some (decide ([a,b,c] = [a',b',c']))
 | _,_=>none
def eq6V : Value → Value → Option Bool
 | .agg ⟨[.int .i64 a,.int .i64 b,.int .i64 c,.int .i64 d,.int .i64 e,.int .i64 g]⟩,.agg ⟨[.int .i64 a',.int .i64 b',.int .i64 c',.int .i64 d',.int .i64 e',.int .i64 g']⟩=>some (decide ([a,b,c,d,e,g] = [a',b',c',d',e',g']))
 | _,_=>none
theorem eq3V_inv {v u : Value} {r : Bool} (h : eq3V v u = some r) : ∃ xs ys : List Int,v = .agg (xs.map (Value.int .i64)).toArray ∧ u = .agg (ys.map (Value.int .i64)).toArray ∧ xs.length = 3 ∧ ys.length = 3 ∧ r = decide (xs = ys) := by
 unfold eq3V at h;split at h
 ·rename_i a b c a' b' c';cases h;exact ⟨[a,b,c],[a',b',c'],rfl,rfl,rfl,rfl,rfl⟩
 ·cases h
theorem eq6V_inv {v u : Value} {r : Bool} (h : eq6V v u = some r) : ∃ xs ys : List Int,v = .agg (xs.map (Value.int .i64)).toArray ∧ u = .agg (ys.map (Value.int .i64)).toArray ∧ xs.length = 6 ∧ ys.length = 6 ∧ r = decide (xs = ys) := by
 unfold eq6V at h;split at h
 ·rename_i a b c d e g a' b' c' d' e' g';cases h;exact ⟨[a,b,c,d,e,g],[a',b',c',d',e',g'],rfl,rfl,rfl,rfl,rfl⟩
 ·cases h
instance {P : Program} {T : TypeId} [h : Eqs P T 3] : EqOf P T eq3V where
 eq := fun hb=>by obtain ⟨_,_,h1,h2,h3,h4,rfl⟩ := eq3V_inv hb;exact Ev.structs h1 h2 h3 h4
 ne := fun hb=>by obtain ⟨_,_,h1,h2,h3,h4,rfl⟩ := eq3V_inv hb;exact Ev.structs_ne h1 h2 h3 h4
instance {P : Program} {T : TypeId} [h : Eqs P T 6] : EqOf P T eq6V where
 eq := fun hb=>by obtain ⟨_,_,h1,h2,h3,h4,rfl⟩ := eq6V_inv hb;exact Ev.structs h1 h2 h3 h4
 ne := fun hb=>by obtain ⟨_,_,h1,h2,h3,h4,rfl⟩ := eq6V_inv hb;exact Ev.structs_ne h1 h2 h3 h4
section
variable {P : Program} {f : Frm} {T T' : TypeId} {x : Operand} {w0 : World} {F : Nat → Prop} {L L' : List Asrt}
variable {n' : Nat} {ops rest : List Oper} {Q : Post} {p : String} {af : Array Edge}
theorem Ev.field {C : World → Prop} {v : Value} {i : Nat} {fs : Array Field} {fd : Field} {cs : List Value} (hu : P.underlying T = some (.struct fs)) (hf : fs[i]? = some fd) (h : One P fd.type) (hx : f.ev x = .agg cs.toArray) (hc : cs[fd.offset]? = some v) : Ev P C f (.field T x i) T' v := by
 unfold Ev
 intro w _ d p af g
 simp [execOp,hx,Instr.field,run_underlying hu,hf,part,h.agg,asAgg,hc]
theorem LR.mapUpdate {T : TypeId} {x y z : Operand} {v zv : Value} {q : IntKind} {b : Nat} {l : List (Int × Value)} {key : Int} [h : MapOf P T q zv] (hx : f.ev x = .map (some b)) (hy : f.ev y = .int q key) (hz : f.ev z = v)
  (hs : Sel L (.own b (mapObj q l)) (.own b (mapObj q (l ++ [(key,v)]))) L') (hnew : (findI key l 0).isNone = true)
  (k : LR false P n' ops rest Q f (St w0 F L')) : LR false P n' ops (⟨none,.mapUpdate T x y z,T',p,af,none⟩ :: rest) Q f (St w0 F L) := by
 intro w hw a ha
 refine wpList_plain rfl fun K hK=>?_
 obtain ⟨kt,et,ht,hk,_⟩ := h.ex
 have hb : w.heap[b]? = some (.map (ents q 0 l).toArray l.length) := hw.own_at hs.mem
 have hfind : (Instr.findKey kt (.int q key) (ents q 0 l)).run P w = .ok none w := by
  refine MapKept.run_findKey hk ?_
  rw [findNow_ents]
  cases hf : findI key l 0 with
  | none=>rfl
  | some r=>rw [hf] at hnew;cases hnew
 have hr : (execOp a.eval ⟨none,.mapUpdate T x y z,T',p,af,none⟩).run P w = .ok .skip { w with heap := w.heap.setIfInBounds b (mapObj q (l ++ [(key,v)])) } := by
  rw [ha.eval]
  have e : Obj.map ((ents q 0 l).toArray.push ⟨.int q key,v,l.length⟩) (l.length + 1) = mapObj q (l ++ [(key,v)]) := by
   simp [mapObj,ents_snoc]
  simp only [execOp,hx,hy,hz,Instr.mapUpdate,Sem.run_bind,run_underlying ht,Result.andThen_ok,MapKept.run_getObj_map hb,MapKept.run_checkKey (k := .int q key) hk (by rfl) _ 9999,hfind,MapKept.run_setObj_map _ hb,e,Sem.run_pure]
 simp only [Oper.wp,hr,Oper.upon_skip]
 have hsz : b < w.heap.size := (Array.getElem?_eq_some_iff.1 hb).1
 refine hK _ _ (k _ ?_ _ (ha.put_none undef))
 exact hw.turn hs rfl (Keep.setObj w b _ rfl) (by show (w.heap.setIfInBounds b _)[b]? = _;simp [hsz]) (fun k hk=>.inl hk) (Asrt.dep_own _ _)
theorem Ev.lookupC {C : World → Prop} {T : TypeId} {x y : Operand} {zv : Value} {q : IntKind} {b : Nat} {l : List (Int × Value)} {key : Int} {r : Option (Nat × Value)} [h : MapOf P T q zv] (hx : f.ev x = .map (some b)) (hy : f.ev y = .int q key) (hm : ∀ w,C w → w.heap[b]? = some (mapObj q l)) (hr : findI key l 0 = r) :
  Ev P C f (.lookup T x y true) T' (.tuple [(r.map Prod.snd).getD zv,.bool r.isSome].toArray) := fun w hw d p af g=>by
 obtain ⟨kt,et,ht,hk,hz⟩ := h.ex
 have hb : w.heap[b]? = some (.map (ents q 0 l).toArray l.length) := hm w hw
 have hfind : (Instr.findKey kt (.int q key) (ents q 0 l)).run P w = .ok r w := by
  refine MapKept.run_findKey hk ?_
  rw [findNow_ents,hr]
 cases r with
 | none=>simp [execOp,hx,hy,Instr.lookup,run_underlying ht,MapKept.run_getObj_map hb,MapKept.run_checkKey (k := .int q key) hk (by rfl) _ 9999,hfind,hz,Result.andThen]
 | some s=>simp [execOp,hx,hy,Instr.lookup,run_underlying ht,MapKept.run_getObj_map hb,MapKept.run_checkKey (k := .int q key) hk (by rfl) _ 9999,hfind,Result.andThen]
theorem Ev.lookup1C {C : World → Prop} {T : TypeId} {x y : Operand} {zv : Value} {q : IntKind} {b : Nat} {l : List (Int × Value)} {key : Int} {r : Option (Nat × Value)} [h : MapOf P T q zv] (hx : f.ev x = .map (some b)) (hy : f.ev y = .int q key) (hm : ∀ w,C w → w.heap[b]? = some (mapObj q l)) (hr : findI key l 0 = r) :
  Ev P C f (.lookup T x y false) T' ((r.map Prod.snd).getD zv) := fun w hw d p af g=>by
 obtain ⟨kt,et,ht,hk,hz⟩ := h.ex
 have hb : w.heap[b]? = some (.map (ents q 0 l).toArray l.length) := hm w hw
 have hfind : (Instr.findKey kt (.int q key) (ents q 0 l)).run P w = .ok r w := by
  refine MapKept.run_findKey hk ?_
  rw [findNow_ents,hr]
 cases r with
 | none=>simp [execOp,hx,hy,Instr.lookup,run_underlying ht,MapKept.run_getObj_map hb,MapKept.run_checkKey (k := .int q key) hk (by rfl) _ 9999,hfind,hz,Result.andThen]
 | some s=>simp [execOp,hx,hy,Instr.lookup,run_underlying ht,MapKept.run_getObj_map hb,MapKept.run_checkKey (k := .int q key) hk (by rfl) _ 9999,hfind,Result.andThen]
end
end Go.Hb
namespace Go.Proofs.YtohbcfokihplbaaGreatDoor
open Go.Hb
attribute [local irreducible] LR CW At Ev thn blk finK noG again CallsTo DW QL dnext TW DP
set_option maxRecDepth 100000
structure DaA where
 d : Dat
 a : Option Addr
 c : Nat
def DaA.row (x : DaA) : List Value := x.d.cells x.a x.c
theorem DaA.row_len (x : DaA) : x.row.length = 18 := rfl
def DaA.body (x : DaA) : Asrt := osl (.slice x.a x.d.msg.body.length x.c) 5 1 x.d.msg.body.length (bv x.d.msg.body)
theorem DaA.dep (x : DaA) : x.body.dep := osl.dep _ _ _ _ _
theorem DaA.ex (x : DaA) : x.body.excl = true := rfl
abbrev bunD : List DaA → Asrt := bun DaA.body
def entD (x : DaA) : Int × Value := (x.d.seq,x.d.val x.a x.c)
abbrev wB (bw bm : Nat) (aru high : Int) : Asrt := .own bw (.cells [.bool true,.map (some bm),.int .i64 aru,.int .i64 high].toArray 183 (0,0))
abbrev mB (bm : Nat) (es : List DaA) : Asrt := .own bm (mapObj .i64 (es.map entD))
def wO (bw bm : Nat) (es : List DaA) (aru high : Int) : Asrt := both (both (wB bw bm aru high) (mB bm es)) (bunD es)
theorem wO_dep (bw bm : Nat) (es : List DaA) (aru high : Int) : (wO bw bm es aru high).dep := both_dep (both_dep (Asrt.dep_own _ _) (Asrt.dep_own _ _)) (bun_dep DaA.dep es)
abbrev wR (bw bm : Nat) (es : List DaA) (aru high : Int) : Asrt := .rd (wO bw bm es aru high).foot (wO bw bm es aru high).holds
theorem wO_w {bw bm : Nat} {es : List DaA} {aru high : Int} {w : World} (h : (wO bw bm es aru high).holds w) : w.heap[bw]? = some (.cells [.bool true,.map (some bm),.int .i64 aru,.int .i64 high].toArray 183 (0,0)) := h.1.1
theorem wO_m {bw bm : Nat} {es : List DaA} {aru high : Int} {w : World} (h : (wO bw bm es aru high).holds w) : w.heap[bm]? = some (mapObj .i64 (es.map entD)) := h.1.2.1
theorem wO_b {bw bm : Nat} {es : List DaA} {aru high : Int} {w : World} (h : (wO bw bm es aru high).holds w) {x : DaA} (hx : x ∈ es) : Rd w x.a (bv x.d.msg.body) := by
 have : (DaA.body x).holds w := h.2.1.1 x hx
 exact ownsRow_rd this
theorem wO_in {bw bm : Nat} {es : List DaA} {aru high : Int} {w : World} (h : (wO bw bm es aru high).holds w) : St w NoF [wR bw bm es aru high] w :=
 (St.refl w NoF).old h (fun k hk=>⟨both_live h k hk,fun x=>x⟩) (wO_dep _ _ _ _ _)
theorem wO_turn {bw bm : Nat} {es : List DaA} {aru high : Int} {w : World} (h : (wO bw bm es aru high).holds w) : St w (wO bw bm es aru high).foot [wB bw bm aru high,mB bm es,bunD es] w :=
 ((St.one h (both_live h) (wO_dep _ _ _ _ _)).part (both_dep (Asrt.dep_own _ _) (Asrt.dep_own _ _)) (bun_dep DaA.dep es)).part (Asrt.dep_own _ _) (Asrt.dep_own _ _)
theorem wO_out {w0 w : World} {F : Nat → Prop} {R : List Asrt} {bw bm : Nat} {es : List DaA} {aru high : Int} (h : St w0 F (wB bw bm aru high :: mB bm es :: bunD es :: R) w) : St w0 F (wO bw bm es aru high :: R) w := by
 have h1 : St w0 F (both (wB bw bm aru high) (mB bm es) :: bunD es :: R) w := h.join rfl rfl
 exact h1.join rfl rfl
theorem w_cell {w0 w : World} {F : Nat → Prop} {L : List Asrt} {bw bm q : Nat} {es : List DaA} {aru high : Int} {v : Value} (h : St w0 F L w) (hm : wR bw bm es aru high ∈ L) (hq : [Value.bool true,.map (some bm),.int .i64 aru,.int .i64 high][q]? = some v) : w.cell? ⟨bw,q,none⟩ = some v := by
 have h1 : (wO bw bm es aru high).holds w := h.holds (wR bw bm es aru high) hm
 rw [cell_own (wO_w h1)]
 simpa using hq
theorem w_out {w0 w : World} {F : Nat → Prop} {L : List Asrt} {bw bm : Nat} {es : List DaA} {aru high : Int} (h : St w0 F L w) (hm : wR bw bm es aru high ∈ L) : (wO bw bm es aru high).holds w := h.holds (wR bw bm es aru high) hm
theorem t61 (d : Dat) (a : Option Addr) (c : Nat) (w : World) (hr : Rd w a (bv d.msg.body)) (hz : a = none → c = 0) (hm : d.msg.body.length ≤ 140737488355328) :
  CallsTo Tryz.prog 173 [d.val a c] w fun v w'=>∃ a' c',v = d.val a' c' ∧ NewSl w w' (.slice a' d.msg.body.length c') 5 1 d.msg.body.length (bv d.msg.body) := by
 refine go_in (n := 10) (St.rd1 hr) Tryz.func173 rfl rfl ?_
 repeat'(first|(apply kB;(iterate 2 exact rfl);intro _)|refine gz ?_|refine gy fun _=>?_|(apply LR.call;(·exact rfl);(intro w1 h1;refine (c86 a c d.msg.body w1 (h1.rd_of memZ) hz hm).mono ?_;rintro v w2 ⟨a2,c2,rfl,hn⟩;refine LR.back (h1.newSl hn) ?_;clear hn h1))|fail)
 (apply ret1c;(·exact rfl);(·exact inferInstance);(·exact rfl);(·exact memY);(·exact rfl);intro w' hS)
 exact ⟨a2,c2,rfl,hS.toNew memZ⟩
instance : MapOf Tryz.prog 181 .i64 (zeroDat.val none 0) := ⟨⟨3,52,Tryz.underlying181,Tryz.underlying3,fun w=>by rw [Tryz.zeroValue52];rfl⟩⟩
theorem t58 (bw bm : Nat) (es : List DaA) (aru high : Int) (w : World) (h : (wO bw bm es aru high).holds w) : CallsTo Tryz.prog 172 [.pointer (some ⟨bw,0,none⟩)] w fun v w'=>v = .bool false ∧ Grew w w' := by
 refine go_in (n := 12) (wO_in h) Tryz.func172 rfl rfl ?_
 repeat'(first|refine gz ?_|(apply LR.ev;(·apply Ev.load;(·exact rfl);(·exact fun w' hw'=>w_cell hw' memZ rfl));(·exact rfl))|fail)
 (apply ret1;(·exact rfl);intro w' hS)
 exact ⟨rfl,hS.toKeep⟩
theorem t35 (bw bm : Nat) (es : List DaA) (aru high : Int) (w : World) (h : (wO bw bm es aru high).holds w) : CallsTo Tryz.prog 182 [.pointer (some ⟨bw,0,none⟩)] w fun v w'=>v = .int .i64 aru ∧ Grew w w' := by
 refine go_in (n := 9) (wO_in h) Tryz.func182 rfl rfl ?_
 repeat'(first|refine gz ?_|(apply kq;(·exact rfl);(·intro w1 h1;exact CallsTo.q (t58 bw bm es aru high w1 (w_out h1 memZ)) h1))|(apply LR.ev;(·apply Ev.load;(·exact rfl);(·exact fun w' hw'=>w_cell hw' memZ rfl));(·exact rfl))|fail)
 (apply ret1;(·exact rfl);intro w' hS)
 exact ⟨rfl,hS.toKeep⟩
theorem t37 (bw bm : Nat) (es : List DaA) (aru high : Int) (w : World) (h : (wO bw bm es aru high).holds w) : CallsTo Tryz.prog 198 [.pointer (some ⟨bw,0,none⟩)] w fun v w'=>v = .int .i64 high ∧ Grew w w' := by
 refine go_in (n := 9) (wO_in h) Tryz.func198 rfl rfl ?_
 repeat'(first|refine gz ?_|(apply kq;(·exact rfl);(·intro w1 h1;exact CallsTo.q (t58 bw bm es aru high w1 (w_out h1 memZ)) h1))|(apply LR.ev;(·apply Ev.load;(·exact rfl);(·exact fun w' hw'=>w_cell hw' memZ rfl));(·exact rfl))|fail)
 (apply ret1;(·exact rfl);intro w' hS)
 exact ⟨rfl,hS.toKeep⟩
theorem t24 (w : World) : CallsTo Tryz.prog 65 [] w fun v w'=>∃ bw bm,v = .pointer (some ⟨bw,0,none⟩) ∧ New1 (wO bw bm [] 0 0) w w' := by
 refine go_in (n := 4) (St.refl _ NoF) Tryz.func65 rfl rfl ?_
 repeat'(first|refine gz ?_|refine gy fun _=>?_|(apply LR.makeMap;(·exact rfl);(intro bm))|fail)
 (apply ret1;(·exact rfl);intro w' hS)
 exact ⟨_,bm,rfl,St.new1 (wO_out (R := []) ((St.bun_nil DaA.dep hS).perm (List.perm_append_comm (l₁ := [bunD []]) (l₂ := [_,_])))) rfl⟩
def fndD (D : List Dat) (s : Int) : Option Dat := D.find? fun d=>decide (d.seq = s)
def hasD (D : List Dat) (s : Int) : Bool := D.any fun d=>decide (d.seq = s)
def fnd (es : List DaA) (s : Int) : Option DaA := es.find? fun x=>decide (x.d.seq = s)
def dats (es : List DaA) : List Dat := es.map DaA.d
theorem fnd_d (es : List DaA) (s : Int) : (fnd es s).map DaA.d = fndD (dats es) s := by
 unfold fnd fndD dats
 rw [List.find?_map]
 rfl
theorem has_iff {D : List Dat} {s : Int} : hasD D s = true ↔ ∃ d ∈ D,d.seq = s := by
 unfold hasD;simp
theorem fnd_has (D : List Dat) (s : Int) : (fndD D s).isSome = hasD D s := by
 rw [Bool.eq_iff_iff,has_iff]
 unfold fndD
 rw [List.find?_isSome]
 simp
theorem findI_fnd (s : Int) : ∀ (es : List DaA) (n : Nat),(findI s (es.map entD) n).map Prod.snd = (fnd es s).map fun x=>x.d.val x.a x.c
 | [],n=>rfl
 | x :: r,n=>by
  unfold fnd
  rw [List.map_cons,findI,List.find?_cons]
  by_cases h : s = x.d.seq
  ·simp [entD,h]
  ·have h2 : ¬x.d.seq = s := fun e=>h e.symm
   have ih := findI_fnd s r (n + 1)
   unfold fnd at ih
   simp [entD,h,h2,ih]
theorem findI_some (s : Int) (es : List DaA) (n : Nat) : (findI s (es.map entD) n).isSome = (fnd es s).isSome := by
 have := congrArg Option.isSome (findI_fnd s es n)
 simpa using this
theorem fnd_mem {es : List DaA} {s : Int} {x : DaA} (h : fnd es s = some x) : x ∈ es ∧ x.d.seq = s := by
 unfold fnd at h
 exact ⟨List.mem_of_find?_eq_some h,by simpa using List.find?_some h⟩
structure WOk (D : List Dat) : Prop where
 nodup : (D.map Dat.seq).Nodup
 rng : ∀ d ∈ D,1 ≤ d.seq ∧ d.seq ≤ 9007199254740991 ∧ ringE d.rseq d.rrep = 0
 len : ∀ d ∈ D,d.msg.body.length ≤ 140737488351232
def Upto (D : List Dat) (n : Int) : Prop := 0 ≤ n ∧ ∀ s,1 ≤ s → s ≤ n → hasD D s = true
def IsAru (D : List Dat) (n : Int) : Prop := Upto D n ∧ hasD D (n + 1) = false
theorem IsAru.uniq {D : List Dat} {m n : Int} (h : IsAru D m) (h2 : IsAru D n) : m = n := by
 have key : ∀ {a b : Int},IsAru D a → IsAru D b → ¬a < b := fun {a b} ha hb hlt=>by
  have := hb.1.2 (a + 1) (by have := ha.1.1;omega) (by omega)
  rw [ha.2] at this
  cases this
 have h3 := key h h2
 have h4 := key h2 h
 omega
theorem Upto.le {D : List Dat} {n : Int} (h : Upto D n) (hD : WOk D) : n ≤ 9007199254740991 := by
 rcases Int.lt_or_le 9007199254740991 n with hlt | hle
 ·obtain ⟨d,hd,he⟩ := has_iff.1 (h.2 n (by omega) (by omega))
  have := (hD.rng d hd).2.1
  omega
 ·exact hle
theorem hasD_snoc (D : List Dat) (d : Dat) (s : Int) : hasD (D ++ [d]) s = (hasD D s || decide (d.seq = s)) := by
 unfold hasD;simp
def getT (D : List Dat) (s : Int) : Dat := (fndD D s).getD zeroDat
theorem getT_len {D : List Dat} (h : WOk D) (s : Int) : (getT D s).msg.body.length ≤ 140737488351232 := by
 unfold getT fndD
 cases hf : D.find? fun d=>decide (d.seq = s) with
 | none=>simp [zeroDat,zeroMsg]
 | some d=>exact h.len d (List.mem_of_find?_eq_some hf)
theorem body_nz {x : DaA} {w : World} (h : x.body.holds w) (e : x.a = none) : x.c = 0 := by
 have h : w.ownsRow 0 5 1 (.slice x.a x.d.msg.body.length x.c) x.d.msg.body.length (bv x.d.msg.body) := h
 rcases h.2 with ⟨he,_⟩ | ⟨g,cap,cur,he,_⟩
 ·simp only [Value.slice.injEq] at he
  exact he.2.2
 ·simp only [Value.slice.injEq] at he
  rw [he.1] at e
  cases e
theorem win_no {C : World → Prop} {f : Frm} {x y : Operand} {T' : TypeId} {bm : Nat} {es : List DaA} {s : Int} (hx : f.ev x = .map (some bm)) (hy : f.ev y = .int .i64 s) (hn : fnd es s = none) (hC : ∀ w,C w → w.heap[bm]? = some (mapObj .i64 (es.map entD))) :
  Ev Tryz.prog C f (.lookup 181 x y true) T' (.tuple [zeroDat.val none 0,.bool false].toArray) := by
 have := Ev.lookupC (P := Tryz.prog) (C := C) (T := 181) (T' := T') (l := es.map entD) (r := findI s (es.map entD) 0) hx hy hC rfl
 rw [findI_fnd,findI_some,hn] at this
 exact this
theorem win_yes {C : World → Prop} {f : Frm} {x y : Operand} {T' : TypeId} {bm : Nat} {es : List DaA} {s : Int} {e : DaA} (hx : f.ev x = .map (some bm)) (hy : f.ev y = .int .i64 s) (hn : fnd es s = some e) (hC : ∀ w,C w → w.heap[bm]? = some (mapObj .i64 (es.map entD))) :
  Ev Tryz.prog C f (.lookup 181 x y true) T' (.tuple [e.d.val e.a e.c,.bool true].toArray) := by
 have := Ev.lookupC (P := Tryz.prog) (C := C) (T := 181) (T' := T') (l := es.map entD) (r := findI s (es.map entD) 0) hx hy hC rfl
 rw [findI_fnd,findI_some,hn] at this
 exact this
set_option maxHeartbeats 1000000 in
theorem t32 (bw bm : Nat) (es : List DaA) (aru high s : Int) (w : World) (h : (wO bw bm es aru high).holds w) (hD : WOk (dats es)) :
  CallsTo Tryz.prog 171 [.pointer (some ⟨bw,0,none⟩),.int .i64 s] w fun v w'=>∃ a' c',v = .tuple [(getT (dats es) s).val a' c',.bool (hasD (dats es) s)].toArray ∧ NewSl w w' (.slice a' (getT (dats es) s).msg.body.length c') 5 1 (getT (dats es) s).msg.body.length (bv (getT (dats es) s).msg.body) := by
 refine go_in (n := 23) (wO_in h) Tryz.func171 rfl rfl ?_
 have hfd := fnd_d es s
 have hg : getT (dats es) s = ((fnd es s).map DaA.d).getD zeroDat := by unfold getT;rw [hfd]
 have hln := getT_len hD s
 rw [hg] at hln
 rw [← fnd_has,← hfd,hg,Option.isSome_map]
 cases hx : fnd es s with
 | none=>
  repeat'(first|refine gz ?_|refine gy fun _=>?_|(apply kq;(·exact rfl);(·intro w1 h1;exact CallsTo.q (t58 bw bm es aru high w1 (w_out h1 memZ)) h1))|(apply LR.ev;(·apply Ev.load;(·exact rfl);(·exact fun w' hw'=>w_cell hw' memZ rfl));(·exact rfl))|(apply LR.ev;(·apply win_no;(·exact rfl);(·exact rfl);(·exact hx);(·exact fun w' hw'=>wO_m (w_out hw' memZ)));(·exact rfl))|(apply LR.call;(·exact rfl);(intro w1 h1;refine (t61 zeroDat none 0 w1 (Rd.nil _ _) (fun _=>rfl) (by decide)).mono ?_;rintro v w2 ⟨a2,c2,rfl,hn⟩;refine LR.back (h1.newSl hn) ?_;clear hn h1))|fail)
  (apply ret2c;(·exact rfl);(·exact inferInstance);(·exact rfl);(·exact memY);(·exact rfl);intro w' hS)
  exact ⟨a2,c2,rfl,hS.toNew memZ⟩
 | some x=>
  rw [hx] at hln
  have hmem := (fnd_mem hx).1
  have hb : ∀ w',(wO bw bm es aru high).holds w' → x.body.holds w' := fun w' hw'=>hw'.2.1.1 x hmem
  repeat'(first|refine gz ?_|refine gy fun _=>?_|(apply kq;(·exact rfl);(·intro w1 h1;exact CallsTo.q (t58 bw bm es aru high w1 (w_out h1 memZ)) h1))|(apply LR.ev;(·apply Ev.load;(·exact rfl);(·exact fun w' hw'=>w_cell hw' memZ rfl));(·exact rfl))|(apply LR.ev;(·apply win_yes;(·exact rfl);(·exact rfl);(·exact hx);(·exact fun w' hw'=>wO_m (w_out hw' memZ)));(·exact rfl))|(apply LR.call;(·exact rfl);(intro w1 h1;refine (t61 x.d x.a x.c w1 (wO_b (w_out h1 memZ) hmem) (body_nz (hb _ (w_out h1 memZ))) (by simp only [Option.map_some,Option.getD_some] at hln;omega)).mono ?_;rintro v w2 ⟨a2,c2,rfl,hn⟩;refine LR.back (h1.newSl hn) ?_;clear hn h1))|fail)
  (apply ret2c;(·exact rfl);(·exact inferInstance);(·exact rfl);(·exact memY);(·exact rfl);intro w' hS)
  exact ⟨a2,c2,rfl,hS.toNew memZ⟩
def seeE (s : Int) : Int := if s < 0 ∨ 9007199254740991 < s then 2 else 0
def seeH (high s : Int) : Int := if s < 0 ∨ 9007199254740991 < s then high else max high s
theorem maxI (a b : Int) : (if b > a then b else a) = max a b := by split <;> omega
theorem t26 (bw bm : Nat) (es : List DaA) (aru high s : Int) (w : World) (h : (wO bw bm es aru high).holds w) :
  CallsTo Tryz.prog 235 [.pointer (some ⟨bw,0,none⟩),.int .i64 s] w fun v w'=>v = .int .i64 (seeE s) ∧ Step (wO bw bm es aru high) (wO bw bm es aru (seeH high s)) w w' := by
 refine go_in (n := 24) (wO_turn h) Tryz.func235 rfl rfl ?_
 have hin : ∀ w1,St w (wO bw bm es aru high).foot [wB bw bm aru high,mB bm es,bunD es] w1 → (wO bw bm es aru high).holds w1 := fun w1 h1=>(wO_out h1).g0
 repeat'(first|refine gz ?_|(apply kq;(·exact rfl);(·intro w1 h1;exact CallsTo.q (t58 bw bm es aru high w1 (hin w1 h1)) h1))|(apply LR.ev;(·apply Ev.max2;(·exact rfl);(·exact rfl));(·exact rfl))|(refine gs ?_ ?_;all_goals(intro hc;try simp only[hcs]at hc;try exact abz)))
 all_goals (
  (apply ret1;(·exact rfl);intro w' hS)
  first
  | (have e : seeE s = 2 := by unfold seeE;rw [if_pos (by omega)]
     have e2 : seeH high s = high := by unfold seeH;rw [if_pos (by omega)]
     rw [e,e2]
     exact ⟨rfl,(wO_out hS).step rfl⟩)
  | (have e : seeE s = 0 := by unfold seeE;rw [if_neg (by omega)]
     have e2 : seeH high s = (if s > high then s else high) := by unfold seeH;rw [if_neg (by omega),maxI]
     rw [e,e2]
     exact ⟨rfl,(wO_out hS).step rfl⟩))
def wpOk (d : Dat) : Bool := decide (ringE d.rseq d.rrep = 0 ∧ 1 ≤ d.seq ∧ d.seq ≤ 9007199254740991)
def wpNew (D : List Dat) (d : Dat) : Bool := wpOk d && !hasD D d.seq
def wpE (d : Dat) : Int := if wpOk d then 0 else 2
def wpD (D : List Dat) (d : Dat) : List Dat := if wpNew D d then D ++ [d] else D
def wpH (D : List Dat) (high : Int) (d : Dat) : Int := if wpNew D d then max high d.seq else high
theorem wpD_ok {D : List Dat} {d : Dat} (h : WOk D) (hl : d.msg.body.length ≤ 140737488351232) : WOk (wpD D d) := by
 unfold wpD
 split
 ·rename_i hn
  unfold wpNew wpOk at hn
  simp only [Bool.and_eq_true,decide_eq_true_eq,Bool.not_eq_true'] at hn
  obtain ⟨⟨h1,h2,h3⟩,h4⟩ := hn
  refine ⟨?_,fun x hx=>?_,fun x hx=>?_⟩
  ·rw [List.map_append,List.nodup_append]
   refine ⟨h.nodup,by simp,fun a ha b hb e=>?_⟩
   simp only [List.map_cons,List.map_nil,List.mem_singleton] at hb
   obtain ⟨x,hx,rfl⟩ := List.mem_map.1 ha
   have : hasD D d.seq = true := has_iff.2 ⟨x,hx,by rw [e,hb]⟩
   rw [h4] at this
   cases this
  ·rcases List.mem_append.1 hx with hx | hx
   ·exact h.rng x hx
   ·rw [List.mem_singleton] at hx;subst hx;exact ⟨h2,h3,h1⟩
  ·rcases List.mem_append.1 hx with hx | hx
   ·exact h.len x hx
   ·rw [List.mem_singleton] at hx;subst hx;exact hl
 ·exact h
theorem Upto.more {D : List Dat} {n : Int} (h : Upto D n) (d : Dat) : Upto (D ++ [d]) n := ⟨h.1,fun s h1 h2=>by rw [hasD_snoc,h.2 s h1 h2];rfl⟩
theorem Upto.next {D : List Dat} {n : Int} (h : Upto D n) (hn : hasD D (n + 1) = true) : Upto D (n + 1) := ⟨by have := h.1;omega,fun s h1 h2=>by
 by_cases e : s = n + 1
 ·rw [e];exact hn
 ·exact h.2 s h1 (by omega)⟩
set_option maxHeartbeats 2000000 in
theorem t29 (bw bm : Nat) (es : List DaA) (aru high : Int) (d : Dat) (a : Option Addr) (c : Nat) (w : World) (h : (wO bw bm es aru high).holds w) (hD : WOk (dats es)) (hA : IsAru (dats es) aru)
  (hr : Rd w a (bv d.msg.body)) (hz : a = none → c = 0) (hd : ∀ k,rdFoot a (bv d.msg.body) k → ¬ (wO bw bm es aru high).foot k) (hl : d.msg.body.length ≤ 140737488351232) :
  CallsTo Tryz.prog 123 [.pointer (some ⟨bw,0,none⟩),d.val a c] w fun v w'=>∃ es' aru',v = .tuple [.bool (wpNew (dats es) d),.int .i64 (wpE d)].toArray ∧ dats es' = wpD (dats es) d ∧ IsAru (wpD (dats es) d) aru' ∧ Step (wO bw bm es aru high) (wO bw bm es' aru' (wpH (dats es) high d)) w w' := by
 have hDn := wpD_ok (d := d) hD hl
 have hfd := fnd_d es d.seq
 have hfh := fnd_has (dats es) d.seq
 rw [← hfd,Option.isSome_map] at hfh
 refine go_in (n := 77) ((wO_turn h).addRd hr hd) Tryz.func123 rfl rfl ?_
 repeat'(first|(apply kB;(iterate 2 exact rfl);intro b3)|refine gz ?_)
 apply LR.call
 ·exact rfl
 intro w1 h1
 refine (t32 bw bm es aru high d.seq w1 (wO_out (R := []) (h1.sub subN)).g0 hD).mono ?_
 rintro v w2 ⟨a2,c2,rfl,hn⟩
 refine LR.back (h1.newSl hn) ?_
 clear hn h1
 repeat'(first|(apply CW.reg_sinkC 8;(·exact rfl);(·decide +kernel))|refine gz ?_|refine gy fun _=>?_|(apply kq;(·exact rfl);(·intro w1 h1;first | exact CallsTo.q (t58 bw bm es aru high w1 (wO_out (R := []) (h1.sub subN)).g0) h1 | exact CallsTo.q (c81 _ _ w1) h1))|(refine gs ?_ ?_;all_goals(intro hc;try simp only[hcs]at hc;try exact abz)))
 all_goals (
  first
  | ((apply ret2;(·exact rfl);intro w' hS)
     have hno : wpNew (dats es) d = false := by unfold wpNew wpOk;rw [decide_eq_false (by omega)];rfl
     have e1 : wpD (dats es) d = dats es := by unfold wpD;rw [hno];rfl
     have e2 : wpH (dats es) high d = high := by unfold wpH;rw [hno];rfl
     have e3 : wpE d = 2 := by unfold wpE wpOk;rw [decide_eq_false (by omega)];rfl
     rw [e1,e2,e3,hno]
     exact ⟨es,aru,rfl,rfl,hA,(wO_out (R := []) (hS.sub subN)).step rfl⟩)
  | skip)
 ·(apply ret2;(·exact rfl);intro w' hS)
  have hno : wpNew (dats es) d = false := by unfold wpNew;rw [show hasD (dats es) d.seq = true by assumption];simp
  have e1 : wpD (dats es) d = dats es := by unfold wpD;rw [hno];rfl
  have e2 : wpH (dats es) high d = high := by unfold wpH;rw [hno];rfl
  have e3 : wpE d = 0 := by unfold wpE wpOk;rw [decide_eq_true (by omega)];rfl
  rw [e1,e2,e3,hno]
  exact ⟨es,aru,rfl,rfl,hA,(wO_out (R := []) (hS.sub subN)).step rfl⟩
 have hno : hasD (dats es) d.seq = false := by assumption
 have hok : wpOk d = true := by unfold wpOk;exact decide_eq_true ⟨by assumption,by assumption,by assumption⟩
 have hnew : wpNew (dats es) d = true := by unfold wpNew;rw [hok,hno];rfl
 have e1 : wpD (dats es) d = dats es ++ [d] := by unfold wpD;rw [hnew];rfl
 have e2 : wpH (dats es) high d = max high d.seq := by unfold wpH;rw [hnew];rfl
 have e3 : wpE d = 0 := by unfold wpE;rw [hok];rfl
 rw [e1] at hDn
 rw [e1,e2,e3,hnew]
 have hfi : (findI d.seq (es.map entD) 0).isNone = true := by
  have h1 := findI_some d.seq es 0
  rw [hfh,hno] at h1
  cases hq : findI d.seq (es.map entD) 0 with
  | none=>rfl
  | some z=>rw [hq] at h1;cases h1
 generalize hF : (wO bw bm es aru high).foot = F at *
 all_goals (
  apply DW.quiet [0,1,2,3,4,5,6]
  ·decide +kernel
  ·exact stZ
  repeat'(first|refine gq ?_|apply QL.nil)
  all_goals (show DW _ _ _ _ _ _ _ _))
 all_goals (
  apply DW.loud 7
  ·exact rfl
  ·decide +kernel
  repeat'(first|refine gw ?_|(apply LR.call;(·exact rfl);(intro w1 h1;refine (t61 d a c w1 (h1.rd_of memZ) hz (by omega)).mono ?_;rintro v w2 ⟨a3,c3,rfl,hn⟩;refine LR.back (h1.newSl hn) ?_;clear hn h1)))
  all_goals (refine ats ?_))
 all_goals (apply DW.done;(·decide +kernel))
 all_goals apply At.sink
 refine LR.mapUpdate (l := es.map entD) (key := d.seq) (v := d.val a3 c3) rfl rfl rfl selZ hfi ?_
 repeat'(first|(apply CW.reg_sinkC 10;(·exact rfl);(·decide +kernel))|refine gz ?_)
 all_goals (
  apply DW.quiet [0,1,2,3,4,5,6,7,8,9]
  ·decide +kernel
  ·exact stZ
  repeat'(first|refine yv' ?_|(apply QL.ev;(·exact rfl);(·apply Ev.max2;(·exact rfl);(·exact rfl));(·exact rfl))|apply QL.nil)
  all_goals (show DW _ _ _ _ _ _ _ _))
 all_goals (apply DW.done;(·decide +kernel))
 all_goals apply At.sink
 rw [maxI]
 repeat'(first|refine gz ?_)
 have hlen : (dats (es ++ [⟨d,a3,c3⟩])) = dats es ++ [d] := by unfold dats;simp
 apply CW.loop [4,5,8,9,55,56,57,58,59,60,61,62,63,64,65,66,67,68,69,70,71,72,73,74,75,76] (fun n : Int=>Upto (dats es ++ [d]) n) (fun _=>[])
  (fun n=>St w F [wB bw bm n (max high d.seq),mB bm (es ++ [⟨d,a3,c3⟩]),bunD (es ++ [⟨d,a3,c3⟩]),.own b3 (.cells (d.cells a c).toArray 52 (0,0)),rdA a (bv d.msg.body)]) (fun n=>(9007199254740992 - n).toNat)
 ·intro w' hw'
  refine ⟨aru,hA.1.more d,trivial,?_⟩
  have h5 : (es.map entD ++ [(d.seq,d.val a3 c3)]) = (es ++ [(⟨d,a3,c3⟩ : DaA)]).map entD := by simp [entD]
  rw [h5] at hw'
  have h1 : St w F [DaA.body ⟨d,a3,c3⟩,.own b3 (.cells (d.cells a c).toArray 52 (0,0)),rdA a (bv d.msg.body),wB bw bm aru (max high d.seq),mB bm (es ++ [⟨d,a3,c3⟩]),bunD es] w' := hw'.sub subN
  have h2 : St w F [DaA.body ⟨d,a3,c3⟩,bunD es,.own b3 (.cells (d.cells a c).toArray 52 (0,0)),rdA a (bv d.msg.body),wB bw bm aru (max high d.seq),mB bm (es ++ [⟨d,a3,c3⟩])] w' := front (L' := [DaA.body ⟨d,a3,c3⟩,bunD es,.own b3 (.cells (d.cells a c).toArray 52 (0,0)),rdA a (bv d.msg.body),wB bw bm aru (max high d.seq),mB bm (es ++ [⟨d,a3,c3⟩])]) (front (L' := [bunD es,DaA.body ⟨d,a3,c3⟩,.own b3 (.cells (d.cells a c).toArray 52 (0,0)),rdA a (bv d.msg.body),wB bw bm aru (max high d.seq),mB bm (es ++ [⟨d,a3,c3⟩])]) h1 5 rfl rfl) 1 rfl rfl
  have h4 := h2.bun_snoc DaA.dep DaA.ex
  exact front (L' := [wB bw bm aru (max high d.seq),mB bm (es ++ [⟨d,a3,c3⟩]),bunD (es ++ [⟨d,a3,c3⟩]),.own b3 (.cells (d.cells a c).toArray 52 (0,0)),rdA a (bv d.msg.body)]) (front (L' := [mB bm (es ++ [⟨d,a3,c3⟩]),bunD (es ++ [⟨d,a3,c3⟩]),.own b3 (.cells (d.cells a c).toArray 52 (0,0)),rdA a (bv d.msg.body),wB bw bm aru (max high d.seq)]) h4 4 rfl rfl) 4 rfl rfl
 intro n g1 hn
 have hfd2 := fnd_d (es ++ [⟨d,a3,c3⟩]) (n + 1)
 have hfh2 := fnd_has (dats (es ++ [⟨d,a3,c3⟩])) (n + 1)
 rw [← hfd2,Option.isSome_map,hlen] at hfh2
 have hnb := hn.le hDn
 have hn0 := hn.1
 cases hx : fnd (es ++ [⟨d,a3,c3⟩]) (n + 1) with
 | none=>
  rw [hx] at hfh2
  have hno2 : hasD (dats es ++ [d]) (n + 1) = false := hfh2.symm
  repeat'(first|(apply CW.reg_heldC)|refine gz ?_)
  all_goals (
   apply DW.quiet [0,1,2,3,4,5,6,7,8,9,10,11,12]
   ·decide +kernel
   ·exact stZ
   repeat'(first|refine yv' ?_|(apply QL.ev;(·exact rfl);(·first | (apply Ev.add;(·exact rfl);(·exact rfl);(·omega);(·omega)) | (apply win_no;(·exact rfl);(·exact rfl);(·exact hx);(·exact fun w' hw'=>hw'.own_at (b := bm) memZ)));(·exact rfl))|apply QL.nil)
   all_goals (show DW _ _ _ _ _ _ _ _))
  all_goals (
   apply DW.loud 13
   ·exact rfl
   ·decide +kernel
   repeat'(first|refine gw ?_|refine gy fun _=>?_)
   all_goals (refine ats ?_))
  all_goals (
   apply DW.loud 14
   ·exact rfl
   ·decide +kernel
   repeat'(first|refine gw ?_)
   all_goals (refine ats ?_))
  all_goals (
   apply DW.quiet [15]
   ·decide +kernel
   ·exact stZ
   repeat'(first|refine yv' ?_|apply QL.nil)
   all_goals (show DW _ _ _ _ _ _ _ _))
  all_goals (first | (apply DW.done_thn;(·decide +kernel)) |fail)
  repeat'(first|refine gz ?_)
  (apply ret2;(·exact rfl);intro w' hS)
  subst hF
  exact ⟨(es ++ [⟨d,a3,c3⟩]),n,rfl,hlen,⟨hn,hno2⟩,(wO_out (R := []) (hS.sub subN)).step rfl⟩
 | some x=>
  rw [hx] at hfh2
  have hyes : hasD (dats es ++ [d]) (n + 1) = true := hfh2.symm
  have hn1 := (hn.next hyes).le hDn
  repeat'(first|(apply CW.reg_heldC)|refine gz ?_)
  all_goals (
   apply DW.quiet [0,1,2,3,4,5,6,7,8,9,10,11,12]
   ·decide +kernel
   ·exact stZ
   repeat'(first|refine yv' ?_|(apply QL.ev;(·exact rfl);(·first | (apply Ev.add;(·exact rfl);(·exact rfl);(·omega);(·omega)) | (apply win_yes;(·exact rfl);(·exact rfl);(·exact hx);(·exact fun w' hw'=>hw'.own_at (b := bm) memZ)));(·exact rfl))|apply QL.nil)
   all_goals (show DW _ _ _ _ _ _ _ _))
  all_goals (
   apply DW.loud 13
   ·exact rfl
   ·decide +kernel
   repeat'(first|refine gw ?_|refine gy fun _=>?_)
   all_goals (refine ats ?_))
  all_goals (
   apply DW.loud 14
   ·exact rfl
   ·decide +kernel
   repeat'(first|refine gw ?_)
   all_goals (refine ats ?_))
  all_goals (
   apply DW.quiet [15]
   ·decide +kernel
   ·exact stZ
   repeat'(first|refine yv' ?_|apply QL.nil)
   all_goals (show DW _ _ _ _ _ _ _ _))
  all_goals (first | (apply DW.done_thn;(·decide +kernel)) |fail)
  repeat'(first|refine gz ?_|(apply addX;(iterate 2 exact rfl);(iterate 2(first|omega));exact rfl))
  refine At.again (n + 1) (hn.next hyes) ?_ trivial (fun w' hw'=>hw'.sub subN) (by omega)
  exact outZ
end Go.Proofs.YtohbcfokihplbaaGreatDoor
namespace Go.Proofs.YtohbcfokihplbaaGreatDoor
open Go.Hb
attribute [local irreducible] LR CW At Ev thn blk finK noG again CallsTo
set_option maxRecDepth 100000
theorem t51 (x a b : Int) (w : World) : CallsTo Tryz.prog 242 [.int .i64 x,.int .i64 a,.int .i64 b] w fun v w'=>v = .bool (withinB x a b) ∧ Grew w w' := by
 refine go_in (n := 15) (St.refl _ NoF) Tryz.func242 rfl rfl ?_
 repeat'(first|refine gz ?_|(refine gs ?_ ?_;all_goals(intro hc;try simp only[hcs]at hc;try exact abz)))
 all_goals (
  (apply ret1;(·exact rfl);intro w' hS)
  refine ⟨congrArg Value.bool ?_,hS⟩
  simp [withinB, *];try omega)
def rmay (s r : Int) : Bool := !(decide (s = 0 ∧ r = 0)) && ringB s r
theorem t56 (s r : Int) (w : World) : CallsTo Tryz.prog 254 [.agg [.int .i64 s,.int .i64 r].toArray] w fun v w'=>v = .bool (rmay s r) ∧ Grew w w' := by
 refine go_in (n := 11) (St.refl _ NoF) Tryz.func254 rfl rfl ?_
 repeat'(first|refine gz ?_|refine gy fun _=>?_|(apply kq;(·exact rfl);(·intro w1 h1;exact CallsTo.q (c81 _ _ w1) h1))|(refine gs ?_ ?_;all_goals(intro hc;try simp only[hcs]at hc;try exact abz)))
 all_goals (
  (apply ret1;(·exact rfl);intro w' hS)
  refine ⟨congrArg Value.bool ?_,hS.toKeep⟩
  simp_all [rmay,ringE];try omega)
theorem t23 (s l c : Int) (w : World) : CallsTo Tryz.prog 234 [.int .i64 s,.int .i64 l,.int .i64 c] w fun v w'=>v = .int .i64 (max s (min l c)) ∧ Grew w w' := by
 refine go_in (n := 12) (St.refl _ NoF) Tryz.func234 rfl rfl ?_
 repeat'(first|refine gz ?_|(apply LR.ev;(·first | (apply Ev.min2;(·exact rfl);(·exact rfl)) | (apply Ev.max2;(·exact rfl);(·exact rfl)));(·exact rfl))|fail)
 (apply ret1;(·exact rfl);intro w' hS)
 refine ⟨congrArg (Value.int .i64) ?_,hS.toKeep⟩
 split <;> split <;> omega
structure Tk where
 r1 : Int
 r2 : Int
 hop : Int
 seq : Int
 aru : Int
 low : Int
 stamp : Int
 idle : Int
 ask : List Int
deriving DecidableEq
def Tk.cells (t : Tk) (a : Option Addr) (c : Nat) : List Value := [.int .i64 t.r1,.int .i64 t.r2,.int .i64 t.hop,.int .i64 t.seq,.int .i64 t.aru,.int .i64 t.low,.int .i64 t.stamp,.int .i64 t.idle,.slice a t.ask.length c]
def Tk.val (t : Tk) (a : Option Addr) (c : Nat) : Value := .agg (t.cells a c).toArray
def noTk : Tk := ⟨0,0,0,0,0,0,0,0,[]⟩
def Tk.headB (t : Tk) : Bool := rmay t.r1 t.r2 && withinB t.hop 1 9007199254740991 && withinB t.seq 0 9007199254740991 && withinB t.aru 0 t.seq && withinB t.low 0 8 && withinB t.stamp 0 9007199254740991 && withinB t.idle 0 9007199254740991 && decide (t.ask.length ≤ 16)
def askB (q : Int) : Int → List Int → Bool
 | _,[]=>true
 | z,x :: l=>withinB x (z + 1) q && askB q x l
def lastI (z : Int) (l : List Int) : Int := l.getLastD z
theorem askB_snoc (q : Int) : ∀ (l : List Int) (z x : Int),askB q z (l ++ [x]) = (askB q z l && withinB x (lastI z l + 1) q)
 | [],z,x=>by simp [askB,lastI]
 | y :: l,z,x=>by
  rw [List.cons_append,askB,askB,askB_snoc q l y x,Bool.and_assoc]
  congr 3
  unfold lastI
  cases l <;> simp [List.getLastD]
theorem askB_last (q : Int) : ∀ (l : List Int) (z : Int),askB q z l = true → z ≤ lastI z l ∧ (l ≠ [] → lastI z l ≤ q)
 | [],z,_=>⟨by simp [lastI],fun h=>absurd rfl h⟩
 | y :: l,z,h=>by
  rw [askB,Bool.and_eq_true] at h
  have h1 := h.1
  unfold withinB at h1
  simp only [Bool.and_eq_true,decide_eq_true_eq] at h1
  have h2 := askB_last q l y h.2
  have e : lastI z (y :: l) = lastI y l := by unfold lastI;cases l <;> simp [List.getLastD]
  rw [e]
  refine ⟨by omega,fun _=>?_⟩
  by_cases hl : l = []
  ·subst hl;simp [lastI];omega
  ·exact h2.2 hl
def tokB (t : Tk) : Bool := t.headB && askB t.seq 0 t.ask
def tokE (t : Tk) : Int := if tokB t then 0 else 2
def mayAt (t : Tk) (i : Nat) : Bool := t.headB && askB t.seq 0 (t.ask.take i)
def lastAt (t : Tk) (i : Nat) : Int := lastI 0 (t.ask.take i)
theorem lastAt_bd {t : Tk} {i : Nat} (h : mayAt t i = true) : 0 ≤ lastAt t i ∧ lastAt t i ≤ 9007199254740991 := by
 unfold mayAt at h
 rw [Bool.and_eq_true] at h
 have h2 := askB_last t.seq _ 0 h.2
 have h1 := h.1
 unfold Tk.headB withinB at h1
 simp only [Bool.and_eq_true,decide_eq_true_eq] at h1
 unfold lastAt
 by_cases hl : t.ask.take i = []
 ·rw [hl];simp [lastI]
 ·have := h2.2 hl;omega
theorem mayAt_succ {t : Tk} {i : Nat} (h : i < t.ask.length) : mayAt t (i + 1) = (mayAt t i && withinB t.ask[i] (lastAt t i + 1) t.seq) := by
 unfold mayAt lastAt
 rw [List.take_add_one,List.getElem?_eq_getElem h,Option.toList_some,askB_snoc,Bool.and_assoc]
theorem lastAt_succ {t : Tk} {i : Nat} (h : i < t.ask.length) : lastAt t (i + 1) = t.ask[i] := by
 unfold lastAt lastI
 rw [List.take_add_one,List.getElem?_eq_getElem h,Option.toList_some,List.getLastD_eq_getLast?,List.getLast?_append]
 simp
set_option maxHeartbeats 1000000 in
theorem t16 (t : Tk) (a : Option Addr) (c : Nat) (w : World) (hr : Rd w a (iv t.ask)) (hm : t.ask.length ≤ 140737488355328) :
  CallsTo Tryz.prog 241 [t.val a c] w fun v w'=>v = .int .i64 (tokE t) ∧ Grew w w' := by
 refine go_in (n := 68) (St.rd1 hr) Tryz.func241 rfl rfl ?_
 have hh : mayAt t 0 = t.headB := by simp [mayAt,askB]
 unfold Tk.headB at hh
 repeat'(first|(apply kB;(iterate 2 exact rfl);intro b0)|refine gz ?_|(apply kq;(·exact rfl);(·intro w1 h1;exact CallsTo.q (t56 _ _ w1) h1))|(apply kq;(·exact rfl);(·intro w1 h1;exact CallsTo.q (t51 _ _ _ w1) h1))|(refine gs ?_ ?_;all_goals(intro hc;try simp only[hcs]at hc;try exact abz)))
 all_goals (
  apply CW.loop [3,4,6,51,52,53,54,55,56,57,58,59,60,61,62,63,64,65] (fun i : Nat=>i ≤ t.ask.length) (fun i : Nat=>[(3,Value.bool (mayAt t i)),(4,Value.int .i64 (lastAt t i)),(51,Value.int .i64 i)]) (fun i=>St w NoF [.own b0 (.cells (t.cells a c).toArray 54 (0,0)),rdA a (iv t.ask)]) (fun i=>t.ask.length - i)
  ·intro w' hw'
   refine ⟨0,by omega,⟨?_,rfl,rfl,trivial⟩,hw'⟩
   rw [hh]
   refine congrArg Value.bool ?_
   first | (simp_all;done) | (simp_all;omega)
  intro i g hi
  by_cases hlt : i < t.ask.length
  ·obtain ⟨ba,oa,rfl⟩ := hr.form (fun e=>by have := congrArg List.length e;simp [iv] at this;simp [this] at hlt)
   repeat'(first|refine gz ?_|(apply idxX;(iterate 2 exact rfl);(iterate 2(first|omega));exact rfl)|(apply LR.ev;(·apply Ev.load_rd;(·exact rfl);(·repeat (first | exact mH _ _ | apply mT));(·exact iv_at (i := i) (by simp) (by omega)));(·exact rfl))|(apply addX;(iterate 2 exact rfl);(have := lastAt_bd (by assumption);omega);(have := lastAt_bd (by assumption);omega);exact rfl)|(apply addX;(iterate 2 exact rfl);(iterate 2(first|omega));exact rfl)|(apply kq;(·exact rfl);(·intro w1 h1;exact CallsTo.q (t51 _ _ _ w1) h1))|(refine gs ?_ ?_;all_goals(intro hc;try simp only[hcs]at hc;try exact abz)))
   all_goals (
    refine At.again (i + 1) (by omega) ?_ ⟨?_,?_,?_,trivial⟩ (fun w' hw'=>hw') (by omega)
    ·exact outZ
    ·refine congrArg Value.bool ?_
     rw [mayAt_succ hlt]
     simp_all
    ·refine congrArg (Value.int .i64) ?_
     rw [lastAt_succ hlt]
    ·refine congrArg (Value.int .i64) ?_
     simp)
  ·have hie : i = t.ask.length := by omega
   repeat'(first|refine gz ?_|(refine gs ?_ ?_;all_goals(intro hc;try simp only[hcs]at hc;try exact abz)))
   all_goals (
    (apply ret1;(·exact rfl);intro w' hS)
    refine ⟨congrArg (Value.int .i64) ?_,hS.toKeep⟩
    have hT : mayAt t i = tokB t := by unfold mayAt tokB;rw [List.take_of_length_le (by omega)]
    unfold tokE
    simp_all))
abbrev il (a : Option Addr) (c : Nat) (l : List Int) : Asrt := osl (.slice a l.length c) 3 1 l.length (iv l)
theorem iv1 (l : List Int) : (iv l).all Value.oneCell' = true := by simp [iv,Value.oneCell']
theorem rd_none0 {w : World} {a : Option Addr} {l : List Int} (hr : Rd w a (iv l)) (h : a = none) : l.length = 0 := by
 subst h
 cases l with
 | nil=>rfl
 | cons x t=>
  obtain ⟨ad,he,_⟩ := hr 0 _ rfl
  cases he
theorem t52 (a : Option Addr) (ca : Nat) (l : List Int) (w : World) (hr : Rd w a (iv l)) (hz : a = none → ca = 0) (hm : l.length ≤ 17592186043904) :
  CallsTo Tryz.prog 143 [.slice a l.length ca] w fun v w'=>∃ a' c',v = .slice a' l.length c' ∧ NewSl w w' (.slice a' l.length c') 3 1 l.length (iv l) := by
 refine go_in (n := 8) (St.rd1 hr) Tryz.func143 rfl rfl ?_
 cases a with
 | none=>
  have h0 := rd_none0 hr rfl
  repeat'(first|refine gz ?_)
  (apply ret1;(·exact rfl);intro w' hS)
  have hl : l = [] := List.eq_nil_of_length_eq_zero h0
  subst hl
  exact ⟨_,_,rfl,⟨hS.toKeep,World.ownsRow_nil _ _ _ _⟩⟩
 | some ad=>
  repeat'(first|refine gz ?_|refine gy fun _=>?_)
  refine LR.own_osl (k := 0) (sz := 1) (E := 3) (cs := []) (Sel.head _ _ _) (by simp) (by unfold maxLen;omega) ?_
  refine LR.append (xs := []) (news := iv l) rfl rfl (fun a' c'=>Sel.head _ _ _) (fun w' hw'=>hw'.rd_of (List.Mem.tail _ (List.Mem.head _))) (fun hx=>⟨rd_none0 hr hx,hz hx⟩) (by simp) (iv1 l) (by omega) (by unfold maxLen;omega) rfl ?_
  intro a' c'
  repeat'(first|refine gz ?_)
  (apply ret1;(·exact rfl);intro w' hS)
  simp only [Nat.zero_add,List.nil_append] at hS
  exact ⟨a',c',by show Value.slice a' (0 + l.length) c' = _;rw [Nat.zero_add],hS.toNew (List.Mem.head _)⟩
def newTk (r1 r2 s : Int) : Tk × Int := if rmay r1 r2 && withinB s 0 9007199254740991 then (⟨r1,r2,1,0,0,0,s,0,[]⟩,0) else (noTk,2)
theorem t22 (r1 r2 s : Int) (w : World) : CallsTo Tryz.prog 195 [.agg [.int .i64 r1,.int .i64 r2].toArray,.int .i64 s] w fun v w'=>v = .tuple [(newTk r1 r2 s).1.val none 0,.int .i64 (newTk r1 r2 s).2].toArray ∧ Grew w w' := by
 refine go_in (n := 18) (St.refl _ NoF) Tryz.func195 rfl rfl ?_
 repeat'(first|refine gz ?_|refine gy fun _=>?_|(apply kq;(·exact rfl);(·intro w1 h1;exact CallsTo.q (t56 _ _ w1) h1))|(apply kq;(·exact rfl);(·intro w1 h1;exact CallsTo.q (t51 _ _ _ w1) h1))|(refine gs ?_ ?_;all_goals(intro hc;try simp only[hcs]at hc;try exact abz)))
 all_goals (
  (apply ret2c;(·exact rfl);(·exact inferInstance);(·exact rfl);(·exact memY);(·exact rfl);intro w' hS)
  refine ⟨?_,hS.toKeep⟩
  first
  | (have e : newTk r1 r2 s = (noTk,2) := by unfold newTk;simp_all
     rw [e]
     rfl)
  | (have e : newTk r1 r2 s = (⟨r1,r2,1,0,0,0,s,0,[]⟩,0) := by unfold newTk;simp_all
     rw [e]
     rfl))
end Go.Proofs.YtohbcfokihplbaaGreatDoor
namespace Go.Proofs.YtohbcfokihplbaaGreatDoor
open Go.Hb
attribute [local irreducible] LR CW At Ev thn blk finK noG again CallsTo DW QL dnext TW DP
set_option maxRecDepth 100000
def absent (D : List Dat) (a : Int) (n : Nat) : List Int := ((List.range n).map fun k : Nat=>a + (k : Int)).filter fun s=>!hasD D s
theorem absent_succ (D : List Dat) (a : Int) (k : Nat) : absent D a (k + 1) = absent D a k ++ if hasD D (a + k) then [] else [a + (k : Int)] := by
 unfold absent
 rw [List.range_succ,List.map_append,List.filter_append]
 congr 1
 by_cases h : hasD D (a + k) = true
 ·simp [h]
 ·simp [h]
theorem absent_split (D : List Dat) (a : Int) (k : Nat) : ∀ j,absent D a (k + j) = absent D a k ++ absent D (a + k) j
 | 0=>by simp [absent]
 | j + 1=>by
  rw [← Nat.add_assoc,absent_succ,absent_split D a k j,absent_succ,List.append_assoc]
  have : a + ((k + j : Nat) : Int) = a + (k : Int) + (j : Int) := by omega
  rw [this]
theorem absent_upto {D : List Dat} {n : Int} (h : Upto D n) : ∀ k : Nat,(k : Int) ≤ n → absent D 1 k = []
 | 0,_=>rfl
 | k + 1,hk=>by rw [absent_succ,absent_upto h k (by omega),h.2 (1 + k) (by omega) (by omega)];rfl
def gapsT (D : List Dat) (high most : Int) : List Int := (absent D 1 high.toNat).take (min most 16).toNat
theorem gapsT_from {D : List Dat} {aru high : Int} (h : Upto D aru) (hh : aru ≤ high) (most : Int) : gapsT D high most = (absent D (aru + 1) (high - aru).toNat).take (min most 16).toNat := by
 unfold gapsT
 have h0 := h.1
 have e : high.toNat = aru.toNat + (high - aru).toNat := by omega
 rw [e,absent_split,absent_upto h _ (by omega),List.nil_append]
 have e2 : (1 : Int) + (aru.toNat : Int) = aru + 1 := by omega
 rw [e2]
structure Gst where
 k : Nat
 a : Option Addr
 c : Nat
set_option maxHeartbeats 2000000 in
theorem t39 (bw bm : Nat) (es : List DaA) (aru high most : Int) (w : World) (h : (wO bw bm es aru high).holds w) (hA : Upto (dats es) aru) (hh : aru ≤ high) (hm : high ≤ 9007199254740991) :
  CallsTo Tryz.prog 184 [.pointer (some ⟨bw,0,none⟩),.int .i64 most] w fun v w'=>∃ a' c',v = .slice a' (gapsT (dats es) high most).length c' ∧ NewSl w w' (.slice a' (gapsT (dats es) high most).length c') 3 1 (gapsT (dats es) high most).length (iv (gapsT (dats es) high most)) := by
 refine go_in (n := 48) (wO_in h) Tryz.func184 rfl rfl ?_
 have hA0 := hA.1
 repeat'(first|refine gz ?_|(apply kq;(·exact rfl);(·intro w1 h1;exact CallsTo.q (t58 bw bm es aru high w1 (w_out h1 memZ)) h1))|(apply LR.ev;(·first | (apply Ev.load;(·exact rfl);(·exact fun w' hw'=>w_cell hw' memZ rfl)) | (apply Ev.min2;(·exact rfl);(·exact rfl)) | (apply Ev.add;(·exact rfl);(·exact rfl);(·omega);(·omega)));(·exact rfl))|fail)
 rw [gapsT_from hA hh]
 have hmn : (if (16 : Int) < most then (16 : Int) else most) = min most 16 := by split <;> omega
 rw [hmn]
 apply CW.loop [5,6,7,8,18,19,20,21,22,23,24,25,26,27,28,29,30,31,32,33,34,35,36,37,38,39,40,41,42,43,44,45,46] (fun s : Gst=>s.k ≤ (high - aru).toNat ∧ (absent (dats es) (aru + 1) s.k).length ≤ (min most 16).toNat) (fun s=>[(5,.slice s.a (absent (dats es) (aru + 1) s.k).length s.c),(6,.int .i64 (aru + 1 + (s.k : Int)))])
  (fun s=>St w NoF [il s.a s.c (absent (dats es) (aru + 1) s.k),wR bw bm es aru high]) (fun s=>(high - aru).toNat - s.k)
 ·intro w' hw'
  exact ⟨⟨0,none,0⟩,⟨by simp,by simp [absent]⟩,⟨rfl,congrArg (Value.int .i64) (by simp),trivial⟩,hw'.nilsl 3 1⟩
 rintro ⟨k,a2,c2⟩ g1 ⟨hk,hlen⟩
 simp only at hk hlen ⊢
 have hsucc := absent_succ (dats es) (aru + 1) k
 have hfd := fnd_d es (aru + 1 + k)
 have hfh := fnd_has (dats es) (aru + 1 + k)
 rw [← hfd,Option.isSome_map] at hfh
 have hpre : ∀ j,k + j = (high - aru).toNat → ((absent (dats es) (aru + 1) k).length = (min most 16).toNat ∨ j = 0) → (absent (dats es) (aru + 1) (high - aru).toNat).take (min most 16).toNat = absent (dats es) (aru + 1) k := by
  intro j hj hc
  rw [← hj,absent_split]
  rcases hc with e | e
  ·rw [← e,List.take_left]
  ·subst e
   rw [show absent (dats es) (aru + 1 + k) 0 = [] from rfl,List.append_nil,List.take_of_length_le hlen]
 generalize absent (dats es) (aru + 1) k = L at hlen hsucc hpre ⊢
 cases hx : fnd es (aru + 1 + k) with
 | none=>
  rw [hx] at hfh
  rw [← hfh] at hsucc
  repeat'(first|(apply Go.Hb.kK;(iterate 4 exact rfl);intro bs)|refine gz ?_|refine gy fun _=>?_|(apply LR.ev;(·first | (apply Ev.load;(·exact rfl);(·exact fun w' hw'=>w_cell hw' memZ rfl)) | (apply win_no;(·exact rfl);(·exact rfl);(·exact hx);(·exact fun w' hw'=>wO_m (w_out hw' memZ))) | (apply Ev.add;(·exact rfl);(·exact rfl);(·omega);(·omega)));(·exact rfl))|(apply LR.append (xs := iv L) (news := [Value.int .i64 (aru + 1 + (k : Int))]) (m := 1);(·exact rfl);(·exact rfl);(·intro a' c';exact selZ);(·exact fun w' hw'=>hw'.rd_of_blk (mH _ _));(·exact fun hx=>by cases hx);(·exact rfl);(·exact rfl);(·omega);(·unfold maxLen;omega);(·exact rfl);(intro a3 c3))|(refine gs ?_ ?_;all_goals(intro hc;try simp only[hcs]at hc;try exact abz)))
  ·refine At.again (⟨k + 1,a3,c3⟩ : Gst) ⟨by simp only;omega,?_⟩ ?_ ⟨?_,congrArg (Value.int .i64) (by show aru + 1 + (k : Int) + 1 = aru + 1 + ((k + 1 : Nat) : Int);omega),trivial⟩ ?_ (by show (high - aru).toNat - (k + 1) < (high - aru).toNat - k;omega)
   ·simp only
    rw [hsucc]
    simp only [Option.isSome_none,Bool.false_eq_true,if_false,List.length_append,List.length_cons,List.length_nil]
    omega
   ·exact outZ
   ·simp only
    rw [hsucc]
    simp only [Option.isSome_none,Bool.false_eq_true,if_false,List.length_append,List.length_cons,List.length_nil]
    rfl
   ·intro w' hw'
    simp only
    rw [hsucc]
    simp only [Option.isSome_none,Bool.false_eq_true,if_false]
    have e : il a3 c3 (L ++ [aru + 1 + (k : Int)]) = osl (.slice a3 (L.length + 1) c3) 3 1 (L.length + 1) (iv L ++ [Value.int .i64 (aru + 1 + (k : Int))]) := by simp [il,iv]
    rw [e]
    exact hw'.sub subN
  ·(apply ret1;(·exact rfl);intro w' hS)
   rw [hpre ((high - aru).toNat - k) (by omega) (.inl (by omega))]
   exact ⟨a2,c2,rfl,hS.toNew (mH _ _)⟩
  ·(apply ret1;(·exact rfl);intro w' hS)
   rw [hpre ((high - aru).toNat - k) (by omega) (.inr (by omega))]
   exact ⟨a2,c2,rfl,hS.toNew (mH _ _)⟩
 | some x=>
  rw [hx] at hfh
  rw [← hfh] at hsucc
  simp only [Option.isSome_some,if_true,List.append_nil] at hsucc
  repeat'(first|refine gz ?_|refine gy fun _=>?_|(apply LR.ev;(·first | (apply Ev.load;(·exact rfl);(·exact fun w' hw'=>w_cell hw' memZ rfl)) | (apply win_yes;(·exact rfl);(·exact rfl);(·exact hx);(·exact fun w' hw'=>wO_m (w_out hw' memZ))) | (apply Ev.add;(·exact rfl);(·exact rfl);(·omega);(·omega)));(·exact rfl))|(refine gs ?_ ?_;all_goals(intro hc;try simp only[hcs]at hc;try exact abz)))
  ·refine At.again (⟨k + 1,a2,c2⟩ : Gst) ⟨by simp only;omega,?_⟩ ?_ ⟨?_,congrArg (Value.int .i64) (by show aru + 1 + (k : Int) + 1 = aru + 1 + ((k + 1 : Nat) : Int);omega),trivial⟩ ?_ (by show (high - aru).toNat - (k + 1) < (high - aru).toNat - k;omega)
   ·simp only
    rw [hsucc]
    exact hlen
   ·exact outZ
   ·simp only
    rw [hsucc]
    rfl
   ·intro w' hw'
    simp only
    rw [hsucc]
    exact hw'.sub subN
  ·(apply ret1;(·exact rfl);intro w' hS)
   rw [hpre ((high - aru).toNat - k) (by omega) (.inl (by omega))]
   exact ⟨a2,c2,rfl,hS.toNew (mH _ _)⟩
  ·(apply ret1;(·exact rfl);intro w' hS)
   rw [hpre ((high - aru).toNat - k) (by omega) (.inr (by omega))]
   exact ⟨a2,c2,rfl,hS.toNew (mH _ _)⟩
end Go.Proofs.YtohbcfokihplbaaGreatDoor
namespace Go.Proofs
open Go.Shelf
def Tryz.lays189_ren : Go.Shelf.Ren := ⟨fun | 189=>243 | 125=>308 | 257=>307 | 128=>352 | 129=>353 | 294=>343 | 295=>344 | 296=>345 | 297=>346 | 298=>347 | 299=>348 | 216=>349 | 300=>350 | 301=>351 | 328=>373 | 329=>374 | 330=>375 | 331=>376 | 332=>377 | 215=>147 | 343=>391 | n=>n,fun | 28=>22 | 3=>3 | 46=>96 | 0=>0 | 51=>159 | 53=>161 | 4=>4 | 183=>337 | 182=>336 | 131=>152 | 5=>5 | 9=>9 | 218=>358 | 222=>299 | 228=>370 | 229=>371 | n=>n,fun | n=>n⟩
theorem Tryz.lays189 : Go.Proofs.Lays.n189 Tryz.prog Tryz.lays189_ren := {
 mixed := by kernel_rfl
 f125 := Tryz.func308.trans (congrArg some (by kernel_rfl))
 f128 := Tryz.func352.trans (congrArg some (by kernel_rfl))
 f129 := Tryz.func353.trans (congrArg some (by kernel_rfl))
 f189 := Tryz.func243.trans (congrArg some (by kernel_rfl))
 f215 := Tryz.func147.trans (congrArg some (by kernel_rfl))
 f216 := Tryz.func349.trans (congrArg some (by kernel_rfl))
 f257 := Tryz.func307.trans (congrArg some (by kernel_rfl))
 f294 := Tryz.func343.trans (congrArg some (by kernel_rfl))
 f295 := Tryz.func344.trans (congrArg some (by kernel_rfl))
 f296 := Tryz.func345.trans (congrArg some (by kernel_rfl))
 f297 := Tryz.func346.trans (congrArg some (by kernel_rfl))
 f298 := Tryz.func347.trans (congrArg some (by kernel_rfl))
 f299 := Tryz.func348.trans (congrArg some (by kernel_rfl))
 f300 := Tryz.func350.trans (congrArg some (by kernel_rfl))
 f301 := Tryz.func351.trans (congrArg some (by kernel_rfl))
 f328 := Tryz.func373.trans (congrArg some (by kernel_rfl))
 f329 := Tryz.func374.trans (congrArg some (by kernel_rfl))
 f330 := Tryz.func375.trans (congrArg some (by kernel_rfl))
 f331 := Tryz.func376.trans (congrArg some (by kernel_rfl))
 f332 := Tryz.func377.trans (congrArg some (by kernel_rfl))
 f343 := Tryz.func391.trans (congrArg some (by kernel_rfl))
 t0 := Tryz.underlying0
 a0 := Tryz.isAgg0
 z0 := Tryz.sizeOf0
 v0 := Tryz.zeroValue0
 t3 := Tryz.underlying3
 a3 := Tryz.isAgg3
 z3 := Tryz.sizeOf3
 v3 := Tryz.zeroValue3
 t4 := Tryz.underlying4
 a4 := Tryz.isAgg4
 z4 := Tryz.sizeOf4
 v4 := Tryz.zeroValue4
 t5 := Tryz.underlying5
 a5 := Tryz.isAgg5
 z5 := Tryz.sizeOf5
 v5 := Tryz.zeroValue5
 t9 := Tryz.underlying9
 a9 := Tryz.isAgg9
 z9 := Tryz.sizeOf9
 v9 := Tryz.zeroValue9
 t28 := Tryz.underlying22
 a28 := Tryz.isAgg22
 z28 := Tryz.sizeOf22
 v28 := Tryz.zeroValue22
 t46 := Tryz.underlying96
 a46 := Tryz.isAgg96
 z46 := Tryz.sizeOf96
 v46 := Tryz.zeroValue96
 t51 := Tryz.underlying159
 a51 := Tryz.isAgg159
 z51 := Tryz.sizeOf159
 v51 := Tryz.zeroValue159
 t53 := Tryz.underlying161
 a53 := Tryz.isAgg161
 z53 := Tryz.sizeOf161
 v53 := Tryz.zeroValue161
 t131 := Tryz.underlying152
 a131 := Tryz.isAgg152
 z131 := Tryz.sizeOf152
 v131 := Tryz.zeroValue152
 t182 := Tryz.underlying336
 a182 := Tryz.isAgg336
 z182 := Tryz.sizeOf336
 v182 := Tryz.zeroValue336
 t183 := Tryz.underlying337
 a183 := Tryz.isAgg337
 z183 := Tryz.sizeOf337
 v183 := Tryz.zeroValue337
 t218 := Tryz.underlying358
 a218 := Tryz.isAgg358
 z218 := Tryz.sizeOf358
 v218 := Tryz.zeroValue358
 t222 := Tryz.underlying299
 a222 := Tryz.isAgg299
 z222 := Tryz.sizeOf299
 v222 := Tryz.zeroValue299
 t228 := Tryz.underlying370
 a228 := Tryz.isAgg370
 z228 := Tryz.sizeOf370
 v228 := Tryz.zeroValue370
 t229 := Tryz.underlying371
 a229 := Tryz.isAgg371
 z229 := Tryz.sizeOf371
 v229 := Tryz.zeroValue371 }
open Go.Sort Go.RowKit in
theorem Tryz.slices_Sort_int (blk off cap : Nat) (zs : List Int) (w : World) (hH : Holds (Value.int .i64) w blk off zs.toArray) (hblk : blk < w.heap.size) (hsz : zs.length < 4611686018427387904) :
  Calls Tryz.prog 243 #[.slice (some ⟨blk,off,none⟩) zs.length cap] w fun e w'=>
   e = .returned (.tuple #[]) ∧ ∃ n os,w' = grow (putRow (Value.int .i64) (Sort.ahead w n) blk off (zs.mergeSort fun x y=>decide (x ≤ y)).toArray) os := Any.slices_Sort_int Tryz.lays189 blk off cap zs w hH hblk hsz
def Tryz.laysNm220_ren : Go.Shelf.Ren := ⟨fun | 20=>244 | n=>n,fun | 22=>22 | 3=>3 | 4=>4 | 0=>0 | n=>n,fun | n=>n⟩
theorem Tryz.laysNm220 : Go.Proofs.Lays2.n20 Tryz.prog Tryz.laysNm220_ren := {
 mixed := by kernel_rfl
 f20 := Tryz.func244.trans (congrArg some (by kernel_rfl))
 t0 := Tryz.underlying0
 a0 := Tryz.isAgg0
 z0 := Tryz.sizeOf0
 v0 := Tryz.zeroValue0
 t3 := Tryz.underlying3
 a3 := Tryz.isAgg3
 z3 := Tryz.sizeOf3
 v3 := Tryz.zeroValue3
 t4 := Tryz.underlying4
 a4 := Tryz.isAgg4
 z4 := Tryz.sizeOf4
 v4 := Tryz.zeroValue4
 t22 := Tryz.underlying22
 a22 := Tryz.isAgg22
 z22 := Tryz.sizeOf22
 v22 := Tryz.zeroValue22
 i3 := by kernel_rfl }
open Go.RowKit Go.Lib Go.Sort in
open Go.RowKit Go.Lib Go.Sort in
theorem Tryz.slices_Compact_int (blk off cap : Nat) (zs : List Int) (w : World) (hH : Holds (Value.int .i64) w blk off zs.toArray) (hsz : zs.length ≤ 9223372036854775807) (hcap : zs.length ≤ cap) :
  Calls Tryz.prog 244 #[.slice (some ⟨blk,off,none⟩) zs.length cap] w fun e w'=>e = .returned (.slice (some ⟨blk,off,none⟩) (Lib.compact zs).length cap) ∧ ∃ q,w' = putRow (Value.int .i64) (Sort.ahead w q) blk off (Lib.compact zs ++ List.replicate (zs.length - (Lib.compact zs).length) 0).toArray := Any.slices_Compact_int Tryz.laysNm220 blk off cap zs w hH hsz hcap
open Go.RowKit Go.Lib Go.Sort in
theorem Tryz.slices_Compact_int_empty (a : Option Addr) (cap : Nat) (w : World) :
  Calls Tryz.prog 244 #[.slice a 0 cap] w fun e w'=>e = .returned (.slice a 0 cap) ∧ w' = w := Any.slices_Compact_int_empty Tryz.laysNm220 a cap w
open Go.RowKit Go.Sort in
theorem Tryz.slices_Sort_int_none (p : Option Addr) (cap : Nat) (w : World) :
  Calls Tryz.prog 243 #[.slice p 0 cap] w fun e w'=>e = .returned (.tuple #[]) ∧ w' = w := Any.slices_Sort_int_none Tryz.lays189 p cap w
end Go.Proofs
namespace Go.Proofs.YtohbcfokihplbaaGreatDoor
open Go.Hb
attribute [local irreducible] LR CW At Ev thn blk finK noG again CallsTo
set_option maxRecDepth 100000
def sortI (l : List Int) : List Int := l.mergeSort fun x y=>decide (x ≤ y)
theorem sortI_len (l : List Int) : (sortI l).length = l.length := List.length_mergeSort ..
theorem compact_len (l : List Int) : (Lib.compact l).length ≤ l.length := by
 unfold Lib.compact Lib.compactUpTo
 rw [List.length_map]
 refine Nat.le_trans (List.length_filter_le _ _) ?_
 simp
theorem callsTo_of {P : Program} {g : FuncId} {args : List Value} {w : World} {R : Ending → World → Prop} {K : Value → World → Prop} (h : Calls P g args.toArray w R) (hk : ∀ e w',R e w' → ∃ v,e = .returned v ∧ K v w') : CallsTo P g args w K :=
 by unfold CallsTo;exact Calls.mono h hk
theorem il_stay {w : World} {a : Option Addr} {c : Nat} {l : List Int} (h : w.ownsRow 0 3 1 (.slice a l.length c) l.length (iv l)) : Step (il a c l) (il a c l) w w :=
 ⟨St.refl w _,h,fun _ hk=>.inl hk⟩
theorem t53 (a : Option Addr) (c : Nat) (l : List Int) (w : World) (h : w.ownsRow 0 3 1 (.slice a l.length c) l.length (iv l)) (hm : l.length ≤ 140737488355328) :
  CallsTo Tryz.prog 243 [.slice a l.length c] w fun v w'=>v = .tuple #[] ∧ Step (il a c l) (il a c (sortI l)) w w' := by
 by_cases hl : l = []
 ·subst hl
  refine callsTo_of (Tryz.slices_Sort_int_none a c w) ?_
  rintro e w' ⟨rfl,rfl⟩
  exact ⟨_,rfl,rfl,by simpa [sortI] using il_stay h⟩
 ·rcases h.2 with ⟨he,hn⟩ | ⟨g,cap,cur,he,hb,hg,h1,h2,h3,h4⟩
  ·exact absurd (List.eq_nil_of_length_eq_zero hn) hl
  simp only [Value.slice.injEq,true_and] at he
  obtain ⟨rfl,rfl⟩ := he
  rw [Nat.mul_one] at h4
  refine callsTo_of (Tryz.slices_Sort_int g 0 c l w (holds_of_blockI hg h4) ((Array.getElem?_eq_some_iff.1 hg).1) (by omega)) ?_
  rintro e w' ⟨rfl,n,os,rfl⟩
  refine ⟨_,rfl,rfl,keep_of_grown (grownBy_sortedI _) (fun k hk=>?_),?_,fun k hk=>.inl hk⟩
  ·cases hk;exact rfl
  ·have := ownsRow_sortedI (base := 0) (n := n) (os := os) (sortI_len l) (Nat.zero_le _) hg h1 h2 h3
   show World.ownsRow _ _ _ _ _ _ _
   rw [sortI_len]
   exact this
theorem t54 (a : Option Addr) (c : Nat) (l : List Int) (w : World) (h : w.ownsRow 0 3 1 (.slice a l.length c) l.length (iv l)) (hm : l.length ≤ 140737488355328) :
  CallsTo Tryz.prog 244 [.slice a l.length c] w fun v w'=>v = .slice a (Lib.compact l).length c ∧ Step (il a c l) (il a c (Lib.compact l)) w w' := by
 by_cases hl : l = []
 ·subst hl
  refine callsTo_of (Tryz.slices_Compact_int_empty a c w) ?_
  rintro e w' ⟨rfl,rfl⟩
  exact ⟨_,rfl,rfl,il_stay h⟩
 ·rcases h.2 with ⟨he,hn⟩ | ⟨g,cap,cur,he,hb,hg,h1,h2,h3,h4⟩
  ·exact absurd (List.eq_nil_of_length_eq_zero hn) hl
  simp only [Value.slice.injEq,true_and] at he
  obtain ⟨rfl,rfl⟩ := he
  rw [Nat.mul_one] at h4
  refine callsTo_of (Tryz.slices_Compact_int g 0 c l w (holds_of_blockI hg h4) (by omega) h1) ?_
  rintro e w' ⟨rfl,n,rfl⟩
  have hk := grownBy_sortedI (w := w) (g := g) (n := n) (os := #[]) (Lib.compact l ++ List.replicate (l.length - (Lib.compact l).length) 0).toArray
  rw [Go.Sort.grow_empty] at hk
  refine ⟨_,rfl,rfl,keep_of_grown hk (fun k hk=>?_),?_,fun k hk=>.inl hk⟩
  ·cases hk;exact rfl
  ·have hlc := compact_len l
   have := ownsRow_sortedI (base := 0) (n := n) (os := #[]) (ts := Lib.compact l ++ List.replicate (l.length - (Lib.compact l).length) 0) (ss := l) (by simp;omega) (Nat.zero_le _) hg h1 h2 h3
   rw [Go.Sort.grow_empty] at this
   obtain ⟨k1,k2⟩ := this
   refine ⟨by simp,?_⟩
   rcases k2 with ⟨he,_⟩ | ⟨g',cap',cur',he,_,hg',j1,j2,j3,j4⟩
   ·cases he
   ·simp only [Value.slice.injEq,Option.some.injEq,Addr.mk.injEq,and_true,true_and] at he
    obtain ⟨rfl,rfl⟩ := he
    refine .inr ⟨g,c,cur',rfl,Nat.zero_le _,hg',by omega,j2,j3,?_⟩
    have e := congrArg (List.take ((Lib.compact l).length * 1)) j4
    rw [List.take_take,Nat.min_eq_left (by omega)] at e
    rw [e]
    simp [iv]
theorem Ev.slice_cut {P : Program} {f : Frm} {T T' E : TypeId} {x y z : Operand} {C : World → Prop} {sz by_ k c j : Nat} {a : Option Addr} [h : SliceOf P T E sz by_] (hx : f.ev x = .slice a k c) (hy : f.ev y = .int .i64 (j : Int)) (hz : f.ev z = .int .i64 (j : Int)) (h2 : j ≤ c) :
  Ev P C f (.slice T x none (some y) (some z)) T' (.slice (subA a j 0 sz) j j) := by
 unfold Ev
 intro w _ d p af g
 simp [execOp,hx,hy,hz,Instr.sliceAt,Instr.slice,Instr.sliceBounds,Instr.sliceBound,asIntOf,run_underlying h.und,size_of_slice h,h2,subA]
theorem ownsAt_cut {w : World} {E : TypeId} {sz k c l : Nat} {a : Option Addr} {xs : List Value} (h : ownsAt w E sz (.slice a k c) k xs) (hl : l ≤ k) : ownsAt w E sz (.slice a l l) l (xs.take (l * sz)) := by
 have hm : l * sz ≤ k * sz := Nat.mul_le_mul_right _ hl
 refine ⟨by rw [List.length_take,h.1];omega,?_⟩
 rcases h.2 with ⟨he,hn⟩ | ⟨g,o,cap,cur,he,hg,h1,h2,h3,h4⟩
 ·simp only [Value.slice.injEq] at he
  obtain ⟨rfl,_,rfl⟩ := he
  have : l = 0 := by omega
  subst this
  exact .inl ⟨rfl,rfl⟩
 ·simp only [Value.slice.injEq] at he
  obtain ⟨rfl,_,rfl⟩ := he
  have hm2 : l * sz ≤ c * sz := Nat.mul_le_mul_right _ (by omega)
  refine .inr ⟨g,o,l,cur,rfl,hg,by omega,by omega,by omega,?_⟩
  rw [← h4,List.take_take,Nat.min_eq_left hm]
theorem ownsAt_sub0 {w : World} {E : TypeId} {sz n c j : Nat} {a : Option Addr} {xs : List Value} (h : ownsAt w E sz (.slice a n c) n xs) : subA a j 0 sz = a := by
 rcases h.2 with ⟨he,hn⟩ | ⟨g,o,cap,cur,he,_⟩
 ·simp only [Value.slice.injEq] at he
  obtain ⟨rfl,_,rfl⟩ := he
  simp [subA]
 ·simp only [Value.slice.injEq] at he
  obtain ⟨rfl,_,rfl⟩ := he
  exact subA_zero
structure NewOd (w w' : World) (v : Value) (E : TypeId) (sz n : Nat) (xs : List Value) : Prop where
 grew : Grew w w'
 own : ownsAt w' E sz v n xs
 new : ∀ k,v.ownBlock = some k → w.heap.size ≤ k ∧ k < w'.heap.size
theorem St.newOd {w0 w w' : World} {F : Nat → Prop} {L : List Asrt} {v : Value} {E : TypeId} {sz n : Nat} {xs : List Value} (h : St w0 F L w) (hn : NewOd w w' v E sz n xs) : St w0 F (odl v E sz n xs :: L) w' :=
 h.push hn.grew hn.own (fun k hk=>hn.new k hk) (odl.dep _ _ _ _ _)
end Go.Proofs.YtohbcfokihplbaaGreatDoor
namespace Go.Proofs
open Go.Shelf
def Tryz.keysA_ren : Go.Shelf.Ren := ⟨fun | 7=>313 | 10=>355 | n=>n,fun | 23=>181 | 26=>3 | 3=>52 | 28=>312 | 0=>0 | 27=>311 | 33=>146 | 4=>4 | n=>n,fun | n=>n⟩
theorem Tryz.keysA : Go.Proofs.SlLaysZI.n7 Tryz.prog Tryz.keysA_ren := {
 mixed := by kernel_rfl
 f7 := ⟨Tryz.f313.name,by decide,Tryz.func313.trans (congrArg some (by kernel_rfl))⟩
 f10 := ⟨Tryz.f355.name,by decide,Tryz.func355.trans (congrArg some (by kernel_rfl))⟩
 t0 := Tryz.underlying0
 a0 := Tryz.isAgg0
 z0 := Tryz.sizeOf0
 v0 := Tryz.zeroValue0
 t4 := Tryz.underlying4
 a4 := Tryz.isAgg4
 z4 := Tryz.sizeOf4
 v4 := Tryz.zeroValue4
 t23 := Tryz.underlying181
 a23 := Tryz.isAgg181
 z23 := Tryz.sizeOf181
 v23 := Tryz.zeroValue181
 t26 := Tryz.underlying3
 a26 := Tryz.isAgg3
 z26 := Tryz.sizeOf3
 v26 := Tryz.zeroValue3
 t27 := Tryz.underlying311
 a27 := Tryz.isAgg311
 z27 := Tryz.sizeOf311
 v27 := Tryz.zeroValue311
 t28 := Tryz.underlying312
 a28 := Tryz.isAgg312
 z28 := Tryz.sizeOf312
 v28 := Tryz.zeroValue312
 t33 := Tryz.underlying146
 a33 := Tryz.isAgg146
 z33 := Tryz.sizeOf146
 v33 := Tryz.zeroValue146 }
def Tryz.sortedA_ren : Go.Shelf.Ren := ⟨fun | 6=>312 | 8=>354 | 9=>243 | 11=>378 | 13=>308 | 12=>307 | 23=>352 | 24=>353 | 14=>343 | 15=>344 | 16=>345 | 17=>346 | 18=>347 | 19=>348 | 20=>349 | 21=>350 | 22=>351 | 25=>373 | 26=>374 | 27=>375 | 28=>376 | 29=>377 | 30=>147 | 31=>391 | n=>n,fun | 26=>3 | 28=>312 | 24=>22 | 0=>0 | 3=>3 | 37=>96 | 48=>159 | 50=>161 | 4=>4 | 40=>337 | 39=>336 | 45=>152 | 5=>5 | 9=>9 | 51=>358 | 55=>299 | 57=>370 | 58=>371 | 33=>146 | n=>n,fun | n=>n⟩
theorem Tryz.sortedA : Go.Proofs.SlLaysZI.n6 Tryz.prog Tryz.sortedA_ren := {
 mixed := by kernel_rfl
 f6 := ⟨Tryz.f312.name,by decide,Tryz.func312.trans (congrArg some (by kernel_rfl))⟩
 f8 := ⟨Tryz.f354.name,by decide,Tryz.func354.trans (congrArg some (by kernel_rfl))⟩
 f11 := ⟨Tryz.f378.name,by decide,Tryz.func378.trans (congrArg some (by kernel_rfl))⟩
 t0 := Tryz.underlying0
 a0 := Tryz.isAgg0
 z0 := Tryz.sizeOf0
 v0 := Tryz.zeroValue0
 t24 := Tryz.underlying22
 a24 := Tryz.isAgg22
 z24 := Tryz.sizeOf22
 v24 := Tryz.zeroValue22
 t26 := Tryz.underlying3
 a26 := Tryz.isAgg3
 z26 := Tryz.sizeOf3
 v26 := Tryz.zeroValue3
 t28 := Tryz.underlying312
 a28 := Tryz.isAgg312
 z28 := Tryz.sizeOf312
 v28 := Tryz.zeroValue312
 i26 := by kernel_rfl }
end Go.Proofs
namespace Go.Proofs.YtohbcfokihplbaaGreatDoor
open Go.Hb Go.Maps Go.Sort Go.Shelf Go.RowKit
set_option maxRecDepth 100000
abbrev rU : Value → Option (DataW Unit × List MemPlace) := fun _=>some (.nil,[])
theorem sortsA (m : Nat) : AnyZI.SortsIn Tryz.prog Tryz.sortedA_ren Fence.wide m :=
 ⟨fun blk off cap ss W hH hblk hsz=>callsIn_wide.2 (Tryz.slices_Sort_int blk off cap ss W hH hblk hsz),fun p cap W=>callsIn_wide.2 (Tryz.slices_Sort_int_none p cap W)⟩
theorem ents_list (q : IntKind) : ∀ (l : List (Int × Value)) (n : Nat),(ents q n l).map (·.key) = l.map (fun x=>Value.int q x.1) ∧ (ents q n l).map (·.born) = List.range' n l.length
 | [],n=>⟨rfl,rfl⟩
 | x :: r,n=>by
  obtain ⟨h1,h2⟩ := ents_list q r (n + 1)
  simp [ents,h1,h2,List.range'_succ]
theorem key_i64 {x : Int} (h : -9223372036854775808 ≤ x ∧ x ≤ 9223372036854775807) : keyOf Tryz.prog 3 (.int .i64 x) = some (.int .i64 x) := by
 have e1 : IntKind.i64.min = -9223372036854775808 := rfl
 have e2 : IntKind.i64.max = 9223372036854775807 := rfl
 have hw : (Lit.int .i64 x).wf = true := by
  simp only [Lit.wf,e1,e2,Bool.and_eq_true,decide_eq_true_eq]
  omega
 simp [keyOf,Tryz.underlying3,mapKey,hw]
theorem keys_own {w : World} {bm : Nat} {es : List DaA} (hb : w.heap[bm]? = some (mapObj .i64 (es.map entD))) (hD : WOk (dats es)) (hl : es.length ≤ 100000) :
  ∃ D0 : DataW Unit,w.ownsMap Tryz.prog 3 rU bm es.length D0 ∧ (intKeys D0).Perm ((dats es).map Dat.seq) ∧ Maps.size D0 = es.length := by
 obtain ⟨hk,hbn⟩ := ents_list .i64 (es.map entD) 0
 have hlen : (ents .i64 0 (es.map entD)).length = es.length := by
  have := congrArg List.length hk
  simpa using this
 have hk2 : (ents .i64 0 (es.map entD)).map (·.key) = (dats es).map fun d=>Value.int .i64 d.seq := by
  rw [hk]
  simp [dats,entD,Function.comp_def]
 have hrd : ∀ x ∈ ents .i64 0 (es.map entD),∃ d ∈ dats es,x.key = .int .i64 d.seq ∧ WideElems.rd Tryz.prog 3 rU x = some (.int .i64 d.seq,.nil) := by
  intro x hx
  have : x.key ∈ (dats es).map fun d=>Value.int .i64 d.seq := by rw [← hk2];exact List.mem_map_of_mem hx
  obtain ⟨d,hd,he⟩ := List.mem_map.1 this
  have hr := hD.rng d hd
  refine ⟨d,hd,he.symm,?_⟩
  unfold WideElems.rd
  rw [← he,key_i64 (by omega)]
  rfl
 have hfit : WideElems.Fit Tryz.prog 3 rU (ents .i64 0 (es.map entD)).toArray (es.map entD).length := by
  refine ⟨by simp [hlen];unfold maxLen;omega,⟨fun x hx=>?_,?_,?_⟩,fun x hx=>?_⟩
  ·have hx : x ∈ ents .i64 0 (es.map entD) := by simpa using hx
   have : x.born ∈ List.range' 0 (es.map entD).length := by rw [← hbn];exact List.mem_map_of_mem hx
   have := List.mem_range'_1.1 this
   omega
  ·show ((ents .i64 0 (es.map entD)).map (·.born)).Nodup
   rw [hbn]
   exact List.nodup_range'
  ·show ((ents .i64 0 (es.map entD)).map (·.key)).Nodup
   rw [hk2]
   have h2 : ((dats es).map fun d=>Value.int .i64 d.seq) = ((dats es).map Dat.seq).map (Value.int .i64) := by simp
   rw [h2]
   exact List.Pairwise.map _ (fun a b hab e=>hab (by simpa using e)) hD.nodup
  ·obtain ⟨d,_,_,hr⟩ := hrd x (by simpa using hx)
   exact ⟨_,hr⟩
 have hrg : (ents .i64 0 (es.map entD)).map (WideElems.rg Tryz.prog 3 rU) = (dats es).map fun d=>((Lit.int .i64 d.seq,.nil) : Lit × DataW Unit) := by
  have h3 : ∀ x ∈ ents .i64 0 (es.map entD),WideElems.rg Tryz.prog 3 rU x = (match x.key with | .int _ s=>(Lit.int .i64 s,.nil) | _=>(Lit.bool false,.nil)) := by
   intro x hx
   obtain ⟨d,_,he,hr⟩ := hrd x hx
   unfold WideElems.rg
   rw [hr,he]
   rfl
  rw [List.map_congr_left h3]
  have h4 : (ents .i64 0 (es.map entD)).map (fun x=>(match x.key with | .int _ s=>(Lit.int .i64 s,.nil) | _=>(Lit.bool false,.nil) : Lit × DataW Unit)) = ((ents .i64 0 (es.map entD)).map (·.key)).map (fun v=>(match v with | .int _ s=>(Lit.int .i64 s,.nil) | _=>(Lit.bool false,.nil) : Lit × DataW Unit)) := by rw [List.map_map];rfl
  rw [h4,hk2,List.map_map]
  rfl
 have hperm := WideShapes.sorted_perm ((ents .i64 0 (es.map entD)).map (WideElems.rg Tryz.prog 3 rU))
 refine ⟨_,⟨_,_,hb,hfit,by simp [hlen],rfl⟩,?_,?_⟩
 ·show (List.map (fun p : Lit × DataW Unit=>Go.intOf p.1) _).Perm _
  refine (hperm.map _).trans ?_
  rw [hrg,List.map_map]
  exact List.Perm.refl _
 ·show List.length _ = _
  rw [hperm.length_eq]
  simp [hlen]
theorem below_grew {w w' : World} (h : Go.RowKit.Below w.heap.size w w') : Grew w w' :=
 ⟨h.os,h.tape,h.output,h.size,fun k hk _=>h.block k hk,fun _ h=>(by cases h),fun _ h=>(by cases h),fun _ h=>(by cases h),List.Pairwise.nil,fun _ h=>(by cases h)⟩
theorem t65 (mb : Option Nat) (w : World) : CallsTo Tryz.prog 313 [.map mb] w fun v w'=>v = .func (.func 355) #[] [.pointer (some ⟨w.heap.size,0,none⟩)].toArray ∧ w' = w.alloc (.cells #[.map mb] 181) := by
 have h := callsIn_wide.1 (AnyZI.keys_in Tryz.keysA Fence.wide 5 trivial rfl mb w)
 refine callsTo_of (g := 313) h ?_
 rintro e w' ⟨rfl,rfl⟩
 exact ⟨_,rfl,rfl,rfl⟩
theorem t64 (bm bk : Nat) (es : List DaA) (w : World) (hb : w.heap[bm]? = some (mapObj .i64 (es.map entD))) (hk : w.heap[bk]? = some (.cells #[.map (some bm)] 181 (0,0))) (hD : WOk (dats es)) (hl : es.length ≤ 100000) :
  CallsTo Tryz.prog 312 [.func (.func 355) #[] [.pointer (some ⟨bk,0,none⟩)].toArray] w fun v w'=>∃ a c,v = .slice a es.length c ∧ NewSl w w' (.slice a es.length c) 3 1 es.length (iv (sortI ((dats es).map Dat.seq))) := by
 obtain ⟨D0,hown,hperm,hsize⟩ := keys_own hb hD hl
 have hseq : SeqGives Fence.wide 2 Tryz.prog 355 #[.pointer (some ⟨bk,0,none⟩)] encZ (fun ss=>ss.Perm (intKeys D0)) (Maps.size D0) w :=
  AnyZI.keys_gives (ρ := Tryz.keysA_ren) { Tryz.keysA with } Fence.wide _ trivial rfl (by omega) bk bm es.length D0 _ (Array.getElem?_eq_some_iff.1 hk).1 (by rw [cell_own hk];rfl) hown
 have cS := AnyZI.sorted_in Tryz.sortedA Fence.wide 5 trivial trivial trivial trivial rfl (by omega) (sortsA _) (enters_of Tryz.func243 (by kernel_rfl) rfl) 355 #[.pointer (some ⟨bk,0,none⟩)] trivial (enters_of Tryz.func355 (by kernel_rfl) rfl) _ _ (by rw [hsize];unfold maxLen;omega) (by rw [hsize];omega) w hseq
 change CallsIn _ _ Tryz.prog 312 _ _ _ at cS
 refine callsTo_of (g := 312) (callsIn_wide.1 cS) ?_
 rintro e w' ⟨v,ss,rfl,hS,hrow,_,hbel⟩
 have hss : ss.length = es.length := by
  rw [hS.length_eq,hperm.length_eq]
  simp [dats]
 have hso : (ss.mergeSort fun x y=>decide (x ≤ y)) = sortI ((dats es).map Dat.seq) := mergeSort_of_perm_i (hS.trans hperm)
 rw [hso,hss] at hrow
 obtain ⟨a,c,rfl⟩ := slice_form hrow
 exact ⟨_,rfl,a,c,rfl,below_grew hbel,hrow⟩
end Go.Proofs.YtohbcfokihplbaaGreatDoor
namespace Go.Proofs.YtohbcfokihplbaaGreatDoor
open Go.Hb
attribute [local irreducible] LR CW At Ev thn blk finK noG again CallsTo DW QL dnext TW DP
set_option maxRecDepth 100000
def sqs (D : List Dat) : List Int := sortI (D.map Dat.seq)
def abvS (D : List Dat) (q : Int) (S : List Int) : List Dat := (S.filter fun s=>decide (q < s)).map (getT D)
def abvT (D : List Dat) (q : Int) : List Dat := abvS D q (sqs D)
theorem abvS_snoc (D : List Dat) (q : Int) (S : List Int) (s : Int) : abvS D q (S ++ [s]) = abvS D q S ++ if q < s then [getT D s] else [] := by
 unfold abvS
 rw [List.filter_append,List.map_append]
 congr 1
 by_cases h : q < s <;> simp [h]
theorem sqs_len (D : List Dat) : (sqs D).length = D.length := by unfold sqs;rw [sortI_len,List.length_map]
theorem mem_sqs {D : List Dat} {s : Int} : s ∈ sqs D ↔ hasD D s = true := by
 unfold sqs sortI
 rw [List.mem_mergeSort,has_iff,List.mem_map]
theorem abvS_len (D : List Dat) (q : Int) (S : List Int) : (abvS D q S).length ≤ S.length := by
 unfold abvS
 rw [List.length_map]
 exact List.length_filter_le _ _
theorem take_snocI {L : List Int} {k : Nat} (h : k < L.length) : L.take (k + 1) = L.take k ++ [L[k]] := by
 rw [List.take_add_one,List.getElem?_eq_getElem h]
 rfl
abbrev dS (a : Option Addr) (c : Nat) (o : List DaA) : Asrt := osl (.slice a o.length c) 52 18 o.length (o.flatMap DaA.row)
def dO (a : Option Addr) (c : Nat) (o : List DaA) : Asrt := both (dS a c o) (bunD o)
theorem dO_dep (a : Option Addr) (c : Nat) (o : List DaA) : (dO a c o).dep := both_dep (osl.dep _ _ _ _ _) (bun_dep DaA.dep o)
theorem dS_snoc (a : Option Addr) (c : Nat) (o : List DaA) (x : DaA) : osl (.slice a (o.length + 1) c) 52 18 (o.length + 1) (o.flatMap DaA.row ++ x.row) = dS a c (o ++ [x]) := by simp [dS]
theorem dats_snoc (o : List DaA) (x : DaA) : dats (o ++ [x]) = dats o ++ [x.d] := by simp [dats]
theorem t65n (mb : Option Nat) (w : World) : CallsTo Tryz.prog 313 [.map mb] w fun v w'=>∃ bk,v = .func (.func 355) #[] [.pointer (some ⟨bk,0,none⟩)].toArray ∧ New1 (.own bk (.cells [.map mb].toArray 181 (0,0))) w w' := by
 refine (t65 mb w).mono ?_
 rintro v w2 ⟨rfl,rfl⟩
 exact ⟨_,rfl,St.new1 ((St.refl w NoF).alloc (.cells [.map mb].toArray 181 (0,0))) rfl⟩
theorem win_get {C : World → Prop} {f : Frm} {x y : Operand} {T' : TypeId} {bm : Nat} {es : List DaA} {s : Int} {e : DaA} (hx : f.ev x = .map (some bm)) (hy : f.ev y = .int .i64 s) (hn : fnd es s = some e) (hC : ∀ w,C w → w.heap[bm]? = some (mapObj .i64 (es.map entD))) :
  Ev Tryz.prog C f (.lookup 181 x y false) T' (e.d.val e.a e.c) := by
 have := Ev.lookup1C (P := Tryz.prog) (C := C) (T := 181) (T' := T') (l := es.map entD) (r := findI s (es.map entD) 0) hx hy hC rfl
 rw [findI_fnd,hn] at this
 exact this
theorem d_push {w0 w : World} {F : Nat → Prop} {R : List Asrt} {a : Option Addr} {c : Nat} {o : List DaA} {x : DaA} (h : St w0 F (x.body :: osl (.slice a (o.length + 1) c) 52 18 (o.length + 1) (o.flatMap DaA.row ++ x.row) :: bunD o :: R) w) : St w0 F (dS a c (o ++ [x]) :: bunD (o ++ [x]) :: R) w := by
 have h1 : St w0 F (bunD o :: x.body :: osl (.slice a (o.length + 1) c) 52 18 (o.length + 1) (o.flatMap DaA.row ++ x.row) :: R) w := front h 2 rfl rfl
 have h2 : St w0 F (x.body :: bunD o :: osl (.slice a (o.length + 1) c) 52 18 (o.length + 1) (o.flatMap DaA.row ++ x.row) :: R) w := front h1 1 rfl rfl
 have h3 := h2.bun_snoc DaA.dep DaA.ex
 rw [dS_snoc] at h3
 exact front h3 1 rfl rfl
structure Ast where
 k : Nat
 o : List DaA
 a : Option Addr
 c : Nat
set_option maxHeartbeats 2000000 in
theorem t34 (bw bm : Nat) (es : List DaA) (aru high q : Int) (w : World) (h : (wO bw bm es aru high).holds w) (hD : WOk (dats es)) (hl : es.length ≤ 100000) :
  CallsTo Tryz.prog 252 [.pointer (some ⟨bw,0,none⟩),.int .i64 q] w fun v w'=>∃ a' c' o,v = .slice a' o.length c' ∧ dats o = abvT (dats es) q ∧ New1 (dO a' c' o) w w' := by
 refine go_in (n := 36) (wO_in h) Tryz.func252 rfl rfl ?_
 repeat'(first|refine gz ?_|(apply kq;(·exact rfl);(·intro w1 h1;exact CallsTo.q (t58 bw bm es aru high w1 (w_out h1 memZ)) h1))|(apply LR.ev;(·apply Ev.load;(·exact rfl);(·exact fun w' hw'=>w_cell hw' memZ rfl));(·exact rfl))|fail)
 apply LR.call
 ·exact rfl
 intro w1 h1
 refine (t65n (some bm) w1).mono ?_
 rintro v w2 ⟨bk,rfl,hn⟩
 refine LR.back (h1.got hn (Asrt.dep_own _ _)) ?_
 clear hn h1
 apply LR.call
 ·exact rfl
 intro w1 h1
 refine (t64 bm bk es w1 (wO_m (w_out h1 memZ)) (h1.own_at memZ) hD hl).mono ?_
 rintro v w2 ⟨ak,ck,rfl,hn⟩
 have hrk : Rd w2 ak (iv (sqs (dats es))) := ownsRow_rd hn.own
 refine LR.back (h1.newSl hn) ?_
 clear hn h1
 have hSl : (sqs (dats es)).length = es.length := by rw [sqs_len];simp [dats]
 have hSm : ∀ s,s ∈ sqs (dats es) → hasD (dats es) s = true := fun s hs=>mem_sqs.1 hs
 have hab : abvT (dats es) q = abvS (dats es) q (sqs (dats es)) := rfl
 rw [hab]
 change LR _ _ _ _ _ _ _ (St w NoF (osl (.slice ak es.length ck) 3 1 es.length (iv (sqs (dats es))) :: _))
 generalize hSS : sqs (dats es) = S at hSl hSm hrk ⊢
 rw [← hSl] at hl ⊢
 repeat'(first|refine gz ?_)
 apply CW.loop [5,7,17,18,19,20,21,22,23,24,25,26,27,28,29,30,31,32,33,34] (fun s : Ast=>s.k ≤ S.length ∧ s.o.length ≤ s.k ∧ dats s.o = abvS (dats es) q (S.take s.k)) (fun s=>[(5,.slice s.a s.o.length s.c),(17,.int .i64 (s.k : Int))])
  (fun s=>St w NoF [dS s.a s.c s.o,bunD s.o,il ak ck S,wR bw bm es aru high]) (fun s=>S.length - s.k)
 ·intro w' hw'
  refine ⟨⟨0,[],none,0⟩,⟨by simp,by simp,rfl⟩,⟨rfl,rfl,trivial⟩,?_⟩
  have h1 := (hw'.bun_nil DaA.dep).nilsl 52 18
  exact h1.sub subN
 rintro ⟨k,o,a,c⟩ g' ⟨hk,hok,ho⟩
 simp only at hk hok ho ⊢
 by_cases hlt : k < S.length
 ·obtain ⟨x,hx⟩ : ∃ x,fnd es S[k] = some x := by
   have h1 := fnd_has (dats es) S[k]
   rw [hSm _ (List.getElem_mem hlt),← fnd_d,Option.isSome_map] at h1
   exact Option.isSome_iff_exists.1 h1
  have hxm := (fnd_mem hx).1
  have hxd : getT (dats es) S[k] = x.d := by unfold getT;rw [← fnd_d,hx];rfl
  have hxl : x.d.msg.body.length ≤ 140737488351232 := hD.len _ (List.mem_map_of_mem hxm)
  obtain ⟨bg,og,rfl⟩ := hrk.form (fun e=>by have h2 := congrArg List.length e;simp only [iv_length,List.length_nil] at h2;omega)
  have hsn := abvS_snoc (dats es) q (S.take k) S[k]
  rw [← take_snocI hlt,hxd,← ho] at hsn
  repeat'(first|refine gz ?_|refine gy fun _=>?_|(apply idxX;(iterate 2 exact rfl);(iterate 2(first|omega));exact rfl)|(apply LR.ev;(·first | (apply Ev.load_osl;(·exact rfl);(·exact memZ);(·exact iv_at (i := k) (by simp) (by omega))) | (apply Ev.load;(·exact rfl);(·exact fun w' hw'=>w_cell hw' memZ rfl)) | (apply win_get;(·exact rfl);(·exact rfl);(·exact hx);(·exact fun w' hw'=>wO_m (w_out hw' memZ))));(·exact rfl))|(apply addX;(iterate 2 exact rfl);(iterate 2(first|omega));exact rfl)|(apply LR.call;(·exact rfl);(intro w1 h1;refine (t61 x.d x.a x.c w1 (wO_b (w_out h1 memZ) hxm) (body_nz ((w_out h1 memZ).2.1.1 x hxm)) (by omega)).mono ?_;rintro v w2 ⟨a2,c2,rfl,hn⟩;refine LR.back (h1.newSl hn) ?_;clear hn h1))|(apply LR.append (xs := o.flatMap DaA.row) (news := DaA.row ⟨x.d,a2,c2⟩) (m := 1);(·exact rfl);(·exact rfl);(·intro a' c';exact selZ);(·exact fun w' hw'=>hw'.rd_of_blk (mH _ _));(·exact fun hx=>by cases hx);(·exact rfl);(·simp [DaA.row,Dat.cells,Msg.cells,Value.oneCell']);(·omega);(·unfold maxLen;omega);(·exact rfl);(intro a3 c3))|(refine gs ?_ ?_;all_goals(intro hc;try simp only[hcs]at hc;try exact abz)))
  ·rw [if_pos (by omega)] at hsn
   refine At.again (⟨k + 1,o ++ [⟨x.d,a2,c2⟩],a3,c3⟩ : Ast) ⟨by simp only;omega,by simp;omega,by rw [dats_snoc,hsn]⟩ ?_ ⟨?_,rfl,trivial⟩ ?_ (by simp only;omega)
   ·exact outZ
   ·show Value.slice a3 (o.length + 1) c3 = .slice a3 (o ++ [(⟨x.d,a2,c2⟩ : DaA)]).length c3
    simp
   ·intro w' hw'
    exact (d_push (x := ⟨x.d,a2,c2⟩) hw'.tail1).sub subN
  ·rw [if_neg (by omega),List.append_nil] at hsn
   refine At.again (⟨k + 1,o,a,c⟩ : Ast) ⟨by simp only;omega,by simp only;omega,hsn.symm⟩ ?_ ⟨rfl,rfl,trivial⟩ (fun w' hw'=>hw'.sub subN) (by simp only;omega)
   exact outZ
 ·have hke : k = S.length := by omega
  subst hke
  rw [List.take_length] at ho
  repeat'(first|refine gz ?_|(refine gs ?_ ?_;all_goals(intro hc;try simp only[hcs]at hc;try exact abz)))
  (apply ret1;(·exact rfl);intro w' hS)
  refine ⟨a,c,o,rfl,ho,?_⟩
  have h1 : St w NoF (dO a c o :: il ak ck S :: wR bw bm es aru high :: []) w' := St.join hS rfl rfl
  exact St.new1 h1 rfl
section
variable {b c : Nat} {a : Option Addr} {es : List DaA} {top : Int} {w : World}
end
theorem sqs_asc {D : List Dat} (h : WOk D) : (sqs D).Pairwise (·< ·) := by
 have h1 : (sqs D).Pairwise (·≤ ·) := by
  have := List.pairwise_mergeSort (le := fun x y : Int=>decide (x ≤ y)) (fun a b c h1 h2=>by simp only [decide_eq_true_eq] at *;omega) (fun a b=>by simp only [Bool.or_eq_true,decide_eq_true_eq];omega) (D.map Dat.seq)
  exact this.imp (fun hab=>by simpa using hab)
 have h2 : (sqs D).Nodup := (List.mergeSort_perm _ _).nodup_iff.2 h.nodup
 exact (h1.and h2).imp (fun ⟨ha,hb⟩=>by omega)
end Go.Proofs.YtohbcfokihplbaaGreatDoor
