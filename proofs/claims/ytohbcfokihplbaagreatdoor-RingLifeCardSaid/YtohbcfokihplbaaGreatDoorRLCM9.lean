/-
  A node of a ring: a join comes.
-/
import Derived.Test.YtohbcfokihplbaaGreatDoorRLCM8
set_option linter.unusedSimpArgs false
set_option linter.unusedVariables false
namespace Go.Proofs.YtohbcfokihplbaaGreatDoor
open Go.Hb
attribute [local irreducible] LR CW At Ev thn blk finK noG again CallsTo DW QL dnext TW DP
set_option maxRecDepth 100000
theorem idx_first (D : List Int) (P : Int → Bool) : ∃ i0,i0 ≤ D.length ∧ (∀ k,k < i0 → ∀ y,D[k]? = some y → P y = false) ∧ (∀ y,D[i0]? = some y → P y = true) := by
 induction D with
 | nil=>exact ⟨0,Nat.le_refl _,fun k hk=>by omega,fun y hy=>by cases hy⟩
 | cons z D ih=>
  cases hz : P z with
  | true=>exact ⟨0,Nat.zero_le _,fun k hk=>by omega,fun y hy=>by simp at hy;rw [← hy];exact hz⟩
  | false=>
   obtain ⟨i,h1,h2,h3⟩ := ih
   refine ⟨i + 1,by simp;omega,fun k hk y hy=>?_,fun y hy=>h3 y (by simpa using hy)⟩
   cases k with
   | zero=>simp at hy;rw [← hy];exact hz
   | succ k=>exact h2 k (by omega) y (by simpa using hy)
theorem iv_cell {w : World} {ba oa : Nat} {l : List Int} {i : Nat} {x : Int} (h : Rd w (some ⟨ba,oa,none⟩) (iv l)) (hx : l[i]? = some x) {q : Nat} (hq : q = oa + i) : w.cell? ⟨ba,q,none⟩ = some (.int .i64 x) := by
 subst hq
 exact h.cell (j := i) (v := .int .i64 x) (by unfold iv;rw [List.getElem?_map,hx];rfl)
theorem r342 (a : Option Addr) (c : Nat) (l : List Int) (v : Int) (w : World) (hk : Rd w a (iv l)) (hm : l.length ≤ 140737488355328) :
  CallsTo Tryz.prog 342 [.slice a l.length c,.int .i64 v] w fun u w'=>(∃ i : Int,u = .int .i64 i ∧ (0 ≤ i ↔ v ∈ l)) ∧ Grew w w' := by
 obtain ⟨i0,hi0,hno,hend⟩ := idx_first l (fun y=>decide (y = v))
 refine go_in (n := 19) (St.rd1 hk) Tryz.func342 rfl rfl ?_
 repeat'(first|refine gz ?_)
 apply CW.loop [4,5,8,9,10,11,12,13,14,15,16,17,18] (fun i : Nat=>i ≤ i0) (fun i=>[(8,.int .i64 (i : Int))]) (fun _=>St w NoF [rdA a (iv l)]) (fun i=>i0 - i)
 ·exact fun w' hw'=>⟨0,by omega,⟨rfl,trivial⟩,hw'⟩
 intro i g hi
 by_cases hlt : i < l.length
 ·obtain ⟨ba,oa,rfl⟩ := hk.form (fun e=>by have h1 := congrArg List.length e;simp [iv] at h1;rw [h1] at hlt;simp at hlt)
  obtain ⟨y,hy⟩ : ∃ y,l[i] = y := ⟨_,rfl⟩
  have hly : l[i]? = some y := by rw [List.getElem?_eq_getElem hlt,hy]
  by_cases hx : y = v
  ·repeat'(first|refine gz ?_|(apply idxX;(iterate 2 exact rfl);(iterate 2(first|omega));exact rfl)|(apply LR.ev;(·apply Ev.load;(·exact rfl);(·intro w' hw';refine iv_cell (hw'.rd_of memZ) hly ?_;(·simp;done)));(·exact rfl))|(refine gs ?_ ?_;all_goals(intro hc;try simp only[hcs]at hc;try exact abz)))
   all_goals (try (exfalso;omega))
   (apply ret1;(·exact rfl);intro w' hS)
   exact ⟨⟨i,rfl,by constructor;(·intro _;rw [← hx];exact List.mem_of_getElem? hly);(·intro _;omega)⟩,hS.toKeep⟩
  ·have hlt2 : i < i0 := by
    rcases Nat.lt_or_ge i i0 with h | h
    ·exact h
    ·have e : i = i0 := by omega
     subst e
     have := hend y hly
     simp at this
     exact absurd this hx
   repeat'(first|refine gz ?_|(apply idxX;(iterate 2 exact rfl);(iterate 2(first|omega));exact rfl)|(apply addX;(iterate 2 exact rfl);(iterate 2(first|omega));exact rfl)|(apply LR.ev;(·apply Ev.load;(·exact rfl);(·intro w' hw';refine iv_cell (hw'.rd_of memZ) hly ?_;(·simp;done)));(·exact rfl))|(refine gs ?_ ?_;all_goals(intro hc;try simp only[hcs]at hc;try exact abz)))
   all_goals (try (exfalso;omega))
   refine At.again (i + 1) (by omega) ?_ ⟨rfl,trivial⟩ (fun w' hw'=>hw') (by omega)
   exact outZ
 ·have hie : i = l.length := by omega
  subst hie
  repeat'(first|refine gz ?_|(refine gs ?_ ?_;all_goals(intro hc;try simp only[hcs]at hc;try exact abz)))
  (apply ret1;(·exact rfl);intro w' hS)
  refine ⟨⟨-1,rfl,?_⟩,hS.toKeep⟩
  constructor
  ·intro h;omega
  ·intro h
   obtain ⟨k,hk2,hke⟩ := List.getElem_of_mem h
   have := hno k (by omega) v (by rw [List.getElem?_eq_getElem hk2,hke])
   simp at this
theorem r303 (a : Option Addr) (c : Nat) (l : List Int) (v : Int) (w : World) (hk : Rd w a (iv l)) (hm : l.length ≤ 140737488355328) :
  CallsTo Tryz.prog 303 [.slice a l.length c,.int .i64 v] w fun u w'=>u = .bool (decide (v ∈ l)) ∧ Grew w w' := by
 refine go_in (n := 9) (St.rd1 hk) Tryz.func303 rfl rfl ?_
 repeat'(first|refine gz ?_|(apply LR.call;(·exact rfl);(intro w1 h1;refine CallsTo.mono (r342 a c l v w1 (h1.rd_of memZ) hm) ?_;rintro u w2 ⟨⟨i,rfl,hi⟩,hg⟩;refine LR.back (h1.grew hg) ?_;clear h1 hg))|fail)
 (apply ret1;(·exact rfl);intro w' hS)
 refine ⟨congrArg Value.bool ?_,hS.toKeep⟩
 rw [Bool.eq_iff_iff,decide_eq_true_eq]
 simpa using hi
theorem r302 (y : Int) (bx : Nat) (a : Option Addr) (c : Nat) (l : List Int) (w : World) (hb : Rd w (some ⟨bx,0,none⟩) [.slice a l.length c]) (hk : Rd w a (iv l)) (hm : l.length ≤ 140737488355328) :
  CallsTo Tryz.prog 302 [.int .i64 y,.pointer (some ⟨bx,0,none⟩)] w fun v w'=>v = .bool (decide (y ∈ l)) ∧ Grew w w' := by
 refine go_in (n := 7) (St.rd2 hb hk) Tryz.func302 rfl rfl ?_
 repeat'(first|refine gz ?_|(apply kq;(·exact rfl);(·intro w1 h1;exact CallsTo.q (r303 a c l y w1 (h1.rd_of memZ) hm) h1))|fail)
 (apply ret1;(·exact rfl);intro w' hS)
 exact ⟨rfl,hS.toKeep⟩
theorem r341 (a : Option Addr) (c : Nat) (D : List Int) (bx : Nat) (ah : Option Addr) (ch : Nat) (l : List Int) (w : World) (hk : Rd w a (iv D)) (hb : Rd w (some ⟨bx,0,none⟩) [.slice ah l.length ch]) (hl : Rd w ah (iv l)) (hm : D.length ≤ 140737488355328) (hml : l.length ≤ 140737488355328)
  (i0 : Nat) (h0 : i0 ≤ D.length) (hno : ∀ k,k < i0 → ∀ y,D[k]? = some y → decide (y ∈ l) = false) (hend : ∀ y,D[i0]? = some y → decide (y ∈ l) = true) :
  CallsTo Tryz.prog 341 [.slice a D.length c,.func (.func 302) #[] #[.pointer (some ⟨bx,0,none⟩)]] w fun v w'=>v = .int .i64 (if i0 < D.length then (i0 : Int) else -1) ∧ Grew w w' := by
 refine go_in (n := 19) (((St.rd1 hk).addRd hl (fun _ _ h=>h)).addRd hb (fun _ _ h=>h)) Tryz.func341 rfl rfl ?_
 repeat'(first|refine gz ?_)
 apply CW.loop [4,5,8,9,10,11,12,13,14,15,16,17,18] (fun i : Nat=>i ≤ i0) (fun i=>[(8,.int .i64 (i : Int))]) (fun _=>St w NoF [rdA (some ⟨bx,0,none⟩) [.slice ah l.length ch],rdA ah (iv l),rdA a (iv D)]) (fun i=>i0 - i)
 ·exact fun w' hw'=>⟨0,by omega,⟨rfl,trivial⟩,hw'⟩
 intro i g hi
 by_cases hlt : i < D.length
 ·obtain ⟨ba,oa,rfl⟩ := hk.form (fun e=>by have h1 := congrArg List.length e;simp [iv] at h1;rw [h1] at hlt;simp at hlt)
  obtain ⟨y,hy⟩ : ∃ y,D[i] = y := ⟨_,rfl⟩
  have hly : D[i]? = some y := by rw [List.getElem?_eq_getElem hlt,hy]
  cases hx : decide (y ∈ l)
  ·have hlt2 : i < i0 := by
    rcases Nat.lt_or_ge i i0 with h | h
    ·exact h
    ·have e : i = i0 := by omega
     subst e
     rw [hend y hly] at hx
     cases hx
   repeat'(first|refine gz ?_|(apply idxX;(iterate 2 exact rfl);(iterate 2(first|omega));exact rfl)|(apply addX;(iterate 2 exact rfl);(iterate 2(first|omega));exact rfl)|(apply LR.ev;(·apply Ev.load;(·exact rfl);(·intro w' hw';refine iv_cell (hw'.rd_of memZ) hly ?_;(·simp;done)));(·exact rfl))|(apply LR.qcall_val (g := 302) (cap := [.pointer (some ⟨bx,0,none⟩)]) (v := .bool false);(·exact rfl);(·exact rfl);(·intro w1 h1;have hq := CallsTo.q (r302 y bx ah ch l w1 (h1.rd_of memZ) (h1.rd_of memZ) hml) h1;rw [hx] at hq;exact hq))|(refine gs ?_ ?_;all_goals(intro hc;try simp only[hcs]at hc;try exact abz)))
   refine At.again (i + 1) (by omega) ?_ ⟨rfl,trivial⟩ (fun w' hw'=>hw') (by omega)
   exact outZ
  ·have hie : i = i0 := by
    rcases Nat.lt_or_ge i i0 with h | h
    ·have := hno i h y hly
     rw [hx] at this
     cases this
    ·omega
   subst hie
   rw [if_pos hlt]
   repeat'(first|refine gz ?_|(apply idxX;(iterate 2 exact rfl);(iterate 2(first|omega));exact rfl)|(apply LR.ev;(·apply Ev.load;(·exact rfl);(·intro w' hw';refine iv_cell (hw'.rd_of memZ) hly ?_;(·simp;done)));(·exact rfl))|(apply LR.qcall_val (g := 302) (cap := [.pointer (some ⟨bx,0,none⟩)]) (v := .bool true);(·exact rfl);(·exact rfl);(·intro w1 h1;have hq := CallsTo.q (r302 y bx ah ch l w1 (h1.rd_of memZ) (h1.rd_of memZ) hml) h1;rw [hx] at hq;exact hq))|(refine gs ?_ ?_;all_goals(intro hc;try simp only[hcs]at hc;try exact abz)))
   (apply ret1;(·exact rfl);intro w' hS)
   exact ⟨rfl,hS.toKeep⟩
 ·have hie : i = D.length := by omega
  subst hie
  rw [if_neg (by omega)]
  repeat'(first|refine gz ?_|(refine gs ?_ ?_;all_goals(intro hc;try simp only[hcs]at hc;try exact abz)))
  (apply ret1;(·exact rfl);intro w' hS)
  exact ⟨rfl,hS.toKeep⟩
theorem take_filter {α : Type} (l : List α) (f : α → Bool) {k : Nat} (h : k < l.length) : (l.take (k + 1)).filter f = (l.take k).filter f ++ if f (l[k]'h) then [l[k]'h] else [] := by
 rw [List.take_add_one,List.getElem?_eq_getElem h,List.filter_append]
 congr 1
 show [l[k]].filter f = _
 rw [List.filter_cons]
 rfl
theorem iv_length (l : List Int) : (iv l).length = l.length := by unfold iv;simp
theorem splice_iv (bs : List Int) (i : Nat) (x : Int) (h : i < bs.length) : splice (iv bs) i [.int .i64 x] = iv (bs.set i x) := by
 unfold splice iv
 simp only [List.length_cons,List.length_nil,List.map_set]
 rw [List.set_eq_take_append_cons_drop,if_pos (by simpa using h)]
 simp
abbrev iN (a : Option Addr) (n c : Nat) (D : List Int) : Asrt := osl (.slice a n c) 3 1 n (iv D)
theorem put_int {b o n c q : Nat} {bs : List Int} (x : Int) {i : Nat} (h : i < bs.length) (hq : q = o + i) :
  Stores Tryz.prog 3 ⟨b,q,none⟩ (.int .i64 x) (iN (some ⟨b,o,none⟩) n c bs) (iN (some ⟨b,o,none⟩) n c (bs.set i x)) := by
 subst hq
 have st := Stores.osl (P := Tryz.prog) (T := 3) (q := 1) (b := b) (o := o) (i := i) (n := n) (c := c) (v := .int .i64 x) (vs := [.int .i64 x]) (xs := iv bs) (E := 3) (sz := 1) inferInstance rfl rfl rfl (by rw [iv_length];show i + 1 ≤ _;omega)
 rwa [splice_iv _ _ _ h] at st
theorem subA00 {b o c sz : Nat} : subA (some ⟨b,o,none⟩) c 0 sz = some ⟨b,o,none⟩ := by
 unfold subA
 split <;> simp_all [Addr.add]
def noI (D l : List Int) : List Int := D.filter fun y=>!decide (y ∈ l)
structure DelJ (D l : List Int) (j i : Nat) (D' : List Int) : Prop where
 ij : i < j
 jl : j ≤ D.length
 len : D'.length = D.length
 pre : D'.take i = noI (D.take j) l
 suf : ∀ k,j ≤ k → D'[k]? = D[k]?
theorem DelJ.skip {D D' l : List Int} {j i : Nat} (h : DelJ D l j i D') (hj : j < D.length) (hx : decide (D[j]'hj ∈ l) = true) : DelJ D l (j + 1) i D' := by
 refine ⟨by have := h.ij;omega,hj,h.len,?_,fun k hk=>h.suf k (by omega)⟩
 rw [h.pre]
 unfold noI
 rw [take_filter D _ hj,if_neg (by rw [hx];simp),List.append_nil]
theorem DelJ.keep {D D' l : List Int} {j i : Nat} (h : DelJ D l j i D') (hj : j < D.length) (hx : decide (D[j]'hj ∈ l) = false) : DelJ D l (j + 1) (i + 1) (D'.set i (D[j]'hj)) := by
 have hij := h.ij
 have hl := h.len
 refine ⟨by omega,hj,by rw [List.length_set];exact hl,?_,fun k hk=>?_⟩
 ·rw [List.take_add_one,List.getElem?_set_self (by omega),List.take_set_of_le (Nat.le_refl _),h.pre]
  unfold noI
  rw [take_filter D _ hj,if_pos (by rw [hx];rfl)]
  rfl
 ·rw [List.getElem?_set_ne (by omega)]
  exact h.suf k (by omega)
set_option maxHeartbeats 2000000 in
theorem r301 (a : Option Addr) (c : Nat) (D : List Int) (bx : Nat) (ah : Option Addr) (ch : Nat) (l : List Int) (w : World) (h : (iN a D.length c D).holds w) (hb : Rd w (some ⟨bx,0,none⟩) [.slice ah l.length ch]) (hl : Rd w ah (iv l))
  (hd1 : ∀ k,rdFoot (some ⟨bx,0,none⟩) [Value.slice ah l.length ch] k → ¬ (iN a D.length c D).foot k) (hd2 : ∀ k,rdFoot ah (iv l) k → ¬ (iN a D.length c D).foot k) (hm : D.length ≤ 140737488355328) (hml : l.length ≤ 140737488355328) :
  CallsTo Tryz.prog 301 [.slice a D.length c,.func (.func 302) #[] #[.pointer (some ⟨bx,0,none⟩)]] w fun v w'=>v = .slice a (noI D l).length c ∧ Step (iN a D.length c D) (iN a (noI D l).length c (noI D l)) w w' := by
 have hown : w.ownsRow 0 3 1 (.slice a D.length c) D.length (iv D) := h
 have hcap := ownsRow_cap hown
 have hS0 : St w (iN a D.length c D).foot [rdA (some ⟨bx,0,none⟩) [.slice ah l.length ch],rdA ah (iv l),iN a D.length c D] w := ((St.one h (fun k hk=>(World.ownsRow.lt h k hk).2) (osl.dep _ _ _ _ _)).addRd hl hd2).addRd hb hd1
 generalize hF : (iN a D.length c D).foot = F at *
 refine go_in (n := 42) hS0 Tryz.func301 rfl rfl ?_
 obtain ⟨i0,hi0,hno,hend⟩ := idx_first D (fun y=>decide (y ∈ l))
 have h88 : ∀ w1,St w F [rdA (some ⟨bx,0,none⟩) [.slice ah l.length ch],rdA ah (iv l),iN a D.length c D] w1 → CallsTo Tryz.prog 341 [.slice a D.length c,.func (.func 302) #[] #[.pointer (some ⟨bx,0,none⟩)]] w1 fun v w'=>v = .int .i64 (if i0 < D.length then (i0 : Int) else -1) ∧ St w F [rdA (some ⟨bx,0,none⟩) [.slice ah l.length ch],rdA ah (iv l),iN a D.length c D] w' := fun w1 h1=>
  CallsTo.q (r341 a c D bx ah ch l w1 (h1.rd_of_own memZ) (h1.rd_of memZ) (h1.rd_of memZ) hm hml i0 hi0 hno hend) h1
 by_cases hlt : i0 < D.length
 rotate_left
 ·rw [if_neg hlt] at h88
  have hnn : noI D l = D := by
   unfold noI
   rw [List.filter_eq_self]
   intro y hy
   obtain ⟨k,hk,rfl⟩ := List.getElem_of_mem hy
   have := hno k (by omega) _ (List.getElem?_eq_getElem hk)
   rw [this]
   rfl
  rw [hnn]
  repeat'(first|refine gz ?_|(apply kq;(·exact rfl);(·intro w1 h1;exact h88 w1 h1))|fail)
  (apply ret1;(·exact rfl);intro w' hS)
  subst hF
  exact ⟨rfl,(hS.sub (L' := [iN a D.length c D]) subN).step rfl⟩
 rw [if_pos hlt] at h88
 obtain ⟨ba,oa,rfl⟩ := (ownsRow_rd hown).form (fun e=>by have h1 := congrArg List.length e;rw [iv_length,List.length_nil] at h1;omega)
 have hI0 : DelJ D l (i0 + 1) i0 D := by
  refine ⟨by omega,by omega,rfl,?_,fun k hk=>rfl⟩
  unfold noI
  rw [take_filter D _ hlt,if_neg (by have := hend _ (List.getElem?_eq_getElem hlt);rw [this];simp),List.append_nil,eq_comm,List.filter_eq_self]
  intro y hy
  obtain ⟨k,hk,rfl⟩ := List.getElem_of_mem hy
  rw [List.length_take] at hk
  rw [List.getElem_take]
  have := hno k (by omega) _ (List.getElem?_eq_getElem (by omega))
  rw [this]
  rfl
 repeat'(first|refine gz ?_|(apply addX;(iterate 2 exact rfl);(iterate 2(first|omega));exact rfl)|(apply kq;(·exact rfl);(·intro w1 h1;exact h88 w1 h1))|fail)
 apply CW.loop [5,6,7,16,17,18,19,20,21,22,23,24,25,26,27,28,29,30,31,32,33,34,35] (fun s : Nat × Nat × List Int=>DelJ D l s.1 s.2.1 s.2.2) (fun s=>[(5,.int .i64 (s.2.1 : Int)),(6,.int .i64 (s.1 : Int))])
  (fun s=>St w F [rdA (some ⟨bx,0,none⟩) [.slice ah l.length ch],rdA ah (iv l),iN (some ⟨ba,oa,none⟩) D.length c s.2.2]) (fun s=>D.length - s.1)
 ·exact fun w' hw'=>⟨(i0 + 1,i0,D),hI0,⟨rfl,rfl,trivial⟩,hw'⟩
 rintro ⟨j,i,D'⟩ g hI
 simp only at hI ⊢
 have hij := hI.ij
 have hjl := hI.jl
 have hDl := hI.len
 by_cases hlt2 : j < D.length
 ·obtain ⟨y,hy⟩ : ∃ y,D[j] = y := ⟨_,rfl⟩
  have hly : D'[j]? = some y := by rw [hI.suf j (Nat.le_refl _),List.getElem?_eq_getElem hlt2,hy]
  have hskip := hI.skip hlt2
  have hkeep := hI.keep hlt2
  rw [hy] at hskip hkeep
  cases hx : decide (y ∈ l)
  rotate_left
  ·have hskip := hskip hx
   repeat'(first|refine gz ?_|(apply idxX;(iterate 2 exact rfl);(iterate 2(first|omega));exact rfl)|(apply addX;(iterate 2 exact rfl);(iterate 2(first|omega));exact rfl)|(apply LR.ev;(·apply Ev.load;(·exact rfl);(·intro w' hw';refine iv_cell (x := y) (hw'.rd_of_own memZ) hly ?_;(·simp;done)));(·exact rfl))|(apply LR.qcall_val (g := 302) (cap := [.pointer (some ⟨bx,0,none⟩)]) (v := .bool true);(·exact rfl);(·exact rfl);(·intro w1 h1;have hq := CallsTo.q (r302 y bx ah ch l w1 (h1.rd_of memZ) (h1.rd_of memZ) hml) h1;rw [hx] at hq;exact hq))|(refine gs ?_ ?_;all_goals(intro hc;try simp only[hcs]at hc;try exact abz)))
   refine At.again (j + 1,i,D') hskip ?_ ⟨rfl,rfl,trivial⟩ (fun w' hw'=>hw'.sub subN) (by show D.length - (j + 1) < D.length - j;omega)
   exact outZ
  ·have hkeep := hkeep hx
   repeat'(first|refine gz ?_|(apply idxX;(iterate 2 exact rfl);(iterate 2(first|omega));exact rfl)|(apply LR.ev;(·apply Ev.load;(·exact rfl);(·intro w' hw';refine iv_cell (x := y) (hw'.rd_of_own memZ) hly ?_;(·simp;done)));(·exact rfl))|(apply LR.qcall_val (g := 302) (cap := [.pointer (some ⟨bx,0,none⟩)]) (v := .bool false);(·exact rfl);(·exact rfl);(·intro w1 h1;have hq := CallsTo.q (r302 y bx ah ch l w1 (h1.rd_of memZ) (h1.rd_of memZ) hml) h1;rw [hx] at hq;exact hq))|(refine gs ?_ ?_;all_goals(intro hc;try simp only[hcs]at hc;try exact abz)))
   refine LR.store_obj (v := .int .i64 y) rfl rfl (Sel.tail _ (Sel.tail _ (Sel.head _ _ _))) rfl (put_int (bs := D') y (i := i) (by omega) (by simp)) (osl.dep _ _ _ _ _) ?_
   repeat'(first|refine gz ?_|(apply addX;(iterate 2 exact rfl);(iterate 2(first|omega));exact rfl))
   refine At.again (j + 1,i + 1,D'.set i y) hkeep ?_ ⟨?_,rfl,trivial⟩ (fun w' hw'=>hw'.sub subN) (by show D.length - (j + 1) < D.length - j;omega)
   ·exact outZ
   ·exact congrArg (Value.int .i64) (show (i : Int) + 1 = ((i + 1 : Nat) : Int) by omega)
 have hje : j = D.length := by omega
 subst hje
 have hpre := hI.pre
 rw [List.take_length] at hpre
 have hil : i = (noI D l).length := by
  have := congrArg List.length hpre
  rw [List.length_take] at this
  omega
 repeat'(first|refine gz ?_|(apply LR.ev;(·apply Ev.slice_lo;(·exact rfl);(·exact rfl);(·omega);(·omega));(·exact rfl))|(refine gs ?_ ?_;all_goals(intro hc;try simp only[hcs]at hc;try exact abz)))
 refine LR.clearN (E := 3) (sz := 1) (zs := [.int .i64 0]) (n := D.length) (c := c) (j := i) (a := some ⟨ba,oa,none⟩) (xs := iv D') rfl rfl rfl (Sel.tail _ (Sel.tail _ (Sel.head _ _ _))) (by omega) ?_
 repeat'(first|refine gz ?_|(apply LR.ev;(·apply Ev.slice_hi;(·exact rfl);(·exact rfl);(·omega);(·omega));(·exact rfl))|fail)
 (apply ret1;(·exact rfl);intro w' hS)
 have h2 := St.osl_cut (k := i) hS (Sel.tail _ (Sel.tail _ (Sel.head _ _ _))) (by omega)
 have h3 : ((iv D').take (i * 1) ++ (List.replicate (D.length - i) [Value.int .i64 0]).flatten).take (i * 1) = iv (noI D l) := by
  rw [Nat.mul_one,List.take_append_of_le_length (by rw [List.length_take,iv_length];omega),List.take_take,Nat.min_self,← hpre]
  unfold iv
  rw [List.map_take]
 rw [h3] at h2
 subst hF
 rw [← hil]
 refine ⟨?_,(h2.sub (L' := [iN (some ⟨ba,oa,none⟩) i c (noI D l)]) subN).step rfl⟩
 show Value.slice (subA (some ⟨ba,oa,none⟩) c 0 1) (i : Int).toNat c = _
 rw [subA00]
 rfl
def Tk.ansT (t : Tk) (l : List Int) : Tk := { t with ask := noI t.ask l }
theorem r238 (t : Tk) (a : Option Addr) (c : Nat) (ah : Option Addr) (ch : Nat) (l : List Int) (w : World) (hr : Rd w a (iv t.ask)) (hz : a = none → c = 0) (hm : t.ask.length ≤ 17592186043904) (hl : Rd w ah (iv l)) (hml : l.length ≤ 17592186043904) :
  CallsTo Tryz.prog 238 [t.val a c,.slice ah l.length ch] w fun v w'=>∃ a' c',v = (t.ansT l).val a' c' ∧ NewSl w w' (.slice a' (t.ansT l).ask.length c') 3 1 (t.ansT l).ask.length (iv (t.ansT l).ask) := by
 refine go_in (n := 12) (St.rd2 hr hl) Tryz.func238 rfl rfl ?_
 repeat'(first|(refine kB' fun bx=>?_)|refine gz ?_|refine gy fun _=>?_|(apply LR.call;(·exact rfl);(intro w1 h1;refine CallsTo.mono (show CallsTo Tryz.prog 143 [.slice a t.ask.length c] w1 _ from t52 a c t.ask w1 (h1.rd_of memZ) hz hm) ?_;rintro v w2 ⟨a2,c2,rfl,hn⟩;refine LR.back (h1.newSl hn) ?_;clear hn h1))|fail)
 refine LR.call rfl fun w1 h1=>?_
 have hT : ∀ k,rdFoot (some ⟨bx,0,none⟩) [Value.slice ah l.length ch] k → ¬ (iN a2 t.ask.length c2 t.ask).foot k := by
  rintro z ⟨_,ad,hz1,hz2⟩ hf
  cases hz1
  have hz3 : z = bx := hz2
  subst hz3
  exact h1.apart (y := .own z (.cells [Value.slice ah l.length ch].toArray 22 (0,0))) memZ rfl z hf rfl
 refine CallsTo.mono (show CallsTo Tryz.prog 301 [.slice a2 t.ask.length c2,.func (.func 302) #[] #[.pointer (some ⟨bx,0,none⟩)]] w1 _ from r301 a2 c2 t.ask bx ah ch l w1 (h1.holds (iN a2 t.ask.length c2 t.ask) memZ) (h1.rd_of_blk memZ) (h1.rd_of memZ) hT (fun z hz hf=>h1.apart (y := rdA ah (iv l)) memZ rfl z hf hz) (by omega) (by omega)) ?_
 rintro v w2 ⟨rfl,st⟩
 refine LR.back (h1.did (Sel.head _ _ _) rfl st (osl.dep _ _ _ _ _)) ?_
 repeat'(first|refine gz ?_)
 (apply ret1c;(·exact rfl);(·exact inferInstance);(·exact rfl);(·exact memY);(·exact rfl);intro w' hS)
 exact ⟨a2,c2,rfl,hS.toNew memZ⟩
theorem r180 (t : Tk) (a : Option Addr) (c : Nat) (q : Bool) (w : World) (hr : Rd w a (iv t.ask)) (hz : a = none → c = 0) (hm : t.ask.length ≤ 17592186043904) (hi : 0 ≤ t.idle) :
  CallsTo Tryz.prog 180 [t.val a c,.bool q] w fun v w'=>∃ a' c',v = (idleT t q).val a' c' ∧ (idleT t q).ask = t.ask ∧ NewSl w w' (.slice a' t.ask.length c') 3 1 t.ask.length (iv t.ask) := by
 refine go_in (n := 20) (St.rd1 hr) Tryz.func180 rfl rfl ?_
 repeat'(first|(refine kB' fun bx=>?_)|refine gz ?_|refine gy fun _=>?_|(apply addX;(iterate 2 exact rfl);(iterate 2(first|omega));exact rfl)|(apply LR.call;(·exact rfl);(intro w1 h1;refine CallsTo.mono (show CallsTo Tryz.prog 143 [.slice a t.ask.length c] w1 _ from t52 a c t.ask w1 (h1.rd_of memZ) hz hm) ?_;rintro v w2 ⟨a2,c2,rfl,hn⟩;refine LR.back (h1.newSl hn) ?_;clear hn h1))|(refine gs ?_ ?_;all_goals(intro hc;try simp only[hcs]at hc;try exact abz)))
 all_goals (
  (apply ret1c;(·exact rfl);(·exact inferInstance);(·exact rfl);(·exact memY);(·exact rfl);intro w' hS)
  refine ⟨a2,c2,?_,?_,hS.toNew memZ⟩
  all_goals (
   unfold idleT maxN
   split
   all_goals (try split)
   all_goals first
    | rfl
    | (exfalso;simp_all;done)
    | (exfalso;omega)))
structure MsgA where
 m : Msg
 a : Option Addr
 c : Nat
def MsgA.row (x : MsgA) : List Value := x.m.cells x.a x.c
theorem MsgA.row_len (x : MsgA) : x.row.length = 13 := rfl
def MsgA.body (x : MsgA) : Asrt := osl (.slice x.a x.m.body.length x.c) 5 1 x.m.body.length (bv x.m.body)
theorem MsgA.dep (x : MsgA) : x.body.dep := osl.dep _ _ _ _ _
theorem MsgA.ex (x : MsgA) : x.body.excl = true := rfl
def zeroQA : MsgA := ⟨zeroMsg,none,0⟩
def qcells (first many : Nat) (slots : List MsgA) : List Value := .bool true :: .int .i64 (first : Int) :: .int .i64 (many : Int) :: slots.flatMap MsgA.row
theorem qcells_len (first many : Nat) (slots : List MsgA) (h : slots.length = 32) : (qcells first many slots).length = 419 := by
 simp only [qcells,List.length_cons,Go.Hb.rows_len MsgA.row_len,h]
theorem qcells_row {first many : Nat} {slots : List MsgA} {k : Nat} (h : k < slots.length) {j : Nat} {v : Value} (hj : slots[k].row[j]? = some v) : (qcells first many slots)[3 + k * 13 + j]? = some v := by
 have := rows_get MsgA.row_len slots k j v h hj
 rw [show 3 + k * 13 + j = (k * 13 + j) + 1 + 1 + 1 by omega]
 simpa [qcells] using this
theorem flat_set (l : List MsgA) (x : MsgA) : ∀ (k : Nat),k < l.length → (l.set k x).flatMap MsgA.row = (l.flatMap MsgA.row).take (k * 13) ++ x.row ++ (l.flatMap MsgA.row).drop (k * 13 + 13) := by
 induction l with
 | nil=>intro k h;simp at h
 | cons y r ih=>
  intro k h
  have hy : y.row.length = 13 := rfl
  cases k with
  | zero=>
   simp only [List.set_cons_zero,List.flatMap_cons,Nat.zero_mul,List.take_zero,List.nil_append,Nat.zero_add]
   rw [show 13 = y.row.length from rfl,List.drop_left]
  | succ k=>
   simp only [List.set_cons_succ,List.flatMap_cons]
   have e1 : (y.row ++ r.flatMap MsgA.row).take ((k + 1) * 13) = y.row ++ (r.flatMap MsgA.row).take (k * 13) := by
    rw [List.take_append,List.take_of_length_le (l := y.row) (by rw [hy];omega),hy,show (k + 1) * 13 - 13 = k * 13 by omega]
   have e2 : (y.row ++ r.flatMap MsgA.row).drop ((k + 1) * 13 + 13) = (r.flatMap MsgA.row).drop (k * 13 + 13) := by
    rw [List.drop_append,List.drop_of_length_le (l := y.row) (by rw [hy];omega),hy,show (k + 1) * 13 + 13 - 13 = k * 13 + 13 by omega,List.nil_append]
   rw [ih k (by simpa using h),e1,e2]
   simp
theorem splice_q (first many : Nat) (slots : List MsgA) (x : MsgA) (k : Nat) (h : k < slots.length) : splice (qcells first many slots) (3 + k * 13) x.row = qcells first many (slots.set k x) := by
 have h13 : x.row.length = 13 := rfl
 unfold splice qcells
 rw [flat_set slots x k h,h13]
 rw [show 3 + k * 13 = k * 13 + 1 + 1 + 1 by omega,show k * 13 + 1 + 1 + 1 + 13 = (k * 13 + 13) + 1 + 1 + 1 by omega]
 simp [List.take_succ_cons]
abbrev qB (b : Nat) (first many : Nat) (slots : List MsgA) : Asrt := .own b (.cells (qcells first many slots).toArray 135 (0,0))
structure QRep (first : Nat) (slots L : List MsgA) : Prop where
 h32 : slots.length = 32
 hf : first < 32
 hL : L.length ≤ 32
 at_ : ∀ i (h : i < L.length),slots[(first + i) % 32]? = some L[i]
abbrev bunB : List MsgA → Asrt := bun MsgA.body
def zeroQ : List Value := .bool false :: .int .i64 0 :: .int .i64 0 :: (List.replicate 32 zeroQA).flatMap MsgA.row
theorem zero82 : Tryz.zeroCells135 = zeroQ.toArray := by kernel_rfl
instance : Build Tryz.prog 135 zeroQ [(0,1),(1,1),(2,1),(3,416)] := ⟨fun w parts cells h=>by
 simp only [Instr.build,Sem.run_bind,Tryz.zeroValue135,run_underlying Tryz.underlying135,Result.andThen_ok]
 simp only [List.mapM_toArray,List.mapM_cons,List.mapM_nil,Sem.run_bind,Sem.run_map,Sem.run_pure,Result.andThen_ok,pure_bind,bind_assoc,map_eq_pure_bind,Tryz.sizeOf3,Tryz.sizeOf4,Tryz.sizeOf133,Value.cells]
 rw [zero82,h]
 rfl⟩
theorem c38 (w : World) : CallsTo Tryz.prog 38 [] w fun v w'=>∃ b,v = .pointer (some ⟨b,0,none⟩) ∧ New1 (qB b 0 0 (List.replicate 32 zeroQA)) w w' := by
 refine go_in (n := 3) (St.refl _ NoF) Tryz.func38 rfl rfl ?_
 repeat'(first|refine gz ?_|refine gy fun _=>?_)
 (apply ret1;(·exact rfl);intro w' hS)
 exact ⟨_,rfl,St.new1 hS rfl⟩
theorem c85 (b first many : Nat) (slots : List MsgA) (w : World) (h : Rd w (some ⟨b,0,none⟩) (qcells first many slots)) : CallsTo Tryz.prog 87 [.pointer (some ⟨b,0,none⟩)] w fun v w'=>v = .bool false ∧ Grew w w' := by
 refine go_in (n := 12) (St.rd1 h) Tryz.func87 rfl rfl ?_
 repeat'(first|refine gz ?_)
 (apply ret1;(·exact rfl);intro w' hS)
 exact ⟨rfl,hS.toKeep⟩
theorem c46 (b first many : Nat) (slots : List MsgA) (w : World) (h : Rd w (some ⟨b,0,none⟩) (qcells first many slots)) : CallsTo Tryz.prog 304 [.pointer (some ⟨b,0,none⟩)] w fun v w'=>v = .int .i64 (many : Int) ∧ Grew w w' := by
 refine go_in (n := 9) (St.rd1 h) Tryz.func304 rfl rfl ?_
 repeat'(first|refine gz ?_|(apply kq;(·exact rfl);(·intro w1 h1;exact CallsTo.q (c85 b first many slots w1 (h1.rd_of memZ)) h1))|fail)
 (apply ret1;(·exact rfl);intro w' hS)
 exact ⟨rfl,hS.toKeep⟩
theorem c48 (b first many : Nat) (slots : List MsgA) (w : World) (h : Rd w (some ⟨b,0,none⟩) (qcells first many slots)) (hm : many ≤ 32) : CallsTo Tryz.prog 56 [.pointer (some ⟨b,0,none⟩)] w fun v w'=>v = .int .i64 (32 - (many : Int)) ∧ Grew w w' := by
 refine go_in (n := 10) (St.rd1 h) Tryz.func56 rfl rfl ?_
 repeat'(first|refine gz ?_|(apply kq;(·exact rfl);(·intro w1 h1;exact CallsTo.q (c85 b first many slots w1 (h1.rd_of memZ)) h1))|(apply subX;(iterate 2 exact rfl);(iterate 2(first|omega));exact rfl))
 (apply ret1;(·exact rfl);intro w' hS)
 exact ⟨rfl,hS.toKeep⟩
theorem qB_in {b first many : Nat} {slots : List MsgA} {w : World} (h : w.heap[b]? = some (.cells (qcells first many slots).toArray 135 (0,0))) : St w (qB b first many slots).foot [qB b first many slots] w :=
 St.one (a := qB b first many slots) h (fun k hk=>by have hk : k = b := hk;subst hk;exact (Array.getElem?_eq_some_iff.1 h).1) (Asrt.dep_own _ _)
theorem c44e (b first : Nat) (slots : List MsgA) (w : World) (h : Rd w (some ⟨b,0,none⟩) (qcells first 0 slots)) : CallsTo Tryz.prog 305 [.pointer (some ⟨b,0,none⟩)] w fun v w'=>v = .tuple [zeroMsg.val none 0,.int .i64 8].toArray ∧ Grew w w' := by
 refine go_in (n := 51) (St.rd1 h) Tryz.func305 rfl rfl ?_
 repeat'(first|refine gz ?_|refine gy fun _=>?_|(apply kq;(·exact rfl);(·intro w1 h1;exact CallsTo.q (c85 b first 0 slots w1 (h1.rd_of memZ)) h1))|fail)
 (apply ret2c;(·exact rfl);(·exact inferInstance);(·exact rfl);(·exact memY);(·exact rfl);intro w' hS)
 exact ⟨rfl,hS.toKeep⟩
theorem q_agg {b first many : Nat} {slots : List MsgA} {w : World} (h : w.heap[b]? = some (.cells (qcells first many slots).toArray 135 (0,0))) {k : Nat} (hk : k < slots.length) {q : Nat} (hq : q = 3 + k * 13) : ∀ j v,(slots[k].row)[j]? = some v → w.cell? ((⟨b,q,none⟩ : Addr).add j) = some v := by
 intro j v hj
 subst hq
 rw [addr_add,cell_own h]
 simpa using qcells_row hk hj
theorem tmod32 (n : Nat) : ((n : Int).tmod 32).toNat = n % 32 ∧ 0 ≤ (n : Int).tmod 32 ∧ (n : Int).tmod 32 < 32 ∧ (n : Int).tmod 32 = ((n % 32 : Nat) : Int) := by
 have h := Int.tmod_eq_emod_of_nonneg (a := (n : Int)) (b := 32) (by omega)
 rw [h]
 omega
theorem put_slot {b first many k : Nat} {slots : List MsgA} (x : MsgA) (hk : k < slots.length) (h32 : slots.length = 32) {q : Nat} (hq : q = 3 + k * 13) :
  Stores Tryz.prog 50 ⟨b,q,none⟩ (.agg x.row.toArray) (qB b first many slots) (qB b first many (slots.set k x)) := by
 subst hq
 have st := Stores.own (P := Tryz.prog) (T := 50) (m := 13) (b := b) (o := 3 + k * 13) (v := .agg x.row.toArray) (cs := qcells first many slots) (vs := x.row) (E := 135) inferInstance rfl (by simp [MsgA.row,Msg.cells,Value.oneCell']) rfl (by rw [qcells_len _ _ _ h32];show 3 + k * 13 + 13 ≤ 419;omega)
 rwa [splice_q _ _ _ _ _ hk] at st
set_option maxHeartbeats 1000000 in
theorem c44 (b first many : Nat) (slots : List MsgA) (w : World) (h : w.heap[b]? = some (.cells (qcells first many slots).toArray 135 (0,0))) (h32 : slots.length = 32) (hf : first < 32) (hm : 0 < many) (hm2 : many ≤ 32) (x : MsgA) (hx : slots[first]? = some x) :
  CallsTo Tryz.prog 305 [.pointer (some ⟨b,0,none⟩)] w fun v w'=>v = .tuple [x.m.val x.a x.c,.int .i64 0].toArray ∧ Step (qB b first many slots) (qB b ((first + 1) % 32) (many - 1) (slots.set first zeroQA)) w w' := by
 refine go_in (n := 51) (qB_in h) Tryz.func305 rfl rfl ?_
 obtain ⟨hk,hxe⟩ := List.getElem?_eq_some_iff.1 hx
 have ht := tmod32 (first + 1)
 have e1 : ((first + 1 : Nat) : Int) = (first : Int) + 1 := rfl
 rw [e1] at ht
 repeat'(first|(apply CW.reg_heldC)|refine gz ?_|refine gy fun _=>?_|(apply kq;(·exact rfl);(·intro w1 h1;exact CallsTo.q (c85 b first many slots w1 (h1.rd_of_blk memZ)) h1))|(refine gs ?_ ?_;all_goals(intro hc;try simp only[hcs]at hc;try exact abz)))
 apply DW.quiet [0,1,2,3,4,5,6,7,8]
 ·decide +kernel
 ·exact fun _ h=>h
 repeat'(first|refine yv' ?_|(apply QL.ev;(·exact rfl);(·first | (apply Ev.indexArr;(·exact rfl);(·exact rfl);(·omega);(·omega)) | (apply Ev.load_agg_at (cs := x.row);(·exact rfl);(·exact rfl);(·intro w' hw';rw [← hxe];exact q_agg (hw'.own_at (b := b) memZ) hk (by simp))));(·exact rfl))|apply QL.nil)
 all_goals (show DW _ _ _ _ _ _ _ _)
 apply DW.loud 9
 ·exact rfl
 ·decide +kernel
 repeat'(first|refine gw ?_|refine gy fun _=>?_)
 refine At.stage_same (fun _ h=>St.sub h subN) ?_
 apply DW.loud 10
 ·exact rfl
 ·decide +kernel
 repeat'(first|refine gw ?_)
 refine At.stage_same (fun _ h=>St.sub h subN) ?_
 apply DW.done_thn
 ·decide +kernel
 repeat'(first|(apply CW.reg_tail 9;decide +kernel)|refine gz ?_)
 repeat'(first|(apply TW.ev;(·exact evV_sound rfl);exact rfl)|(apply TW.ev;(·first|((first|apply Ez);(·exact rfl);(·repeat(first|exact iO|apply iT));exact rfl)|((first|apply Ev.fieldAddr|apply Ev.buildN);exact rfl));·exact rfl)|(apply TW.ev;(·apply Ev.indexArr;(·exact rfl);(·exact rfl);(·omega);(·omega));(·exact rfl))|apply TW.nil)
 refine LR.store_obj (v := .agg zeroQA.row.toArray) (z' := qB b first many (slots.set first zeroQA)) rfl rfl selZ rfl (put_slot zeroQA hk h32 (by simp)) (Asrt.dep_own _ _) ?_
 repeat'(first|refine gz ?_|(apply addX;(iterate 2 exact rfl);(iterate 2(first|omega));exact rfl)|(apply LR.ev;(·apply Ev.rem;(·exact rfl);(·exact rfl);(·first | decide ));(·exact rfl))|(apply subX;(iterate 2 exact rfl);(iterate 2(first|omega));exact rfl))
 (apply ret2c;(·exact rfl);(·exact inferInstance);(·exact rfl);(·exact memY);(·exact rfl);intro w' hS)
 have e3 : splice (splice (qcells first many (slots.set first zeroQA)) 1 [.int .i64 (((first : Int) + 1).tmod 32)]) 2 [.int .i64 ((many : Int) - 1)] = qcells ((first + 1) % 32) (many - 1) (slots.set first zeroQA) := by
  rw [ht.2.2.2,show (many : Int) - 1 = ((many - 1 : Nat) : Int) by omega]
  rfl
 exact ⟨rfl,((front hS 2 rfl rfl).cast (congrArg (fun c : List Value=>Asrt.own b (.cells c.toArray 135 (0,0)) :: _) e3)).step rfl⟩
theorem QRep.put {f : Nat} {slots L : List MsgA} (h : QRep f slots L) (hlt : L.length < 32) (x : MsgA) : QRep f (slots.set ((f + L.length) % 32) x) (L ++ [x]) := by
 refine ⟨by simp [h.h32],h.hf,by simp;omega,fun i hi=>?_⟩
 simp only [List.length_append,List.length_cons,List.length_nil] at hi
 have hf := h.hf
 have h32 := h.h32
 by_cases he : i = L.length
 ·subst he
  rw [List.getElem?_set_self (by rw [h32];omega)]
  simp
 ·have hne : (f + L.length) % 32 ≠ (f + i) % 32 := by omega
  rw [List.getElem?_set_ne hne,h.at_ i (by omega)]
  simp [List.getElem_append_left (show i < L.length by omega)]
theorem QRep.take {f : Nat} {slots L : List MsgA} {x : MsgA} (h : QRep f slots (x :: L)) : QRep ((f + 1) % 32) (slots.set f zeroQA) L ∧ slots[f]? = some x := by
 have hf := h.hf
 have hl := h.hL
 simp only [List.length_cons] at hl
 refine ⟨⟨by simp [h.h32],by omega,by omega,fun i hi=>?_⟩,?_⟩
 ·have := h.at_ (i + 1) (by simp;omega)
  have hne : f ≠ ((f + 1) % 32 + i) % 32 := by omega
  rw [List.getElem?_set_ne hne,show ((f + 1) % 32 + i) % 32 = (f + (i + 1)) % 32 by omega,this]
  simp
 ·have := h.at_ 0 (by simp)
  rw [show (f + 0) % 32 = f by omega] at this
  simpa using this
structure MR (w : World) (x : MsgA) : Prop where
 hr : Rd w x.a (bv x.m.body)
 hz : x.a = none → x.c = 0
 hm : x.m.body.length ≤ 140737488355328
 hb : Byt x.m.body
def qputE (n : Nat) (l : List MsgA) : Int := if (l.any fun x=>decide (check x.m ≠ 0)) = true then 2 else if 32 - (n : Int) < (l.length : Int) then 7 else 0
def qO (b first : Nat) (slots L : List MsgA) : Asrt := both (qB b first L.length slots) (bunB L)
theorem qO_dep (b first : Nat) (slots L : List MsgA) : (qO b first slots L).dep := both_dep (Asrt.dep_own _ _) (bun_dep MsgA.dep L)
set_option maxHeartbeats 4000000 in
theorem c41 (b first : Nat) (slots L : List MsgA) (al : Option Addr) (cl : Nat) (l : List MsgA) (w : World) (h : (qO b first slots L).holds w) (hq : QRep first slots L)
  (hr : Rd w al (l.flatMap MsgA.row)) (hd : ∀ k,rdFoot al (l.flatMap MsgA.row) k → ¬ (qO b first slots L).foot k) (hR : ∀ x ∈ l,MR w x) (hRd : ∀ x ∈ l,∀ k,rdFoot x.a (bv x.m.body) k → ¬ (qO b first slots L).foot k) (hm : l.length ≤ 140737488355328) :
  CallsTo Tryz.prog 52 [.pointer (some ⟨b,0,none⟩),.slice al l.length cl] w fun v w'=>∃ slots' L',v = .int .i64 (qputE L.length l) ∧ QRep first slots' L' ∧ L'.map MsgA.m = L.map MsgA.m ++ (if qputE L.length l = 0 then l.map MsgA.m else []) ∧ Step (qO b first slots L) (qO b first slots' L') w w' := by
 have hS0 := St.one h (both_live h) (qO_dep b first slots L)
 have hS1 := (front (hS0.addRd hr hd) 1 rfl rfl).part (Asrt.dep_own _ _) (bun_dep MsgA.dep L)
 have hs0 : Step (qO b first slots L) (qO b first slots L) w w := hS0.step rfl
 have fin : ∀ (slots' L' : List MsgA) (R : List Asrt) (w' : World),St w (qO b first slots L).foot (qB b first L'.length slots' :: bunB L' :: R) w' → Step (qO b first slots L) (qO b first slots' L') w w' := fun slots' L' R w' hS=>(hS.join rfl rfl).step rfl
 generalize hF : (qO b first slots L).foot = F at *
 have old : ∀ {L1 : List Asrt} {w1 : World},St w F L1 w1 → ∀ x ∈ l,Rd w1 x.a (bv x.m.body) := fun h1 x hx=>h1.oldRdF (hR x hx).hr (hRd x hx)
 refine go_in (n := 59) (hS1.cast (L' := [qB b first L.length slots,bunB L,rdA al (l.flatMap MsgA.row)]) rfl) Tryz.func52 rfl rfl ?_
 repeat'(first|refine gz ?_|(apply kq;(·exact rfl);(·intro w1 h1;exact CallsTo.q (c85 b first L.length slots w1 (h1.rd_of_blk memZ)) h1))|fail)
 apply CW.loop [4,6,13,14,15,16,17,18,19,20] (fun i : Nat=>i ≤ l.length ∧ ∀ x ∈ l.take i,check x.m = 0) (fun i=>[(13,Value.int .i64 (i : Int))]) (fun i=>St w F [qB b first L.length slots,bunB L,rdA al (l.flatMap MsgA.row)]) (fun i=>l.length - i)
 ·exact fun w' hw'=>⟨0,⟨by omega,by simp⟩,⟨rfl,trivial⟩,hw'⟩
 intro i g ⟨hi,hck⟩
 by_cases hlt : i < l.length
 ·obtain ⟨ba,oa,rfl⟩ := hr.form (rows_ne MsgA.row_len (by omega) hlt)
  have hx := hR _ (List.getElem_mem hlt)
  repeat'(first|refine gz ?_|refine gy fun _=>?_|(apply idxX;(iterate 2 exact rfl);(iterate 2(first|omega));exact rfl)|(apply LR.ev;(·apply Ev.load_agg_at (cs := l[i].row);(·exact rfl);(·exact rfl);(·intro w' hw';exact rd_row MsgA.row_len (hw'.rd_of memZ) hlt (by simp)));(·exact rfl))|(apply kq;(·exact rfl);(·intro w1 h1;have hq := CallsTo.q (d17 l[i].m l[i].a l[i].c w1 (old h1 _ (List.getElem_mem hlt)) hx.hz hx.hm hx.hb) h1;show CallsTo Tryz.prog 88 [l[i].m.val l[i].a l[i].c] w1 _;exact hq))|(apply addX;(iterate 2 exact rfl);(iterate 2(first|omega));exact rfl)|(refine gs ?_ ?_;all_goals(intro hc;try simp only[hcs]at hc;try exact abz)))
  ·(apply ret1;(·exact rfl);intro w' hS)
   have e : qputE L.length l = 2 := by
    unfold qputE
    rw [if_pos]
    rw [List.any_eq_true]
    exact ⟨l[i],List.getElem_mem hlt,by simpa using hc⟩
   rw [e]
   exact ⟨slots,L,rfl,hq,by simp,fin slots L _ w' ((front (front hS 2 rfl rfl) 2 rfl rfl))⟩
  ·apply At.again (i + 1)
   ·refine ⟨by show i + 1 ≤ _;omega,fun x hx2=>?_⟩
    rw [List.take_succ_eq_append_getElem hlt] at hx2
    rcases List.mem_append.1 hx2 with hx2 | hx2
    ·exact hck x hx2
    ·have : x = l[i] := by simpa using hx2
     subst this;exact hc
   ·exact outZ
   ·exact ⟨rfl,trivial⟩
   ·exact fun w' hw'=>hw'.sub subN
   ·omega
 ·have hL := hq.hL
  have hany : ¬ (l.any fun x=>decide (check x.m ≠ 0)) = true := by
   rw [List.any_eq_true]
   rintro ⟨x,hx1,hx2⟩
   rw [List.take_of_length_le (by omega)] at hck
   exact absurd (hck x hx1) (by simpa using hx2)
  repeat'(first|refine gz ?_|(apply kq;(·exact rfl);(·intro w1 h1;exact CallsTo.q (c48 b first L.length slots w1 (h1.rd_of_blk memZ) hL) h1))|(refine gs ?_ ?_;all_goals(intro hc;try simp only[hcs]at hc;try exact abz)))
  ·(apply ret1;(·exact rfl);intro w' hS)
   have e : qputE L.length l = 7 := by unfold qputE;rw [if_neg hany,if_pos (by omega)]
   rw [e]
   exact ⟨slots,L,rfl,hq,by simp,fin slots L _ w' hS⟩
  have e : qputE L.length l = 0 := by unfold qputE;rw [if_neg hany,if_neg (by omega)]
  rw [e]
  have hroom : l.length ≤ 32 - L.length := by omega
  apply CW.loop [8,28,29,30,31,32,33,34,35,36,37,38,39,40,41,42,43,44,45,46,47,48,49,50,51,52,53,54,55,56,57,58] (fun s : Nat × List MsgA × List MsgA=>s.1 ≤ l.length ∧ QRep first s.2.1 s.2.2 ∧ s.2.2.map MsgA.m = L.map MsgA.m ++ (l.take s.1).map MsgA.m) (fun s=>[(28,Value.int .i64 (s.1 : Int))])
   (fun s=>St w F [qB b first s.2.2.length s.2.1,bunB s.2.2,rdA al (l.flatMap MsgA.row)]) (fun s=>l.length - s.1)
  ·exact fun w' hw'=>⟨(0,slots,L),⟨by simp,hq,by simp⟩,⟨rfl,trivial⟩,hw'⟩
  rintro ⟨i2,slots',L'⟩ g2 ⟨hi2,hq',hL'⟩
  simp only at hi2 hq' hL' ⊢
  have hlen : L'.length = L.length + i2 := by have := congrArg List.length hL';simp at this;omega
  by_cases hlt2 : i2 < l.length
  ·obtain ⟨ba,oa,rfl⟩ := hr.form (rows_ne MsgA.row_len (by omega) hlt2)
   have hx := hR _ (List.getElem_mem hlt2)
   have h32 := hq'.h32
   have ht := tmod32 (first + L'.length)
   rw [show ((first + L'.length : Nat) : Int) = (first : Int) + (L'.length : Int) from rfl] at ht
   have hf := hq'.hf
   repeat'(first|refine gz ?_|refine gy fun _=>?_|(apply idxX;(iterate 2 exact rfl);(iterate 2(first|omega));exact rfl)|(apply LR.ev;(·apply Ev.load_agg_at (cs := l[i2].row);(·exact rfl);(·exact rfl);(·intro w' hw';exact rd_row MsgA.row_len (hw'.rd_of memZ) hlt2 (by simp)));(·exact rfl))|(refine gs ?_ ?_;all_goals(intro hc;try simp only[hcs]at hc;try exact abz)))
   apply LR.call
   ·exact rfl
   intro w1 h1
   refine CallsTo.mono (show CallsTo Tryz.prog 89 [.slice l[i2].a l[i2].m.body.length l[i2].c] w1 _ from c86 l[i2].a l[i2].c l[i2].m.body w1 (old h1 _ (List.getElem_mem hlt2)) hx.hz hx.hm) ?_
   rintro v w2 ⟨a1,c1,rfl,hn1⟩
   refine LR.back (h1.newSl hn1) ?_
   clear hn1 h1
   repeat'(first|(apply CW.reg_tail 15;decide +kernel)|refine gz ?_)
   repeat'(first|(apply TW.ev;(·exact evV_sound rfl);exact rfl)|(apply TW.ev;(·first|((first|apply Ez|apply Ey);(·exact rfl);(·repeat(first|exact iO|apply iT));exact rfl)|((first|apply Ev.fieldAddr);exact rfl));·exact rfl)|(apply TW.ev;(·first | (apply Ev.add;(·exact rfl);(·exact rfl);(·omega);(·omega)) | (apply Ev.rem;(·exact rfl);(·exact rfl);(·decide)) | (apply Ev.indexArr;(·exact rfl);(·exact rfl);(·omega);(·omega)));(·exact rfl))|apply TW.nil)
   apply LR.store_obj (v := .agg (MsgA.row ⟨l[i2].m,a1,c1⟩).toArray) (z := qB b first L'.length slots') (z' := qB b first L'.length (slots'.set ((first + L'.length) % 32) ⟨l[i2].m,a1,c1⟩))
   ·exact rfl
   ·exact rfl
   ·exact selZ
   ·exact rfl
   ·exact put_slot _ (by omega) h32 (by rw [ht.1])
   ·exact Asrt.dep_own _ _
   repeat'(first|refine gz ?_|(apply addX;(iterate 2 exact rfl);(iterate 2(first|omega));exact rfl))
   apply At.again (i2 + 1,slots'.set ((first + L'.length) % 32) ⟨l[i2].m,a1,c1⟩,L' ++ [⟨l[i2].m,a1,c1⟩])
   ·refine ⟨by show i2 + 1 ≤ _;omega,hq'.put (by omega) _,?_⟩
    show (L' ++ [MsgA.mk l[i2].m a1 c1]).map MsgA.m = _
    rw [List.map_append,hL',List.take_succ_eq_append_getElem hlt2,List.map_append,List.append_assoc]
    rfl
   ·exact outZ
   ·exact ⟨rfl,trivial⟩
   ·intro w' hw'
    have h2 := St.bun_snoc (f := MsgA.body) (x := ⟨l[i2].m,a1,c1⟩) (l := L') MsgA.dep MsgA.ex (front (front hw' 3 rfl rfl) 1 rfl rfl)
    have h3 := (front h2 2 rfl rfl).sub (L' := [qB b first (L'.length + 1) (slots'.set ((first + L'.length) % 32) ⟨l[i2].m,a1,c1⟩),bunB (L' ++ [⟨l[i2].m,a1,c1⟩]),rdA (some ⟨ba,oa,none⟩) (l.flatMap MsgA.row)]) subN
    show St w F [qB b first (L' ++ [MsgA.mk l[i2].m a1 c1]).length (slots'.set ((first + L'.length) % 32) ⟨l[i2].m,a1,c1⟩),bunB (L' ++ [⟨l[i2].m,a1,c1⟩]),rdA (some ⟨ba,oa,none⟩) (l.flatMap MsgA.row)] w'
    rw [show (L' ++ [MsgA.mk l[i2].m a1 c1]).length = L'.length + 1 by simp]
    exact h3
   ·show l.length - (i2 + 1) < l.length - i2
    omega
  ·repeat'(first|refine gz ?_|(refine gs ?_ ?_;all_goals(intro hc;try simp only[hcs]at hc;try exact abz)))
   (apply ret1;(·exact rfl);intro w' hS)
   rw [List.take_of_length_le (by omega)] at hL'
   exact ⟨slots',L',rfl,hq',by simpa using hL',fin slots' L' _ w' hS⟩
end Go.Proofs.YtohbcfokihplbaaGreatDoor
namespace Go.Proofs.YtohbcfokihplbaaGreatDoor
open Go.Hb
theorem go_inS {P : Program} {n : Nat} {g : FuncId} {fn : Func} {c : Code} {args : List Value} {K : Value → World → Prop} {w0 w : World} {F : Nat → Prop} {L : List Asrt} (hS : St w0 F L w)
  (hf : P.funcs[g]? = some fn) (hb : fn.body = some c) (hn : n = args.length + (fn.ntmps - args.length)) (h : CW P n c (finK P fn n K) (Go.Hb.start args) (St w0 F L)) : CallsTo P g args w K :=
 Go.Hb.enter hf hb hn (CW.sub h fun w' (e : w' = w)=>by rw [e];exact hS)
attribute [local irreducible] LR CW At Ev thn blk finK noG again CallsTo DW QL dnext TW DP
set_option maxRecDepth 100000
theorem _root_.Go.Hb.St.mid {w0 w : World} {F : Nat → Prop} {P G R : List Asrt} (h : St w0 F (P ++ (G ++ R)) w) : St w0 F (G ++ (P ++ R)) w := by
 refine h.perm ?_
 rw [← List.append_assoc,← List.append_assoc]
 exact (List.perm_append_comm).append_right R
theorem _root_.Go.Hb.St.backTo {w0 w : World} {F : Nat → Prop} {L L' : List Asrt} {x : Asrt} (h : St w0 F (x :: L) w) (k : Nat) (hk : k ≤ L.length) (e : L.insertIdx k x = L') : St w0 F L' w := by
 subst e
 exact h.perm (List.perm_insertIdx x L hk).symm
structure PkA where
 p : Pkt
 ad : PAd
def PkA.row (x : PkA) : List Value := x.p.cells x.ad
theorem PkA.row_len (x : PkA) : x.row.length = 40 := rfl
theorem PkA.one (x : PkA) : x.row.all Value.oneCell' = true := rfl
def PkA.b1 (x : PkA) : Asrt := osl (.slice x.ad.da x.p.d.msg.body.length x.ad.dc) 5 1 x.p.d.msg.body.length (bv x.p.d.msg.body)
def PkA.b2 (x : PkA) : Asrt := osl (.slice x.ad.ta x.p.t.ask.length x.ad.tc) 3 1 x.p.t.ask.length (iv x.p.t.ask)
def PkA.b3 (x : PkA) : Asrt := osl (.slice x.ad.ca x.p.c.ents.length x.ad.cc) 91 6 x.p.c.ents.length (x.p.c.ents.flatMap Ent.cells)
def PkA.body (x : PkA) : Asrt := both x.b1 (both x.b2 x.b3)
theorem PkA.dep (x : PkA) : x.body.dep := both_dep (osl.dep _ _ _ _ _) (both_dep (osl.dep _ _ _ _ _) (osl.dep _ _ _ _ _))
theorem PkA.ex (x : PkA) : x.body.excl = true := rfl
abbrev bunP : List PkA → Asrt := bun PkA.body
abbrev pS (a : Option Addr) (c : Nat) (l : List PkA) : Asrt := osl (.slice a l.length c) 63 40 l.length (l.flatMap PkA.row)
theorem _root_.Go.Hb.St.pk0 {w0 w : World} {F : Nat → Prop} {L : List Asrt} (x : PkA) (h : St w0 F L w) (h1 : x.ad.da = none ∧ x.ad.dc = 0 ∧ x.p.d.msg.body = []) (h2 : x.ad.ta = none ∧ x.ad.tc = 0 ∧ x.p.t.ask = []) (h3 : x.ad.ca = none ∧ x.ad.cc = 0 ∧ x.p.c.ents = []) : St w0 F (x.body :: L) w := by
 have j := (((h.nilsl 91 6).nilsl 3 1).nilsl 5 1)
 obtain ⟨⟨k,to,d,t,j1,j2,j3,c,b1,b2,b3⟩,⟨da,dc,ta,tc,ca,cc⟩⟩ := x
 obtain ⟨e1,e2,e3⟩ := h1
 obtain ⟨e4,e5,e6⟩ := h2
 obtain ⟨e7,e8,e9⟩ := h3
 simp only at e1 e2 e3 e4 e5 e6 e7 e8 e9
 subst e1 e2 e4 e5 e7 e8
 have q1 : (⟨⟨k,to,d,t,j1,j2,j3,c,b1,b2,b3⟩,⟨none,0,none,0,none,0⟩⟩ : PkA).b1 = osl (.slice none 0 0) 5 1 0 [] := by unfold PkA.b1;simp only [e3];rfl
 have q2 : (⟨⟨k,to,d,t,j1,j2,j3,c,b1,b2,b3⟩,⟨none,0,none,0,none,0⟩⟩ : PkA).b2 = osl (.slice none 0 0) 3 1 0 [] := by unfold PkA.b2;simp only [e6];rfl
 have q3 : (⟨⟨k,to,d,t,j1,j2,j3,c,b1,b2,b3⟩,⟨none,0,none,0,none,0⟩⟩ : PkA).b3 = osl (.slice none 0 0) 91 6 0 [] := by unfold PkA.b3;simp only [e9];rfl
 unfold PkA.body
 rw [q1,q2,q3]
 have j2 : St w0 F (osl (.slice none 0 0) 3 1 0 [] :: osl (.slice none 0 0) 91 6 0 [] :: osl (.slice none 0 0) 5 1 0 [] :: L) w := front (front j 2 rfl rfl) 2 rfl rfl
 have j3 := St.join j2 rfl rfl
 exact St.join (St.swap j3) rfl rfl
structure RA where
 ba : Nat
 bam : Nat
 bq : Nat
 fq : Nat
 slots : List MsgA
 qL : List MsgA
 bw : Nat
 bm : Nat
 es : List DaA
 bo : Nat
 gp : Option (Nat × Nat)
 np : Option (Nat × Nat × List DaA)
 ap : Option (Nat × Option Addr × Nat × List MsA)
 la : Option Addr
 lc : Nat
 pa : Option Addr
 pc : Nat
 pk : List PkA
 ea : Option Addr
 ec : Nat
 ev : List EvA
def gPtr : Option (Nat × Nat) → Option Addr
 | some x=>some ⟨x.1,0,none⟩
 | none=>none
def nPtr : Option (Nat × Nat × List DaA) → Option Addr
 | some x=>some ⟨x.1,0,none⟩
 | none=>none
def aPtr : Option (Nat × Option Addr × Nat × List MsA) → Option Addr
 | some x=>some ⟨x.1,0,none⟩
 | none=>none
def triv : Asrt := .ex (fun _=>False) (fun _=>True)
theorem triv_dep : triv.dep := fun _ _ _ _=>trivial
def gN : Option (Nat × Nat) → Option Gth → Asrt
 | some x,some G=>gaO x.1 x.2 G
 | _,_=>triv
def nN : Option (Nat × Nat × List DaA) → Int → Int → Asrt
 | some x,aru,high=>wO x.1 x.2.1 x.2.2 aru high
 | none,_,_=>triv
def aN : Option (Nat × Option Addr × Nat × List MsA) → Asrt
 | some x=>gO x.1 x.2.1 x.2.2.1 x.2.2.2
 | none=>triv
def lastA (A : RA) : PAd := ⟨none,0,A.la,A.lc,none,0⟩
def cellsR (A : RA) (S : Rg) : List Value :=
 [.int .i64 S.node,.int .i64 S.counter,.int .i64 S.clock,.int .i64 S.state,.pointer (some ⟨A.ba,0,none⟩),.pointer (some ⟨A.bq,0,none⟩),
   .int .i64 S.now.cfg.rs,.int .i64 S.now.cfg.rr,.int .i64 S.now.cfg.os,.int .i64 S.now.cfg.or_,.int .i64 S.now.cfg.mem,.bool S.now.cfg.trans,.int .i64 S.now.cfg.stamp,.pointer (some ⟨A.bw,0,none⟩),.int .i64 S.now.hop,.int .i64 S.now.left,.int .i64 S.now.safe,
   .pointer (some ⟨A.bo,0,none⟩),.pointer (gPtr A.gp),
   .int .i64 S.next.cfg.rs,.int .i64 S.next.cfg.rr,.int .i64 S.next.cfg.os,.int .i64 S.next.cfg.or_,.int .i64 S.next.cfg.mem,.bool S.next.cfg.trans,.int .i64 S.next.cfg.stamp,.pointer (nPtr A.np),.int .i64 S.next.hop,.int .i64 S.next.left,.int .i64 S.next.safe,
   .int .i64 S.own.node,.int .i64 S.own.o1,.int .i64 S.own.o2,.int .i64 S.own.aru,.int .i64 S.own.high,.int .i64 S.own.clock,
   .int .i64 S.kin,.pointer (aPtr A.ap),.bool S.begun] ++ (S.last.cells (lastA A) ++ [.int .i64 S.oc,.slice A.pa A.pk.length A.pc,.slice A.ea A.ev.length A.ec])
abbrev rgB (b : Nat) (A : RA) (S : Rg) : Asrt := .own b (.cells (cellsR A S).toArray 94 (0,0))
abbrev lastO (A : RA) (S : Rg) : Asrt := odl (.slice A.la S.last.t.ask.length A.lc) 3 1 S.last.t.ask.length (iv S.last.t.ask)
abbrev rgL (b : Nat) (A : RA) (S : Rg) (R : List Asrt) : List Asrt :=
 rgB b A S :: alO A.ba A.bam S.tm.get :: qO A.bq A.fq A.slots A.qL :: wO A.bw A.bm A.es S.now.aru S.now.high :: oB A.bo S.done :: gN A.gp S.g :: nN A.np S.next.aru S.next.high :: aN A.ap :: lastO A S :: pS A.pa A.pc A.pk :: bunP A.pk :: eS A.ea A.ec A.ev :: bunE A.ev :: tabA :: R
structure RepA (A : RA) (S : Rg) : Prop where
 q : QRep A.fq A.slots A.qL
 ql : A.qL.map MsgA.m = S.wq
 nd : S.now.dat = some (dats A.es,S.now.high)
 gp : A.gp.isSome = S.g.isSome
 np : S.next.dat = A.np.map (fun x=>(dats x.2.2,S.next.high))
 ap : S.again = A.ap.map (fun x=>x.2.2.2.map MsA.m)
 pk : A.pk.map PkA.p = S.op
 ev : A.ev.map EvA.e = S.oe
section
variable {w0 : World} {F : Nat → Prop} {R : List Asrt}
theorem r41 (b : Nat) (A : RA) (S : Rg) (n : Int) (w : World) (h : St w0 F (rgL b A S R) w) : CallsTo Tryz.prog 41 [.pointer (some ⟨b,0,none⟩),.int .i64 n] w fun v w'=>St w0 F (rgL b A (S.keep n) R) w' := by
 refine go_inS (n := 13) h Tryz.func41 rfl rfl ?_
 repeat'(first|refine gz ?_)
 apply end0
 ·exact rfl
 intro w' hS
 exact hS
theorem raise_take (S : Rg) {l : List Int} {i : Nat} (h : i < l.length) : (l.take (i + 1)).foldl Rg.raise S = ((l.take i).foldl Rg.raise S).raise l[i] := by
 rw [List.take_add_one,List.getElem?_eq_getElem h,Option.toList_some,List.foldl_append]
 rfl
theorem Ev.maxm {P : Program} {C : World → Prop} {f : Frm} {T : TypeId} {x y : Operand} {ts : Array TypeId} {a b : Int} (hx : f.ev x = .int .i64 a) (hy : f.ev y = .int .i64 b) : Ev P C f (.call ⟨.builtin .max,[x,y].toArray,ts⟩) T (.int .i64 (max a b)) := by
 rw [← max_if]
 exact Ev.max2 hx hy
theorem r57 (b : Nat) (A : RA) (S : Rg) (ba oa : Nat) (c : Nat) (l : List Int) (w : World) (h : St w0 F (rgL b A S R) w) (hr : ∀ w',St w0 F R w' → Rd w' (some ⟨ba,oa,none⟩) (iv l)) (hl : l.length ≤ 100) : CallsTo Tryz.prog 57 [.pointer (some ⟨b,0,none⟩),.slice (some ⟨ba,oa,none⟩) l.length c] w fun v w'=>St w0 F (rgL b A (l.foldl Rg.raise S) R) w' := by
 refine go_inS (n := 22) h Tryz.func57 rfl rfl ?_
 repeat'(first|refine gz ?_)
 apply CW.loop [5,8,9,10,11,12,13,14,15,16,17,18,19,20,21] (fun i : Nat=>i ≤ l.length) (fun i=>[(8,.int .i64 (i : Int))]) (fun i=>St w0 F (rgL b A ((l.take i).foldl Rg.raise S) R)) (fun i=>l.length - i)
 ·exact fun w' hw'=>⟨0,Nat.zero_le _,⟨rfl,trivial⟩,hw'⟩
 intro i g hi
 by_cases hlt : i < l.length
 ·have hs := raise_take S hlt
  obtain ⟨y,hy⟩ : ∃ y,l[i] = y := ⟨_,rfl⟩
  have hly : l[i]? = some y := by rw [List.getElem?_eq_getElem hlt,hy]
  rw [hy] at hs
  generalize (l.take i).foldl Rg.raise S = X at hs ⊢
  repeat'(first|refine gz ?_|(apply idxX;(iterate 2 exact rfl);(iterate 2(first|omega));exact rfl)|(apply addX;(iterate 2 exact rfl);(iterate 2(first|omega));exact rfl)|(apply LR.ev;(·apply Ev.load;(·exact rfl);(·intro w' hw';refine iv_cell (hr w' (hw'.sub subN)) hly ?_;(·simp;done)));(·exact rfl))|(apply LR.ev;(·apply Ev.maxm;(·exact rfl);(·exact rfl));(·exact rfl))|(refine gs ?_ ?_;all_goals(intro hc;try simp only[hcs]at hc;try exact abz)))
  refine At.again (i + 1) (by omega) ?_ ⟨rfl,trivial⟩ (fun w' hw'=>?_) (by omega)
  ·exact outZ
  ·rw [hs]
   exact hw'
 ·have hie : i = l.length := by omega
  subst hie
  rw [List.take_length]
  repeat'(first|refine gz ?_|(refine gs ?_ ?_;all_goals(intro hc;try simp only[hcs]at hc;try exact abz)))
  apply end0
  ·exact rfl
  intro w' hS
  exact hS
theorem r42 (b : Nat) (A : RA) (S : Rg) (al : Option Addr) (cl : Nat) (L2 : List EvA) (w : World) (h : St w0 F (bunE L2 :: rgL b A S R) w) (hr : ∀ w',St w0 F R w' → Rd w' al (L2.flatMap EvA.row)) (hz : al = none → L2.length = 0 ∧ cl = 0) (hl : A.ev.length + L2.length ≤ 10000000) :
  CallsTo Tryz.prog 42 [.pointer (some ⟨b,0,none⟩),.slice al L2.length cl] w fun v w'=>∃ ea' ec',St w0 F (rgL b { A with ea := ea',ec := ec',ev := A.ev ++ L2 } (S.tell (L2.map EvA.e)) R) w' := by
 refine go_inS (n := 15) h Tryz.func42 rfl rfl ?_
 repeat'(first|refine gz ?_|(apply LR.append (xs := A.ev.flatMap EvA.row) (news := L2.flatMap EvA.row) (m := L2.length);(·exact rfl);(·exact rfl);(·intro a' c';exact selZ);(·exact fun w' hw'=>hr w' (hw'.sub subN));(·exact hz);(·exact Go.Hb.rows_len EvA.row_len L2);(·exact Go.Hb.rows_all_one ev_one L2);(·omega);(·unfold maxLen;omega);(·exact rfl);(intro a4 c4))|fail)
 apply end0
 ·exact rfl
 intro w' hS
 refine ⟨a4,c4,?_⟩
 have j1 := front (front hS 13 rfl rfl) 1 rfl rfl
 have j2 := (St.bun_append (f := EvA.body) EvA.dep (St.swap j1)).backTo 12 (by simp) rfl
 have e1 : osl (.slice a4 (A.ev.length + L2.length) c4) 76 26 (A.ev.length + L2.length) (A.ev.flatMap EvA.row ++ L2.flatMap EvA.row) = eS a4 c4 (A.ev ++ L2) := by simp [eS]
 rw [e1] at j2
 have e2 : (A.ev ++ L2).length = A.ev.length + L2.length := by simp
 have e3 : cellsR { A with ea := a4,ec := c4,ev := A.ev ++ L2 } (S.tell (L2.map EvA.e)) = cellsR { A with ea := a4,ec := c4,ev := A.ev ++ L2 } S := rfl
 show St w0 F (rgB b { A with ea := a4,ec := c4,ev := A.ev ++ L2 } S :: _) w'
 unfold rgB cellsR
 simp only [e2]
 exact j2
theorem r118 (b : Nat) (A : RA) (S : Rg) (al : Option Addr) (cl : Nat) (x : PkA) (w : World) (h : St w0 F (x.body :: rgL b A S R) w) (hr : ∀ w',St w0 F R w' → Rd w' al x.row) (hz : al ≠ none) (hl : A.pk.length ≤ 10000000) :
  CallsTo Tryz.prog 118 [.pointer (some ⟨b,0,none⟩),.slice al 1 cl] w fun v w'=>∃ pa' pc',St w0 F (rgL b { A with pa := pa',pc := pc',pk := A.pk ++ [x] } (S.send x.p) R) w' := by
 refine go_inS (n := 15) h Tryz.func118 rfl rfl ?_
 repeat'(first|refine gz ?_|(apply LR.append (xs := A.pk.flatMap PkA.row) (news := x.row) (m := 1);(·exact rfl);(·exact rfl);(·intro a' c';exact selZ);(·exact fun w' hw'=>hr w' (hw'.sub subN));(·exact fun e=>absurd e hz);(·exact x.row_len);(·exact x.one);(·omega);(·unfold maxLen;omega);(·exact rfl);(intro a4 c4))|fail)
 apply end0
 ·exact rfl
 intro w' hS
 refine ⟨a4,c4,?_⟩
 have j1 := front hS 11 rfl rfl
 have j2 := St.bun_snoc (f := PkA.body) PkA.dep PkA.ex (St.swap j1)
 have j3 := j2.backTo 10 (by simp) rfl
 have e1 : osl (.slice a4 (A.pk.length + 1) c4) 63 40 (A.pk.length + 1) (A.pk.flatMap PkA.row ++ x.row) = pS a4 c4 (A.pk ++ [x]) := by simp [pS]
 rw [e1] at j3
 have e2 : (A.pk ++ [x]).length = A.pk.length + 1 := by simp
 show St w0 F (rgB b { A with pa := a4,pc := c4,pk := A.pk ++ [x] } S :: _) w'
 unfold rgB cellsR
 simp only [e2]
 exact j3
def tmOf (g : Int → Int) : Tm := ⟨g 0,g 1,g 2,g 3⟩
def tmI (t : Tm) (g : Int → Int) (i : Int) : Int → Int := fun x=>if 0 ≤ x ∧ x < i then g x else t.get x
theorem tmI_zero (t : Tm) (g : Int → Int) : tmI t g ((0 : Nat) : Int) = t.get := by
 funext x
 unfold tmI
 rw [if_neg (by omega)]
theorem tmI_four (t : Tm) (g : Int → Int) : tmI t g ((4 : Nat) : Int) = (tmOf g).get := by
 funext x
 unfold tmI tmOf Tm.get
 by_cases h : 0 ≤ x ∧ x < ((4 : Nat) : Int)
 ·rw [if_pos h]
  have : x = 0 ∨ x = 1 ∨ x = 2 ∨ x = 3 := by omega
  rcases this with rfl | rfl | rfl | rfl <;> rfl
 ·rw [if_neg h]
  simp only []
  rw [if_neg (by omega),if_neg (by omega),if_neg (by omega),if_neg (by omega),if_neg (by omega),if_neg (by omega),if_neg (by omega),if_neg (by omega)]
theorem tmI_set (t : Tm) (g : Int → Int) (i : Nat) : fset (tmI t g (i : Int)) i (g i) = tmI t g ((i + 1 : Nat) : Int) := by
 funext x
 unfold fset tmI
 by_cases e : x = i
 ·subst e
  rw [if_pos rfl,if_pos (by omega)]
 ·rw [if_neg e]
  by_cases h : 0 ≤ x ∧ x < i
  ·rw [if_pos h,if_pos (by omega)]
  ·rw [if_neg h,if_neg (by omega)]
theorem fset_twice (g : Int → Int) (k u v : Int) : fset (fset g k u) k v = fset g k v := by
 funext x
 unfold fset
 by_cases e : x = k
 ·rw [if_pos e,if_pos e]
 ·rw [if_neg e,if_neg e,if_neg e]
abbrev rgT (A : RA) (S : Rg) (R : List Asrt) : List Asrt :=
 qO A.bq A.fq A.slots A.qL :: wO A.bw A.bm A.es S.now.aru S.now.high :: oB A.bo S.done :: gN A.gp S.g :: nN A.np S.next.aru S.next.high :: aN A.ap :: lastO A S :: pS A.pa A.pc A.pk :: bunP A.pk :: eS A.ea A.ec A.ev :: bunE A.ev :: tabA :: R
theorem r66 (b : Nat) (A : RA) (S : Rg) (st : Int) (bt : Nat) (g : Int → Int) (w : World) (h : St w0 F (nmap bt g :: rgL b A S R) w) (hg : ∀ k,0 ≤ g k ∧ g k ≤ 10000) :
  CallsTo Tryz.prog 66 [.pointer (some ⟨b,0,none⟩),.int .i64 st,.map (some bt)] w fun v w'=>St w0 F (rgL b A (S.become st (tmOf g)) R) w' := by
 refine go_inS (n := 37) h Tryz.func66 rfl rfl ?_
 repeat'(first|refine gz ?_)
 apply CW.loop [6,7,8,13,14,15,16,17,18,19,20,21,22,23,24,25,26,27,28,29,30,31,32,33,34,35,36] (fun i : Nat=>i ≤ 4) (fun i=>[(13,.int .i64 (i : Int))]) (fun i=>St w0 F (nmap bt g :: rgB b A { S with state := st } :: alO A.ba A.bam (tmI S.tm g i) :: rgT A S R)) (fun i=>4 - i)
 ·refine fun w' hw'=>⟨0,Nat.zero_le _,⟨rfl,trivial⟩,?_⟩
  rw [tmI_zero]
  exact hw'
 intro i fr hi
 by_cases hlt : i < 4
 rotate_left
 ·have hie : i = 4 := by omega
  subst hie
  rw [tmI_four]
  repeat'(first|refine gz ?_)
  apply end0
  ·exact rfl
  intro w' hS
  exact hS.sub subN
 have hset := tmI_set S.tm g i
 have hgi := hg i
 by_cases hz : g i = 0
 ·rw [hz] at hset
  repeat'(first|refine gz ?_|(apply addX;(iterate 2 exact rfl);(iterate 2(first|omega));exact rfl)|(apply LR.ev;(·apply Ev.lookupN0 km130;(·exact rfl);(·exact rfl);(·exact fun w' hw'=>hw'.holds (nmap bt g) memZ);(·exact hz));(·exact rfl))|(apply LR.call;(·exact rfl);(intro w1 h1;refine CallsTo.mono (r51 A.ba A.bam _ (i : Int) w1 (h1.holds (alO A.ba A.bam (tmI S.tm g i)) memZ) (by omega)) ?_;rintro v w2 ⟨rfl,st2⟩;refine LR.back (h1.did selZ rfl st2 (alO_dep _ _ _)) ?_;clear st2 h1))|(refine gs ?_ ?_;all_goals(intro hc;try simp only[hcs]at hc;try exact abz)))
  refine At.again (i + 1) (by omega) ?_ ⟨rfl,trivial⟩ (fun w' hw'=>?_) (by omega)
  ·exact outZ
  ·rw [hset] at hw'
   exact hw'
 ·repeat'(first|refine gz ?_|(apply addX;(iterate 2 exact rfl);(iterate 2(first|omega));exact rfl)|(apply LR.ev;(·apply Ev.lookupNv km130;(·exact rfl);(·exact rfl);(·exact fun w' hw'=>hw'.holds (nmap bt g) memZ);(·exact rfl);(·exact hz));(·exact rfl))|(apply LR.call;(·exact rfl);(intro w1 h1;refine CallsTo.mono (r51 A.ba A.bam _ (i : Int) w1 (h1.holds (alO A.ba A.bam (tmI S.tm g i)) memZ) (by omega)) ?_;rintro v w2 ⟨rfl,st2⟩;refine LR.back (h1.did selZ rfl st2 (alO_dep _ _ _)) ?_;clear st2 h1))|(apply LR.call;(·exact rfl);(intro w1 h1;refine CallsTo.mono (r83 A.ba A.bam _ (i : Int) (g i) w1 (h1.holds (alO A.ba A.bam (fset (tmI S.tm g i) i 0)) memZ) (by omega) (by omega)) ?_;rintro v w2 ⟨rfl,st2⟩;refine LR.back (h1.did selZ rfl st2 (alO_dep _ _ _)) ?_;clear st2 h1))|(refine gs ?_ ?_;all_goals(intro hc;try simp only[hcs]at hc;try exact abz)))
  refine At.again (i + 1) (by omega) ?_ ⟨rfl,trivial⟩ (fun w' hw'=>?_) (by omega)
  ·exact outZ
  ·rw [fset_twice,hset] at hw'
   exact hw'
end
end Go.Proofs.YtohbcfokihplbaaGreatDoor
namespace Go.Proofs.YtohbcfokihplbaaGreatDoor
open Go.Hb
theorem _root_.Go.Hb.Sel.split {a a' : Asrt} {L L' : List Asrt} (h : Sel L a a' L') : ∃ M,L'.Perm (a' :: M) ∧ M.Sublist L := by
 induction h with
 | head a a' L=>exact ⟨L,List.Perm.refl _,List.sublist_cons_self ..⟩
 | tail x h ih=>
  obtain ⟨M,h1,h2⟩ := ih
  exact ⟨x :: M,(h1.cons x).trans (List.Perm.swap _ _ _),h2.cons_cons x⟩
theorem _root_.Go.Hb.St.repl {w0 w : World} {F : Nat → Prop} {a x : Asrt} {L L' : List Asrt} (h : St w0 F (x :: L) w) (hs : Sel L a x L') : St w0 F L' w := by
 obtain ⟨M,h1,h2⟩ := hs.split
 exact (h.sub (h2.cons_cons x)).perm h1.symm
def HasC (cs : List Value) : List (Nat × Value) → Prop
 | []=>True
 | q :: r=>cs[q.1]? = some q.2 ∧ HasC cs r
def lookC : List (Nat × Value) → Nat → Option Value
 | [],_=>none
 | q :: r,o=>bif Nat.beq q.1 o then some q.2 else lookC r o
theorem lookC_has {cs : List Value} {o : Nat} {v : Value} : ∀ {l : List (Nat × Value)},HasC cs l → lookC l o = some v → cs[o]? = some v
 | [],_,h=>by cases h
 | q :: r,hh,h=>by
  unfold lookC at h
  cases hb : Nat.beq q.1 o with
  | true=>
   rw [hb] at h
   cases h
   rw [← Nat.eq_of_beq_eq_true hb]
   exact hh.1
  | false=>
   rw [hb] at h
   exact lookC_has hh.2 h
def KpC (w0 : World) (F : Nat → Prop) (Ls : List Asrt) (b : Nat) (E : TypeId) (l : List (Nat × Value)) (w : World) : Prop := St w0 F Ls w ∧ ∃ cs : List Value,w.heap[b]? = some (.cells cs.toArray E (0,0)) ∧ HasC cs l
theorem Ev.loadK {P : Program} {f : Frm} {T T' : TypeId} {x : Operand} {v : Value} {w0 : World} {F : Nat → Prop} {Ls : List Asrt} {b o : Nat} {E : TypeId} {l : List (Nat × Value)} [One P T] (hx : f.ev x = .pointer (some ⟨b,o,none⟩)) (hl : lookC l o = some v) : Ev P (KpC w0 F Ls b E l) f (.load T x) T' v :=
 Ev.load hx fun w hw=>by
  obtain ⟨_,cs,hb,hc⟩ := hw
  rw [cell_own hb]
  simpa using lookC_has hc hl
theorem Ev.loadKA {P : Program} {f : Frm} {T T' : TypeId} {x : Operand} {vs : List Value} {w0 : World} {F : Nat → Prop} {Ls : List Asrt} {b o n : Nat} {E : TypeId} {l : List (Nat × Value)} [Agg P T n] (hx : f.ev x = .pointer (some ⟨b,o,none⟩)) (hn : vs.length = n) (hl : ∀ j v,vs[j]? = some v → lookC l (o + j) = some v) : Ev P (KpC w0 F Ls b E l) f (.load T x) T' (.agg vs.toArray) :=
 Ev.load_agg_at hx hn fun w hw j v hj=>by
  obtain ⟨_,cs,hb,hc⟩ := hw
  rw [addr_add,cell_own hb]
  simpa using lookC_has hc (hl j v hj)
theorem Ev.kpS {P : Program} {f : Frm} {op : Op} {T : TypeId} {v : Value} {w0 : World} {F : Nat → Prop} {Ls : List Asrt} {b : Nat} {E : TypeId} {l : List (Nat × Value)} (h : Ev P (St w0 F Ls) f op T v) : Ev P (KpC w0 F Ls b E l) f op T v :=
 fun w hw d p af g=>h w hw.1 d p af g
attribute [local irreducible] LR CW At Ev thn blk finK noG again CallsTo DW QL dnext TW DP
set_option maxRecDepth 100000
theorem nN_ex (p : Option (Nat × Nat × List DaA)) (a h : Int) : (nN p a h).excl = true := by cases p <;> rfl
theorem aN_ex (p : Option (Nat × Option Addr × Nat × List MsA)) : (aN p).excl = true := by cases p <;> rfl
theorem _root_.Go.Hb.St.lose {w0 w : World} {F : Nat → Prop} {a : Asrt} {L L' : List Asrt} (h : St w0 F L w) (hs : Sel L a triv L') (he : a.excl = true) : St w0 F L' w :=
 h.turn hs he (St.refl w _) trivial (fun _ h=>h.elim) triv_dep
def Nd (w0 : World) (F : Nat → Prop) (b : Nat) (S : Rg) (R : List Asrt) (w : World) : Prop := ∃ A,RepA A S ∧ St w0 F (rgL b A S R) w
theorem Nd.mk {w0 w : World} {F : Nat → Prop} {b : Nat} {S : Rg} {R : List Asrt} {A : RA} (hA : RepA A S) (h : St w0 F (rgL b A S R) w) : Nd w0 F b S R w := ⟨A,hA,h⟩
theorem Nd.le {w0 w : World} {F : Nat → Prop} {b : Nat} {S : Rg} {R R' : List Asrt} (h : Nd w0 F b S R w) (hs : R'.Sublist R) : Nd w0 F b S R' w := by
 obtain ⟨A,hA,h⟩ := h
 refine ⟨A,hA,h.sub ?_⟩
 exact (((((((((((((hs.cons_cons _).cons_cons _).cons_cons _).cons_cons _).cons_cons _).cons_cons _).cons_cons _).cons_cons _).cons_cons _).cons_cons _).cons_cons _).cons_cons _).cons_cons _).cons_cons _
theorem rg_mid {w0 w : World} {F : Nat → Prop} {b : Nat} {A : RA} {S : Rg} {R : List Asrt} (P : List Asrt) (h : St w0 F (P ++ rgL b A S R) w) : St w0 F (rgL b A S (P ++ R)) w :=
 St.mid (P := P) (G := rgL b A S []) (R := R) h
theorem RepA.op_len {A : RA} {S : Rg} (h : RepA A S) : A.pk.length = S.op.length := by rw [← h.pk,List.length_map]
theorem RepA.oe_len {A : RA} {S : Rg} (h : RepA A S) : A.ev.length = S.oe.length := by rw [← h.ev,List.length_map]
theorem RepA.sent {A : RA} {S : Rg} (h : RepA A S) (pa : Option Addr) (pc : Nat) (x : PkA) : RepA { A with pa := pa,pc := pc,pk := A.pk ++ [x] } (S.send x.p) :=
 ⟨h.q,h.ql,h.nd,h.gp,h.np,h.ap,by show (A.pk ++ [x]).map PkA.p = S.op ++ [x.p];rw [List.map_append,h.pk];rfl,h.ev⟩
theorem RepA.told {A : RA} {S : Rg} (h : RepA A S) (ea : Option Addr) (ec : Nat) (l : List EvA) : RepA { A with ea := ea,ec := ec,ev := A.ev ++ l } (S.tell (l.map EvA.e)) :=
 ⟨h.q,h.ql,h.nd,h.gp,h.np,h.ap,h.pk,by show (A.ev ++ l).map EvA.e = S.oe ++ l.map EvA.e;rw [List.map_append,h.ev]⟩
theorem RepA.got {A : RA} {S : Rg} (h : RepA A S) {G : Gth} (hG : S.g = some G) : ∃ p,A.gp = some p := by
 have := h.gp
 rw [hG] at this
 cases hp : A.gp with
 | none=>rw [hp] at this;cases this
 | some p=>exact ⟨p,rfl⟩
def noAd : PAd := ⟨none,0,none,0,none,0⟩
section
variable {w0 : World} {F : Nat → Prop} {R : List Asrt}
theorem rg_ga {b : Nat} {A : RA} {S : Rg} {p : Nat × Nat} {G : Gth} {w : World} {L : List Asrt} (hp : A.gp = some p) (hG : S.g = some G) (h : St w0 F L w) (hm : gN A.gp S.g ∈ L) : (gaO p.1 p.2 G).holds w := by
 have := h.holds _ hm
 rw [hp,hG] at this
 exact this
theorem r68 (b : Nat) (S : Rg) (G : Gth) (w : World) (h : Nd w0 F b S R w) (hG : S.g = some G) (hJ : JOk G) (ho : S.op.length ≤ 1000000) :
  CallsTo Tryz.prog 68 [.pointer (some ⟨b,0,none⟩)] w fun v w'=>Nd w0 F b S.join R w' := by
 obtain ⟨A,hA,h⟩ := h
 obtain ⟨p,hp⟩ := hA.got hG
 have ep : gPtr A.gp = some ⟨p.1,0,none⟩ := by rw [hp];rfl
 have hl := hA.op_len
 have ej : S.join = S.send (joinP (ownJ G)) := by unfold Rg.join Rg.gth;rw [hG];rfl
 rw [ej]
 refine go_inS (n := 11) h Tryz.func68 rfl rfl ?_
 repeat'(first|(apply Go.Hb.kK;(iterate 4 exact rfl);intro bs)|refine gz ?_|(apply kq;(·exact rfl);(·intro w1 h1;have hq := r84 p.1 p.2 G w1 (rg_ga (b := b) hp hG h1 memZ) hJ;rw [← ep] at hq;exact CallsTo.q hq h1))|fail)
 apply LR.call
 ·exact rfl
 intro w1 h1
 have j := rg_mid [_] h1
 refine CallsTo.mono (r118 b A S (some ⟨bs,0,none⟩) 1 ⟨joinP (ownJ G),noAd⟩ w1 (j.pk0 _ ⟨rfl,rfl,rfl⟩ ⟨rfl,rfl,rfl⟩ ⟨rfl,rfl,rfl⟩) (fun w' hw'=>hw'.rd_of_blk (mH _ _)) (by simp) (by omega)) ?_
 rintro v w2 ⟨pa,pc,hw2⟩
 refine LR.back hw2 ?_
 repeat'(first|refine gz ?_)
 apply end0
 ·exact rfl
 intro w' hS
 exact (Nd.mk (hA.sent pa pc ⟨joinP (ownJ G),noAd⟩) hS).le (List.sublist_cons_self ..)
def gatT : Int → Int := fset (fset (fun _=>0) 1 4) 2 20
theorem gatT_of : tmOf gatT = ⟨0,4,20,0⟩ := rfl
theorem fset_bd {g : Int → Int} (h : ∀ k,0 ≤ g k ∧ g k ≤ 10000) (q v : Int) (hv : 0 ≤ v ∧ v ≤ 10000) : ∀ k,0 ≤ fset g q v k ∧ fset g q v k ≤ 10000 := by
 intro k
 unfold fset
 split
 ·exact hv
 ·exact h k
theorem gatT_bd : ∀ k,0 ≤ gatT k ∧ gatT k ≤ 10000 := fset_bd (fset_bd (fun _=>by decide) 1 4 (by decide)) 2 20 (by decide)
def Rg.gat1 (S : Rg) : Rg := { S with next := noWay,again := none,begun := false }
theorem newG_ok (n c : Int) (h : 1 ≤ n ∧ n ≤ 8) : JOk (newG n c) := ⟨List.nodup_nil,fun j hj=>(by cases hj),h⟩
theorem r43 (b : Nat) (S : Rg) (w : World) (h : Nd w0 F b S R w) (hn : 1 ≤ S.node ∧ S.node ≤ 8) (hc : numB S.counter = true) (ho : S.op.length ≤ 1000000) :
  CallsTo Tryz.prog 43 [.pointer (some ⟨b,0,none⟩)] w fun v w'=>Nd w0 F b S.gather R w' := by
 obtain ⟨A,hA,h⟩ := h
 refine go_inS (n := 33) h Tryz.func43 rfl rfl ?_
 repeat'(first|refine gz ?_|(refine LR.makeMapN km130 rfl fun bt=>?_))
 refine LR.insN (g := fun _=>0) (k := 1) (v := 4) km130 rfl rfl rfl (by decide) selZ ?_
 refine LR.insN (g := fset (fun _=>0) 1 4) (k := 2) (v := 20) km130 rfl rfl rfl (by decide) selZ ?_
 repeat'(first|refine gz ?_)
 apply LR.call
 ·exact rfl
 intro w1 h1
 have j1 := h1.lose (a := nN A.np S.next.aru S.next.high) selZ (nN_ex _ _ _)
 have j2 := j1.lose (a := aN A.ap) selZ (aN_ex _)
 refine CallsTo.mono (r66 b { A with np := none,ap := none } S.gat1 0 bt gatT w1 j2 gatT_bd) ?_
 intro v w2 hw2
 rw [gatT_of] at hw2
 refine LR.back hw2 ?_
 clear hw2 j2 j1 h1
 repeat'(first|(apply CW.reg_held (KpC w0 F [] b 94 [(0,.int .i64 S.node),(1,.int .i64 S.counter)]))|refine gz ?_)
 all_goals (
  apply DW.quiet [0,1,2,3,4,5,6,7,8]
  ·decide +kernel
  ·first | exact fun _ h=>⟨St.sub h subN,_,St.own_at h memZ,by repeat (first | exact trivial | refine ⟨rfl,?_⟩)⟩
  repeat'(first|(apply QL.ev;(·exact rfl);(·apply Ev.loadK;(·exact rfl);(·exact rfl));(·exact rfl))|refine gq ?_|apply QL.nil)
  all_goals (show DW _ _ _ _ _ _ _ _))
 all_goals (
  apply DW.loud 9
  ·exact rfl
  ·decide +kernel
  repeat'(first|refine gw ?_|(apply LR.call;(·exact rfl);(intro w1 h1;refine CallsTo.mono (r67 S.node S.counter w1 hn hc) ?_;rintro v w2 ⟨bg,bm,rfl,hn2⟩;refine LR.back (h1.got hn2 (gaO_dep _ _ _)) ?_;clear hn2 h1)))
  all_goals (refine At.stage_same (by first | exact fun _ h=>⟨St.sub h subN,_,St.own_at h memZ,by repeat (first | exact trivial | refine ⟨rfl,?_⟩)⟩) ?_))
 all_goals (
  apply DW.quiet [10,11,12,13,14]
  ·decide +kernel
  ·first | exact fun _ h=>⟨St.sub h subN,_,St.own_at h memZ,by repeat (first | exact trivial | refine ⟨rfl,?_⟩)⟩
  repeat'(first|refine gq ?_|apply QL.nil)
  all_goals (show DW _ _ _ _ _ _ _ _))
 all_goals (
  apply DW.loud 15
  ·exact rfl
  ·decide +kernel
  repeat'(first|refine gw ?_)
  all_goals (refine At.stage_same (by first | exact fun _ h=>⟨St.sub h subN,_,St.own_at h memZ,by repeat (first | exact trivial | refine ⟨rfl,?_⟩)⟩) ?_))
 all_goals (first | (apply DW.done_thn;(·decide +kernel)) |fail)
 repeat'(first|refine gz ?_)
 apply LR.call
 ·exact rfl
 intro w1 h1
 have j1 := h1.repl (a := gN A.gp S.g) selZ
 refine CallsTo.mono (r68 b { S.gat1.become 0 ⟨0,4,20,0⟩ with g := some (newG S.node S.counter) } (newG S.node S.counter) w1 (Nd.mk (A := { A with np := none,ap := none,gp := some (bg,bm) }) ⟨hA.q,hA.ql,hA.nd,rfl,rfl,rfl,hA.pk,hA.ev⟩ j1) rfl (newG_ok _ _ hn) ho) ?_
 rintro v w2 ⟨A3,hA3,hw2⟩
 refine LR.back hw2 ?_
 repeat'(first|refine gz ?_)
 apply end0
 ·exact rfl
 intro w' hS
 exact Nd.mk hA3 hS
theorem r142 (b : Nat) (A : RA) (S : Rg) (w : World) (h : St w0 F (rgL b A S R) w) :
  CallsTo Tryz.prog 142 [.pointer (some ⟨b,0,none⟩)] w fun v w'=>v = .agg S.entry.cells.toArray ∧ St w0 F (rgL b A S R) w' := by
 refine go_inS (n := 30) h Tryz.func142 rfl rfl ?_
 repeat'(first|(apply CW.reg_sinkC 27;(·exact rfl);(·decide +kernel))|refine gz ?_|refine gy fun _=>?_)
 all_goals (
  apply DW.quiet [0,1,2,3,4,5,6,7,8,9,10,11,12,13,14,16,17,18,19,20,22,23,24,25]
  ·decide +kernel
  ·exact stZ
  repeat'(first|refine gq ?_|apply QL.nil)
  all_goals (show DW _ _ _ _ _ _ _ _))
 all_goals (
  apply DW.loud 15
  ·exact rfl
  ·decide +kernel
  repeat'(first|refine gw ?_|(apply kq;(·exact rfl);(·intro w1 h1;first | exact CallsTo.q (show CallsTo Tryz.prog 182 [.pointer (some ⟨A.bw,0,none⟩)] w1 _ from t35 A.bw A.bm A.es S.now.aru S.now.high w1 (h1.holds (wO A.bw A.bm A.es S.now.aru S.now.high) memZ)) h1 )))
  all_goals (refine ats ?_))
 all_goals (
  apply DW.loud 21
  ·exact rfl
  ·decide +kernel
  repeat'(first|refine gw ?_|(apply kq;(·exact rfl);(·intro w1 h1;first | exact CallsTo.q (show CallsTo Tryz.prog 198 [.pointer (some ⟨A.bw,0,none⟩)] w1 _ from t37 A.bw A.bm A.es S.now.aru S.now.high w1 (h1.holds (wO A.bw A.bm A.es S.now.aru S.now.high) memZ)) h1)))
  all_goals (refine ats ?_))
 all_goals (
  apply DW.quiet [26]
  ·decide +kernel
  ·exact stZ
  repeat'(first|refine gq ?_|apply QL.nil)
  all_goals (show DW _ _ _ _ _ _ _ _))
 all_goals (apply DW.done;(·decide +kernel))
 all_goals apply At.sink
 repeat'(first|refine gz ?_)
 (apply ret1c;(·exact rfl);(·exact inferInstance);(·exact rfl);(·exact memY);(·exact rfl);intro w' hS)
 exact ⟨rfl,hS.sub subN⟩
end
end Go.Proofs.YtohbcfokihplbaaGreatDoor
namespace Go.Proofs.YtohbcfokihplbaaGreatDoor
open Go.Hb
attribute [local irreducible] LR CW At Ev thn blk finK noG again CallsTo DW QL dnext TW DP
set_option maxRecDepth 100000
theorem _root_.Go.Hb.St.pkJ {w0 w : World} {F : Nat → Prop} {L : List Asrt} (x : PkA) (h : St w0 F (x.b1 :: x.b2 :: x.b3 :: L) w) : St w0 F (x.body :: L) w := by
 have h1 : St w0 F (x.b2 :: x.b3 :: x.b1 :: L) w := front (front h 2 rfl rfl) 2 rfl rfl
 have h2 : St w0 F (both x.b2 x.b3 :: x.b1 :: L) w := h1.join rfl rfl
 exact h2.swap.join rfl rfl
theorem b1_nil {x : PkA} (h1 : x.ad.da = none ∧ x.ad.dc = 0 ∧ x.p.d.msg.body = []) : x.b1 = osl (.slice none 0 0) 5 1 0 [] := by
 unfold PkA.b1
 rw [h1.1,h1.2.1,h1.2.2]
 rfl
theorem b2_nil {x : PkA} (h1 : x.ad.ta = none ∧ x.ad.tc = 0 ∧ x.p.t.ask = []) : x.b2 = osl (.slice none 0 0) 3 1 0 [] := by
 unfold PkA.b2
 rw [h1.1,h1.2.1,h1.2.2]
 rfl
theorem b3_nil {x : PkA} (h1 : x.ad.ca = none ∧ x.ad.cc = 0 ∧ x.p.c.ents = []) : x.b3 = osl (.slice none 0 0) 91 6 0 [] := by
 unfold PkA.b3
 rw [h1.1,h1.2.1,h1.2.2]
 rfl
theorem _root_.Go.Hb.St.pkC {w0 w : World} {F : Nat → Prop} {L : List Asrt} (x : PkA) (h : St w0 F (x.b3 :: L) w) (h1 : x.ad.da = none ∧ x.ad.dc = 0 ∧ x.p.d.msg.body = []) (h2 : x.ad.ta = none ∧ x.ad.tc = 0 ∧ x.p.t.ask = []) : St w0 F (x.body :: L) w := by
 have j := (h.nilsl 3 1).nilsl 5 1
 rw [← b1_nil h1,← b2_nil h2] at j
 exact j.pkJ
theorem _root_.Go.Hb.St.pkT {w0 w : World} {F : Nat → Prop} {L : List Asrt} (x : PkA) (h : St w0 F (x.b2 :: L) w) (h1 : x.ad.da = none ∧ x.ad.dc = 0 ∧ x.p.d.msg.body = []) (h3 : x.ad.ca = none ∧ x.ad.cc = 0 ∧ x.p.c.ents = []) : St w0 F (x.body :: L) w := by
 have j := (h.nilsl 91 6).nilsl 5 1
 rw [← b1_nil h1,← b3_nil h3] at j
 exact St.pkJ x (front (front j 0 rfl rfl) 2 rfl rfl |> fun q=>front q 1 rfl rfl)
theorem _root_.Go.Hb.St.pkD {w0 w : World} {F : Nat → Prop} {L : List Asrt} (x : PkA) (h : St w0 F (x.b1 :: L) w) (h2 : x.ad.ta = none ∧ x.ad.tc = 0 ∧ x.p.t.ask = []) (h3 : x.ad.ca = none ∧ x.ad.cc = 0 ∧ x.p.c.ents = []) : St w0 F (x.body :: L) w := by
 have j := (h.nilsl 91 6).nilsl 3 1
 rw [← b2_nil h2,← b3_nil h3] at j
 exact St.pkJ x (front j 2 rfl rfl)
section
variable {w0 : World} {F : Nat → Prop} {R : List Asrt}
def losT : Int → Int := fset (fun _=>0) 0 40
theorem losT_of : tmOf losT = ⟨40,0,0,0⟩ := rfl
theorem losT_bd : ∀ k,0 ≤ losT k ∧ losT k ≤ 10000 := fset_bd (fun _=>by decide) 0 40 (by decide)
theorem r131 (b : Nat) (S : Rg) (r1 r2 mem : Int) (w : World) (h : Nd w0 F b S R w) :
  CallsTo Tryz.prog 131 [.pointer (some ⟨b,0,none⟩),.agg [.int .i64 r1,.int .i64 r2].toArray,.int .i64 mem] w fun v w'=>Nd w0 F b (S.enter r1 r2 mem) R w' := by
 obtain ⟨A,hA,h⟩ := h
 refine go_inS (n := 26) h Tryz.func131 rfl rfl ?_
 repeat'(first|refine gz ?_|refine gy fun _=>?_)
 rename_i bx
 apply LR.call
 ·exact rfl
 intro w1 h1
 refine CallsTo.mono (r41 b A S r1 w1 (rg_mid [_] h1)) ?_
 rintro v w2 hw2
 refine LR.back hw2 ?_
 repeat'(first|refine gz ?_)
 apply LR.call
 ·exact rfl
 intro w1 h1
 refine CallsTo.mono (r142 b A { S.keep r1 with next := { S.next with cfg := plainCfg r1 r2 mem 0 } } w1 h1) ?_
 rintro v w2 ⟨rfl,hw2⟩
 refine LR.back hw2 ?_
 repeat'(first|refine gz ?_|(refine LR.makeMapN km130 rfl fun bt=>?_)|(refine LR.insN (g := fun _=>0) (k := 0) (v := 40) km130 rfl rfl rfl (by decide) selZ ?_))
 apply LR.call
 ·exact rfl
 intro w1 h1
 refine CallsTo.mono (r66 b A ({ ({ S.keep r1 with next := { S.next with cfg := plainCfg r1 r2 mem 0 } } : Rg) with own := ({ S.keep r1 with next := { S.next with cfg := plainCfg r1 r2 mem 0 } } : Rg).entry } : Rg) 1 _ losT w1 h1 losT_bd) ?_
 rintro v w2 hw2
 rw [losT_of] at hw2
 refine LR.back hw2 ?_
 repeat'(first|refine gz ?_)
 apply end0
 ·exact rfl
 intro w' hS
 exact Nd.le (S := S.enter r1 r2 mem) (R := [_] ++ R) ⟨A,⟨hA.q,hA.ql,hA.nd,hA.gp,hA.np,hA.ap,hA.pk,hA.ev⟩,hS⟩ (List.sublist_cons_self ..)
theorem r140 (b : Nat) (A : RA) (S : Rg) (G : Gth) (w : World) (h : St w0 F (rgL b A S R) w) (hA : RepA A S) (hG : S.g = some G) (hn : 1 ≤ G.node) (ht : 0 ≤ G.top ∧ G.top ≤ maxN) (hc : 0 ≤ S.counter ∧ S.counter ≤ maxN) :
  CallsTo Tryz.prog 140 [.pointer (some ⟨b,0,none⟩)] w fun v w'=>v = .tuple [.agg [.int .i64 S.number,.int .i64 S.node].toArray,.bool (decide (S.number ≤ maxN))].toArray ∧ St w0 F (rgL b A S R) w' := by
 obtain ⟨p,hp⟩ := hA.got hG
 have ep : gPtr A.gp = some ⟨p.1,0,none⟩ := by rw [hp];rfl
 have en : S.number = max G.top S.counter + 1 := by unfold Rg.number Rg.gth;rw [hG];rfl
 rw [en]
 unfold maxN at ht hc ⊢
 refine go_inS (n := 24) h Tryz.func140 rfl rfl ?_
 repeat'(first|(apply CW.reg_sinkC 11;(·exact rfl);(·decide +kernel))|refine gz ?_|refine gy fun _=>?_)
 all_goals (
  apply DW.quiet [0,1,2,3,5,6,7,8]
  ·decide +kernel
  ·exact stZ
  repeat'(first|refine gq ?_|apply QL.nil)
  all_goals (show DW _ _ _ _ _ _ _ _))
 all_goals (
  apply DW.loud 4
  ·exact rfl
  ·decide +kernel
  repeat'(first|refine gw ?_|(apply kq;(·exact rfl);(·intro w1 h1;have hq := r196 p.1 p.2 G w1 (rg_ga (b := b) hp hG h1 memZ) hn;rw [← ep] at hq;exact CallsTo.q hq h1)))
  all_goals (refine ats ?_))
 all_goals (
  apply DW.quiet [9,10]
  ·decide +kernel
  ·exact stZ
  repeat'(first|(apply QL.ev;(·exact rfl);(·first | exact Ev.maxm rfl rfl | exact Ev.add (a := max G.top S.counter) (b := 1) rfl rfl (by omega) (by omega));(·exact rfl))|apply QL.nil)
  all_goals (show DW _ _ _ _ _ _ _ _))
 all_goals (apply DW.done;(·decide +kernel))
 all_goals apply At.sink
 repeat'(first|refine gz ?_)
 (apply ret2c;(·exact rfl);(·exact inferInstance);(·exact rfl);(·exact memY);(·exact rfl);intro w' hS)
 exact ⟨rfl,hS.sub subN⟩
theorem cmtB_hop {x : Cmt} (h : cmtB x = true) : 0 < (crewL x.mem).length ∧ (crewL x.mem).length ≤ 8 ∧ 1 ≤ x.hop ∧ x.hop ≤ 16 := by
 have h8 : (crewL x.mem).length ≤ 8 := crewTo_len x.mem 8
 unfold cmtB comHead cmtMid at h
 simp only [Bool.and_eq_true,Bool.not_eq_true',decide_eq_false_iff_not,decide_eq_true_eq] at h
 obtain ⟨⟨⟨⟨hck,hm0⟩,_⟩,⟨_,hhop⟩,_⟩,_⟩ := h
 exact ⟨crewL_pos hck hm0,h8,by omega,by omega⟩
theorem tmod_at {i n : Int} (h0 : 0 ≤ i) (hn : 0 < n) : 0 ≤ i.tmod n ∧ i.tmod n < n := ⟨Int.tmod_nonneg _ h0,Int.tmod_lt_of_pos _ hn⟩
def cmtAd (a : Option Addr) (c : Nat) : PAd := ⟨none,0,none,0,a,c⟩
theorem r132 (b : Nat) (A : RA) (S : Rg) (x : Cmt × Int) (a : Option Addr) (c : Nat) (w : World) (h : St w0 F (osl (.slice a x.1.ents.length c) 91 6 x.1.ents.length (x.1.ents.flatMap Ent.cells) :: rgL b A S R) w) (hA : RepA A S) (hx : x.2 = 0 → cmtB x.1 = true) (ho : S.op.length ≤ 1000000) :
  CallsTo Tryz.prog 132 [.pointer (some ⟨b,0,none⟩),x.1.val a c,.int .i64 x.2] w fun v w'=>Nd w0 F b (S.hand x) R w' := by
 obtain ⟨x,e⟩ := x
 simp only at h hx ⊢
 unfold Rg.hand
 simp only
 refine go_inS (n := 25) h Tryz.func132 rfl rfl ?_
 have hl := hA.op_len
 by_cases h0 : e = 0
 rotate_left
 ·rw [if_neg h0]
  repeat'(first|refine gz ?_|refine gy fun _=>?_|(refine gs ?_ ?_;all_goals(intro hc;try simp only[hcs]at hc;try exact abz)))
  apply end0
  ·exact rfl
  intro w' hS
  exact ⟨A,hA,hS.sub subN⟩
 subst h0
 rw [if_pos rfl]
 obtain ⟨k1,k2,k3,k4⟩ := cmtB_hop (hx rfl)
 have k5 := tmod_at (i := x.hop) (n := ((crewL x.mem).length : Int)) (by omega) (by omega)
 obtain ⟨q,hq⟩ : ∃ q,x.hop.tmod ((crewL x.mem).length : Int) = q := ⟨_,rfl⟩
 rw [hq] at k5
 have hat : (crewL x.mem)[q.toNat]? = some (nextN x) := by
  unfold nextN
  rw [hq,List.getD_eq_getElem?_getD,List.getElem?_eq_getElem (by omega)]
  rfl
 have hne : iv (crewL x.mem) ≠ [] := fun e=>by
  have h1 := congrArg List.length e
  rw [iv_length,List.length_nil] at h1
  omega
 repeat'(first|(apply CW.reg_sinkC 12;(·exact rfl);(·decide +kernel))|refine gz ?_|refine gy fun _=>?_|(apply LR.call;(·exact rfl);(intro w1 h1;refine CallsTo.mono (show CallsTo Tryz.prog 120 [.int .i64 x.mem] w1 _ from p97 x.mem w1) ?_;rintro v w2 ⟨al,cl,rfl,hn⟩;obtain ⟨bl,ol,rfl⟩ := (ownsRow_rd hn.own).form hne;refine LR.back (h1.newSl hn) ?_;clear hn h1))|fail)
 all_goals (
  apply DW.quiet [0,1,2,3,4,5,6,7,8,9,10]
  ·decide +kernel
  ·exact stZ
  repeat'(first|(apply QL.ev;(·exact rfl);(·first | (apply Ev.load;(·exact rfl);(·intro w' hw';refine iv_cell (x := nextN x) (hw'.rd_of_own memZ) hat ?_;(·simp;done))) | (apply Ev.rem (a := x.hop) (b := ((crewL x.mem).length : Int));(·exact rfl);(·exact rfl);(·omega)) | (apply Ev.indexAddr;(·exact rfl);(·exact congrArg (Value.int .i64) hq);(·omega);(·omega)));(·exact rfl))|refine gq ?_|apply QL.nil)
  all_goals (show DW _ _ _ _ _ _ _ _))
 all_goals (
  apply DW.loud 11
  ·exact rfl
  ·decide +kernel
  repeat'(first|(apply Go.Hb.kK;(iterate 4 exact rfl);intro bs)|refine gw ?_)
  all_goals (refine ats ?_))
 all_goals (apply DW.done;(·decide +kernel))
 all_goals apply At.sink
 apply LR.call
 ·exact rfl
 intro w1 h1
 have j := front (rg_mid [_,_,_,_] h1) 17 rfl rfl
 refine CallsTo.mono (r118 b A S (some ⟨bs,0,none⟩) 1 ⟨cmtP x,cmtAd a c⟩ w1 (St.pkC ⟨cmtP x,cmtAd a c⟩ j ⟨rfl,rfl,rfl⟩ ⟨rfl,rfl,rfl⟩) (fun w' hw'=>hw'.rd_of_blk (mH _ _)) (by simp) (by omega)) ?_
 rintro v w2 ⟨pa,pc,hw2⟩
 refine LR.back hw2 ?_
 repeat'(first|refine gz ?_)
 apply end0
 ·exact rfl
 intro w' hS
 exact (Nd.mk (hA.sent pa pc ⟨cmtP x,cmtAd a c⟩) hS).le (((List.sublist_cons_self _ _).trans (List.sublist_cons_self _ _)).trans (List.sublist_cons_self _ _))
end
abbrev rgLX (b : Nat) (A : RA) (S : Rg) (X : Asrt) (R : List Asrt) : List Asrt :=
 rgB b A S :: alO A.ba A.bam S.tm.get :: qO A.bq A.fq A.slots A.qL :: wO A.bw A.bm A.es S.now.aru S.now.high :: oB A.bo S.done :: X :: nN A.np S.next.aru S.next.high :: aN A.ap :: lastO A S :: pS A.pa A.pc A.pk :: bunP A.pk :: eS A.ea A.ec A.ev :: bunE A.ev :: tabA :: R
theorem rg_open {b : Nat} {A : RA} {S : Rg} {p : Nat × Nat} {G : Gth} {R : List Asrt} (hp : A.gp = some p) (hG : S.g = some G) : rgL b A S R = rgLX b A S (gaO p.1 p.2 G) R := by
 show rgLX b A S (gN A.gp S.g) R = _
 rw [hp,hG]
 rfl
theorem putJ_s {l : List Jn} {j : Jn} : (putJ l j).map Jn.s = if knows l j.s then l.map Jn.s else l.map Jn.s ++ [j.s] := by
 unfold putJ
 split
 ·rw [List.map_map]
  apply List.map_congr_left
  intro x hx
  show (if x.s = j.s then j else x).s = x.s
  split
  ·rename_i h;exact h.symm
  ·rfl
 ·rw [List.map_append];rfl
theorem putJ_mem {l : List Jn} {j x : Jn} (h : x ∈ putJ l j) : x = j ∨ x ∈ l := by
 unfold putJ at h
 split at h
 ·obtain ⟨y,hy,rfl⟩ := List.mem_map.1 h
  split
  ·exact .inl rfl
  ·exact .inr hy
 ·rcases List.mem_append.1 h with h | h
  ·exact .inr h
  ·exact .inl (by simpa using h)
theorem hearG_ok {G : Gth} {j : Jn} (h : JOk G) : JOk (hearG G j) := by
 unfold hearG
 split
 ·rename_i hm
  simp only [Bool.and_eq_true] at hm
  have hmj := hm.1
  unfold mayJ at hmj
  simp only [Bool.and_eq_true] at hmj
  refine ⟨?_,fun x hx=>?_,h.node⟩
  ·show ((putJ G.last j).map Jn.s).Nodup
   rw [putJ_s]
   split
   ·exact h.nd
   ·rename_i hk
    rw [List.nodup_append]
    refine ⟨h.nd,by simp,fun a ha b hb e=>hk ?_⟩
    rw [List.mem_singleton] at hb
    obtain ⟨y,hy,rfl⟩ := List.mem_map.1 ha
    exact List.any_eq_true.2 ⟨y,hy,by rw [e,hb];simp⟩
  ·rcases putJ_mem hx with rfl | hx
   ·exact hasC_rng hmj.1.2
   ·exact h.rng x hx
 ·exact h
theorem heard_acc : ∀ (l : List Jn) (c : Int),crewOk c = true → (∀ j ∈ l,1 ≤ j.s ∧ j.s ≤ 8) → crewOk (heardL c l) = true ∧ ∀ n,1 ≤ n ∧ n ≤ 8 → hasC (heardL c l) n = (hasC c n || l.any fun j=>decide (n = j.s))
 | [],c,hc,_=>⟨hc,fun n _=>by simp [heardL]⟩
 | e :: r,c,hc,h=>by
  have he := h e (List.mem_cons_self ..)
  obtain ⟨h1,h2⟩ := heard_acc r (orI .i64 c (2 ^ e.s.toNat)) (crew_or hc he) fun x hx=>h x (List.mem_cons_of_mem _ hx)
  refine ⟨h1,fun n hn=>?_⟩
  show hasC (heardL (orI .i64 c (2 ^ e.s.toNat)) r) n = _
  rw [h2 n hn,hasC_or he hn,List.any_cons,Bool.or_assoc]
theorem pow_ok : ∀ n : Int,1 ≤ n ∧ n ≤ 8 → crewOk (2 ^ n.toNat) = true ∧ hasC (2 ^ n.toNat) n = true := by
 intro n hn
 have : ∀ k : Fin 8,crewOk (2 ^ (k.val + 1)) = true ∧ hasC (2 ^ (k.val + 1)) ((k.val + 1 : Nat) : Int) = true := by decide +kernel
 have h := this ⟨n.toNat - 1,by omega⟩
 simp only at h
 rw [show n.toNat - 1 + 1 = n.toNat by omega,show ((n.toNat : Nat) : Int) = n by omega] at h
 exact h
theorem heard_ok {G : Gth} (h : JOk G) : crewOk G.heard = true ∧ hasC G.heard G.node = true := by
 have hp := pow_ok G.node h.node
 obtain ⟨h1,h2⟩ := heard_acc G.last _ hp.1 h.rng
 refine ⟨h1,?_⟩
 show hasC (heardL (2 ^ G.node.toNat) G.last) G.node = true
 rw [h2 G.node h.node,hp.2,Bool.true_or]
theorem crew_I {m : Int} (h : crewOk m = true) : memI m := by
 unfold crewOk at h
 rw [decide_eq_true_eq] at h
 unfold memI
 omega
def Rg.hear3 (X : Rg) : Rg :=
 let mem := X.gth.heard
 if !X.gth.agreed || !decide (leastC mem = X.node) || decide (cntC mem = 1) then X
 else if X.number ≤ maxN then
  let S4 := X.enter X.number X.node mem
  S4.hand (newC X.number X.node mem S4.own)
 else X
def Rg.hear1 (S : Rg) (j : Jn) : Rg := { S with g := some (hearG S.gth j) }
def Rg.hear2 (S : Rg) (j : Jn) : Rg := if grewG S.gth j then (S.hear1 j).join else S.hear1 j
theorem hear_eq (S : Rg) (j : Jn) : S.hear j = (if chgdG S.gth j then { S.hear2 j with tm := (S.hear2 j).tm.set 2 20 } else S.hear2 j).hear3 := by
 have h1 : (S.hear1 j).join.node = S.node := rfl
 unfold Rg.hear Rg.hear3 Rg.hear2
 cases chgdG S.gth j <;> cases grewG S.gth j <;> rfl
theorem chkdC_ok (x : Cmt) : (chkdC x).2 = 0 → cmtB (chkdC x).1 = true := by
 unfold chkdC
 split
 ·rename_i h;exact fun _=>h
 ·intro h;cases h
theorem tm_set (t : Tm) {k v : Int} (h : 0 ≤ k ∧ k < 4) : fset t.get k v = (t.set k v).get := by
 funext x
 have : k = 0 ∨ k = 1 ∨ k = 2 ∨ k = 3 := by omega
 unfold fset Tm.set Tm.get
 rcases this with rfl | rfl | rfl | rfl <;> (simp only [if_pos];try simp) <;> (by_cases h0 : x = 0 <;> by_cases h1 : x = 1 <;> by_cases h2 : x = 2 <;> by_cases h3 : x = 3 <;> simp_all <;> omega)
structure GOk (G : Gth) : Prop where
 j : JOk G
 top : 0 ≤ G.top ∧ G.top ≤ maxN
theorem hearG_gok {G : Gth} {j : Jn} (h : GOk G) : GOk (hearG G j) := by
 refine ⟨hearG_ok h.j,?_⟩
 have ht := h.top
 unfold hearG
 split
 ·rename_i hm
  simp only [Bool.and_eq_true] at hm
  have hmj := hm.1
  unfold mayJ numB at hmj
  simp only [Bool.and_eq_true,decide_eq_true_eq] at hmj
  show 0 ≤ max G.top j.c ∧ max G.top j.c ≤ maxN
  unfold maxN at ht ⊢
  omega
 ·exact ht
section
variable {w0 : World} {F : Nat → Prop} {R : List Asrt}
set_option maxHeartbeats 4000000 in
theorem r129 (b : Nat) (S : Rg) (G : Gth) (j : Jn) (w : World) (h : Nd w0 F b S R w) (hG : S.g = some G) (hJ : GOk G) (hc : 0 ≤ S.counter ∧ S.counter ≤ maxN) (ho : S.op.length ≤ 900000) (hi : -9223372036854775808 ≤ j.p ∧ j.p ≤ 9223372036854775807) :
  CallsTo Tryz.prog 129 [.pointer (some ⟨b,0,none⟩),j.val] w fun v w'=>Nd w0 F b (S.hear j) R w' := by
 obtain ⟨A,hA,h⟩ := h
 obtain ⟨p,hp⟩ := hA.got hG
 have ep : gPtr A.gp = some ⟨p.1,0,none⟩ := by rw [hp];rfl
 have eG : S.gth = G := by unfold Rg.gth;rw [hG];rfl
 rw [hear_eq,eG]
 have eh1 : S.hear1 j = { S with g := some (hearG G j) } := by unfold Rg.hear1;rw [eG]
 rw [rg_open hp hG] at h
 have hJ2 := hearG_gok (j := j) hJ
 have hA1 : RepA A (S.hear1 j) := ⟨hA.q,hA.ql,hA.nd,by rw [hp,eh1];rfl,hA.np,hA.ap,hA.pk,hA.ev⟩
 have hG1 : (S.hear1 j).g = some (hearG G j) := by rw [eh1]
 have eo : ∀ R',rgLX b A S (gaO p.1 p.2 (hearG G j)) R' = rgL b A (S.hear1 j) R' := fun R'=>by rw [rg_open hp hG1];rfl
 refine go_inS (n := 76) h Tryz.func129 rfl rfl ?_
 repeat'(first|(refine kB' fun b3=>?_)|(apply CW.reg_held (St w0 F [.own b3 (.cells j.cells.toArray 56 (0,0)),rgB b A S]))|refine gz ?_)
 all_goals (
  apply DW.quiet [0,1,2,3,4]
  ·decide +kernel
  ·exact stZ
  repeat'(first|refine gq ?_|apply QL.nil)
  all_goals (show DW _ _ _ _ _ _ _ _))
 all_goals (
  apply DW.loud 5
  ·exact rfl
  ·decide +kernel
  repeat'(first|refine gw ?_|(apply LR.call;(·exact rfl);(intro w1 h1;have hq := r187 p.1 p.2 G j w1 (h1.holds (gaO p.1 p.2 G) memZ) hJ.j hi;rw [← ep] at hq;refine CallsTo.mono hq ?_;rintro v w2 ⟨rfl,st⟩;refine LR.back (h1.did selZ rfl st (gaO_dep _ _ _)) ?_;clear st h1 hq)))
  all_goals (refine ats ?_))
 all_goals (
  apply DW.quiet [6,7,8,9,10,11,12]
  ·decide +kernel
  ·exact stZ
  repeat'(first|refine gq ?_|apply QL.nil)
  all_goals (show DW _ _ _ _ _ _ _ _))
 all_goals (first | (apply DW.done_thn;(·decide +kernel)) |fail)
 refine CW.sub (D := St w0 F (rgL b A (S.hear1 j) R)) ?_ (fun w' hw'=>by rw [← eo];exact hw'.sub subN)
 have hnode : (S.hear1 j).node = S.node := rfl
 have hcnt : (S.hear1 j).counter = S.counter := rfl
 have hop : (S.hear1 j).op = S.op := rfl
 have hX : ∃ X,S.hear2 j = X ∧ X.node = S.node ∧ X.counter = S.counter ∧ X.op.length ≤ 900001 ∧ X.g = some (hearG G j) := by
  refine ⟨_,rfl,?_⟩
  unfold Rg.hear2
  split
  ·refine ⟨rfl,rfl,?_,hG1⟩
   show (S.op ++ [_]).length ≤ _
   rw [List.length_append]
   simp
   omega
  ·exact ⟨rfl,rfl,by show S.op.length ≤ _;omega,hG1⟩
 obtain ⟨X,hX,x1,x2,x3,x4⟩ := hX
 rw [hX]
 have hYE : ∃ Y,(if chgdG G j then { X with tm := X.tm.set 2 20 } else X) = Y ∧ Y.node = S.node ∧ Y.counter = S.counter ∧ Y.op.length ≤ 900001 ∧ Y.g = some (hearG G j) := by
  refine ⟨_,rfl,?_⟩
  split
  ·exact ⟨x1,x2,x3,x4⟩
  ·exact ⟨x1,x2,x3,x4⟩
 obtain ⟨Y,hY,y1,y2,y3,y4⟩ := hYE
 rw [hY]
 have eGy : Y.gth = hearG G j := by unfold Rg.gth;rw [y4];rfl
 have hok := heard_ok hJ2.j
 have hc0 : 0 ≤ Y.counter ∧ Y.counter ≤ maxN := by rw [y2];exact hc
 clear hc
 unfold Rg.hear3
 rw [eGy]
 cases hgr : grewG G j <;> cases hch : chgdG G j
 ·have e2 : S.hear1 j = Y := by rw [← hY,← hX,hch];unfold Rg.hear2;rw [eG,hgr];rfl
  rw [e2] at hA1 ⊢
  obtain ⟨p2,hp2⟩ := hA1.got y4
  have ep2 : gPtr A.gp = some ⟨p2.1,0,none⟩ := by rw [hp2];rfl
  repeat'(first|refine gz ?_|refine gy fun _=>?_|(apply LR.ev;(·apply Ev.field (v := .int .i64 (hearG G j).heard) Tryz.underlying56;(·exact rfl);(·exact (inferInstance : One Tryz.prog 3));(·exact rfl);(·exact rfl));(·exact rfl))|(apply kq;(·exact rfl);(·intro w1 h1;first | (have hq := r84 p2.1 p2.2 (hearG G j) w1 (rg_ga (b := b) hp2 y4 h1 memZ) hJ2.j;rw [← ep2] at hq;exact CallsTo.q hq h1) | (have hq := r188 p2.1 p2.2 (hearG G j) w1 (rg_ga (b := b) hp2 y4 h1 memZ) hJ2.j;rw [← ep2] at hq;exact CallsTo.q hq h1) | exact CallsTo.q (r186 (hearG G j).heard w1 hok.1 (h1.rd_of memZ)) h1 | exact CallsTo.q (r25 (hearG G j).heard w1 hok.1) h1))|(apply LR.call;(·exact rfl);(intro w1 h1;refine CallsTo.mono (r140 b A Y (hearG G j) w1 h1 hA1 y4 hJ2.j.node.1 hJ2.top hc0) ?_;rintro v w2 ⟨rfl,hw2⟩;refine LR.back hw2 ?_;clear hw2 h1))|(refine gs ?_ ?_;all_goals(intro hc;try simp only[hcs]at hc;try exact abz)))
  all_goals (
   first
   | (apply ret0;(·exact rfl);intro w' hS
      rw [if_pos (by
       rw [Bool.or_eq_true,Bool.or_eq_true]
       simp only [Bool.not_eq_true',decide_eq_true_eq,decide_eq_false_iff_not]
       first
        | exact .inl (.inl (by assumption))
        | exact .inl (.inr (by assumption))
        | exact .inr (by assumption))]
      exact ⟨A,hA1,hS.sub subN⟩)
   | skip)
  all_goals (
   have hcn : ¬ ((!(hearG G j).agreed || !decide (leastC (hearG G j).heard = Y.node) || decide (cntC (hearG G j).heard = 1)) = true) := by
    rw [Bool.or_eq_true,Bool.or_eq_true]
    simp only [Bool.not_eq_true',decide_eq_true_eq,decide_eq_false_iff_not]
    rintro ((h5 | h5) | h5)
    ·have h6 : (hearG G j).agreed = true := by assumption
     rw [h6] at h5
     cases h5
    ·exact h5 (by assumption)
    ·exact absurd h5 (by assumption)
   rw [if_neg hcn])
  all_goals (
   first
   | (apply end0;(·exact rfl);intro w' hS
      rw [if_neg (by omega)]
      exact ⟨A,hA1,hS.sub subN⟩)
   | skip)
  rw [if_pos (by assumption)]
  apply LR.call
  ·exact rfl
  intro w1 h1
  refine CallsTo.mono (r131 b Y Y.number Y.node (hearG G j).heard w1 ⟨A,hA1,rg_mid [_] h1⟩) ?_
  rintro v w2 ⟨A3,hA3,hw2⟩
  refine LR.back hw2 ?_
  clear hw2 h1
  repeat'(first|(apply CW.reg_sinkC 10;(·exact rfl);(·decide +kernel))|refine gz ?_)
  all_goals (
   apply DW.quiet [0,1,2,3,4,5,6]
   ·decide +kernel
   ·exact stZ
   repeat'(first|refine gq ?_|apply QL.nil)
   all_goals (show DW _ _ _ _ _ _ _ _))
  all_goals (
   apply DW.loud 7
   ·exact rfl
   ·decide +kernel
   repeat'(first|refine gw ?_|(apply LR.call;(·exact rfl);(intro w1 h1;refine CallsTo.mono (show CallsTo Tryz.prog 141 [.agg [.int .i64 Y.number,.int .i64 Y.node].toArray,.int .i64 (hearG G j).heard,.agg (Y.enter Y.number Y.node (hearG G j).heard).own.cells.toArray] w1 _ from r141 _ _ _ _ w1 (crew_I hok.1)) ?_;rintro v w2 ⟨ac,cc,rfl,hn⟩;refine LR.back (h1.newSl hn) ?_;clear hn h1)))
   all_goals (refine ats ?_))
  all_goals (
   apply DW.quiet [8,9]
   ·decide +kernel
   ·exact stZ
   repeat'(first|refine gq ?_|apply QL.nil)
   all_goals (show DW _ _ _ _ _ _ _ _))
  all_goals (apply DW.done;(·decide +kernel))
  all_goals apply At.sink
  apply LR.call
  ·exact rfl
  intro w1 h1
  refine CallsTo.mono (r132 b A3 (Y.enter Y.number Y.node (hearG G j).heard) (newC Y.number Y.node (hearG G j).heard (Y.enter Y.number Y.node (hearG G j).heard).own) ac cc w1 h1 hA3 (chkdC_ok _) (by show Y.op.length ≤ _;omega)) ?_
  rintro v w2 ⟨A4,hA4,hw2⟩
  refine LR.back hw2 ?_
  repeat'(first|refine gz ?_)
  apply end0
  ·exact rfl
  intro w' hS
  exact Nd.le (R := [_] ++ R) ⟨A4,hA4,hS⟩ (List.sublist_cons_self ..)
 ·have e2 : S.hear1 j = X := by rw [← hX];unfold Rg.hear2;rw [eG,hgr];rfl
  have e3 : ({ X with tm := X.tm.set 2 20 } : Rg) = Y := by rw [← hY,hch];rfl
  rw [e2] at hA1 ⊢
  repeat'(first|refine gz ?_|(apply LR.call;(·exact rfl);(intro w1 h1;refine CallsTo.mono (r83 A.ba A.bam X.tm.get 2 20 w1 (h1.holds (alO A.ba A.bam X.tm.get) memZ) (by decide) (by decide)) ?_;rintro v w2 ⟨rfl,st⟩;have h2 := h1.did selZ rfl st (alO_dep _ _ _);rw [tm_set _ (by decide)] at h2;have h3 : St w0 F (rgL b A { X with tm := X.tm.set 2 20 } R) w2 := h2;rw [e3] at h3;refine LR.back h3 ?_;clear h3 h2 st h1))|fail)
  replace hA1 : RepA A { X with tm := X.tm.set 2 20 } := ⟨hA1.q,hA1.ql,hA1.nd,hA1.gp,hA1.np,hA1.ap,hA1.pk,hA1.ev⟩
  rw [e3] at hA1
  obtain ⟨p2,hp2⟩ := hA1.got y4
  have ep2 : gPtr A.gp = some ⟨p2.1,0,none⟩ := by rw [hp2];rfl
  repeat'(first|refine gz ?_|refine gy fun _=>?_|(apply LR.ev;(·apply Ev.field (v := .int .i64 (hearG G j).heard) Tryz.underlying56;(·exact rfl);(·exact (inferInstance : One Tryz.prog 3));(·exact rfl);(·exact rfl));(·exact rfl))|(apply kq;(·exact rfl);(·intro w1 h1;first | (have hq := r84 p2.1 p2.2 (hearG G j) w1 (rg_ga (b := b) hp2 y4 h1 memZ) hJ2.j;rw [← ep2] at hq;exact CallsTo.q hq h1) | (have hq := r188 p2.1 p2.2 (hearG G j) w1 (rg_ga (b := b) hp2 y4 h1 memZ) hJ2.j;rw [← ep2] at hq;exact CallsTo.q hq h1) | exact CallsTo.q (r186 (hearG G j).heard w1 hok.1 (h1.rd_of memZ)) h1 | exact CallsTo.q (r25 (hearG G j).heard w1 hok.1) h1))|(apply LR.call;(·exact rfl);(intro w1 h1;refine CallsTo.mono (r140 b A Y (hearG G j) w1 h1 hA1 y4 hJ2.j.node.1 hJ2.top hc0) ?_;rintro v w2 ⟨rfl,hw2⟩;refine LR.back hw2 ?_;clear hw2 h1))|(refine gs ?_ ?_;all_goals(intro hc;try simp only[hcs]at hc;try exact abz)))
  all_goals (
   first
   | (apply ret0;(·exact rfl);intro w' hS
      rw [if_pos (by
       rw [Bool.or_eq_true,Bool.or_eq_true]
       simp only [Bool.not_eq_true',decide_eq_true_eq,decide_eq_false_iff_not]
       first
        | exact .inl (.inl (by assumption))
        | exact .inl (.inr (by assumption))
        | exact .inr (by assumption))]
      exact ⟨A,hA1,hS.sub subN⟩)
   | skip)
  all_goals (
   have hcn : ¬ ((!(hearG G j).agreed || !decide (leastC (hearG G j).heard = Y.node) || decide (cntC (hearG G j).heard = 1)) = true) := by
    rw [Bool.or_eq_true,Bool.or_eq_true]
    simp only [Bool.not_eq_true',decide_eq_true_eq,decide_eq_false_iff_not]
    rintro ((h5 | h5) | h5)
    ·have h6 : (hearG G j).agreed = true := by assumption
     rw [h6] at h5
     cases h5
    ·exact h5 (by assumption)
    ·exact absurd h5 (by assumption)
   rw [if_neg hcn])
  all_goals (
   first
   | (apply end0;(·exact rfl);intro w' hS
      rw [if_neg (by omega)]
      exact ⟨A,hA1,hS.sub subN⟩)
   | skip)
  rw [if_pos (by assumption)]
  apply LR.call
  ·exact rfl
  intro w1 h1
  refine CallsTo.mono (r131 b Y Y.number Y.node (hearG G j).heard w1 ⟨A,hA1,rg_mid [_] h1⟩) ?_
  rintro v w2 ⟨A3,hA3,hw2⟩
  refine LR.back hw2 ?_
  clear hw2 h1
  repeat'(first|(apply CW.reg_sinkC 10;(·exact rfl);(·decide +kernel))|refine gz ?_)
  all_goals (
   apply DW.quiet [0,1,2,3,4,5,6]
   ·decide +kernel
   ·exact stZ
   repeat'(first|refine gq ?_|apply QL.nil)
   all_goals (show DW _ _ _ _ _ _ _ _))
  all_goals (
   apply DW.loud 7
   ·exact rfl
   ·decide +kernel
   repeat'(first|refine gw ?_|(apply LR.call;(·exact rfl);(intro w1 h1;refine CallsTo.mono (show CallsTo Tryz.prog 141 [.agg [.int .i64 Y.number,.int .i64 Y.node].toArray,.int .i64 (hearG G j).heard,.agg (Y.enter Y.number Y.node (hearG G j).heard).own.cells.toArray] w1 _ from r141 _ _ _ _ w1 (crew_I hok.1)) ?_;rintro v w2 ⟨ac,cc,rfl,hn⟩;refine LR.back (h1.newSl hn) ?_;clear hn h1)))
   all_goals (refine ats ?_))
  all_goals (
   apply DW.quiet [8,9]
   ·decide +kernel
   ·exact stZ
   repeat'(first|refine gq ?_|apply QL.nil)
   all_goals (show DW _ _ _ _ _ _ _ _))
  all_goals (apply DW.done;(·decide +kernel))
  all_goals apply At.sink
  apply LR.call
  ·exact rfl
  intro w1 h1
  refine CallsTo.mono (r132 b A3 (Y.enter Y.number Y.node (hearG G j).heard) (newC Y.number Y.node (hearG G j).heard (Y.enter Y.number Y.node (hearG G j).heard).own) ac cc w1 h1 hA3 (chkdC_ok _) (by show Y.op.length ≤ _;omega)) ?_
  rintro v w2 ⟨A4,hA4,hw2⟩
  refine LR.back hw2 ?_
  repeat'(first|refine gz ?_)
  apply end0
  ·exact rfl
  intro w' hS
  exact Nd.le (R := [_] ++ R) ⟨A4,hA4,hS⟩ (List.sublist_cons_self ..)
 ·have e2 : (S.hear1 j).join = Y := by rw [← hY,← hX,hch];unfold Rg.hear2;rw [eG,hgr];rfl
  repeat'(first|refine gz ?_|(apply LR.call;(·exact rfl);(intro w1 h1;refine CallsTo.mono (r68 b (S.hear1 j) (hearG G j) w1 ⟨A,hA1,h1⟩ hG1 hJ2.j (by rw [hop];omega)) ?_;rintro v w2 ⟨A,hA1,hw2⟩;rw [e2] at hw2 hA1;refine LR.back hw2 ?_;clear hw2 h1))|fail)
  rename_i A hA1
  obtain ⟨p2,hp2⟩ := hA1.got y4
  have ep2 : gPtr A.gp = some ⟨p2.1,0,none⟩ := by rw [hp2];rfl
  repeat'(first|refine gz ?_|refine gy fun _=>?_|(apply LR.ev;(·apply Ev.field (v := .int .i64 (hearG G j).heard) Tryz.underlying56;(·exact rfl);(·exact (inferInstance : One Tryz.prog 3));(·exact rfl);(·exact rfl));(·exact rfl))|(apply kq;(·exact rfl);(·intro w1 h1;first | (have hq := r84 p2.1 p2.2 (hearG G j) w1 (rg_ga (b := b) hp2 y4 h1 memZ) hJ2.j;rw [← ep2] at hq;exact CallsTo.q hq h1) | (have hq := r188 p2.1 p2.2 (hearG G j) w1 (rg_ga (b := b) hp2 y4 h1 memZ) hJ2.j;rw [← ep2] at hq;exact CallsTo.q hq h1) | exact CallsTo.q (r186 (hearG G j).heard w1 hok.1 (h1.rd_of memZ)) h1 | exact CallsTo.q (r25 (hearG G j).heard w1 hok.1) h1))|(apply LR.call;(·exact rfl);(intro w1 h1;refine CallsTo.mono (r140 b A Y (hearG G j) w1 h1 hA1 y4 hJ2.j.node.1 hJ2.top hc0) ?_;rintro v w2 ⟨rfl,hw2⟩;refine LR.back hw2 ?_;clear hw2 h1))|(refine gs ?_ ?_;all_goals(intro hc;try simp only[hcs]at hc;try exact abz)))
  all_goals (
   first
   | (apply ret0;(·exact rfl);intro w' hS
      rw [if_pos (by
       rw [Bool.or_eq_true,Bool.or_eq_true]
       simp only [Bool.not_eq_true',decide_eq_true_eq,decide_eq_false_iff_not]
       first
        | exact .inl (.inl (by assumption))
        | exact .inl (.inr (by assumption))
        | exact .inr (by assumption))]
      exact ⟨A,hA1,hS.sub subN⟩)
   | skip)
  all_goals (
   have hcn : ¬ ((!(hearG G j).agreed || !decide (leastC (hearG G j).heard = Y.node) || decide (cntC (hearG G j).heard = 1)) = true) := by
    rw [Bool.or_eq_true,Bool.or_eq_true]
    simp only [Bool.not_eq_true',decide_eq_true_eq,decide_eq_false_iff_not]
    rintro ((h5 | h5) | h5)
    ·have h6 : (hearG G j).agreed = true := by assumption
     rw [h6] at h5
     cases h5
    ·exact h5 (by assumption)
    ·exact absurd h5 (by assumption)
   rw [if_neg hcn])
  all_goals (
   first
   | (apply end0;(·exact rfl);intro w' hS
      rw [if_neg (by omega)]
      exact ⟨A,hA1,hS.sub subN⟩)
   | skip)
  rw [if_pos (by assumption)]
  apply LR.call
  ·exact rfl
  intro w1 h1
  refine CallsTo.mono (r131 b Y Y.number Y.node (hearG G j).heard w1 ⟨A,hA1,rg_mid [_] h1⟩) ?_
  rintro v w2 ⟨A3,hA3,hw2⟩
  refine LR.back hw2 ?_
  clear hw2 h1
  repeat'(first|(apply CW.reg_sinkC 10;(·exact rfl);(·decide +kernel))|refine gz ?_)
  all_goals (
   apply DW.quiet [0,1,2,3,4,5,6]
   ·decide +kernel
   ·exact stZ
   repeat'(first|refine gq ?_|apply QL.nil)
   all_goals (show DW _ _ _ _ _ _ _ _))
  all_goals (
   apply DW.loud 7
   ·exact rfl
   ·decide +kernel
   repeat'(first|refine gw ?_|(apply LR.call;(·exact rfl);(intro w1 h1;refine CallsTo.mono (show CallsTo Tryz.prog 141 [.agg [.int .i64 Y.number,.int .i64 Y.node].toArray,.int .i64 (hearG G j).heard,.agg (Y.enter Y.number Y.node (hearG G j).heard).own.cells.toArray] w1 _ from r141 _ _ _ _ w1 (crew_I hok.1)) ?_;rintro v w2 ⟨ac,cc,rfl,hn⟩;refine LR.back (h1.newSl hn) ?_;clear hn h1)))
   all_goals (refine ats ?_))
  all_goals (
   apply DW.quiet [8,9]
   ·decide +kernel
   ·exact stZ
   repeat'(first|refine gq ?_|apply QL.nil)
   all_goals (show DW _ _ _ _ _ _ _ _))
  all_goals (apply DW.done;(·decide +kernel))
  all_goals apply At.sink
  apply LR.call
  ·exact rfl
  intro w1 h1
  refine CallsTo.mono (r132 b A3 (Y.enter Y.number Y.node (hearG G j).heard) (newC Y.number Y.node (hearG G j).heard (Y.enter Y.number Y.node (hearG G j).heard).own) ac cc w1 h1 hA3 (chkdC_ok _) (by show Y.op.length ≤ _;omega)) ?_
  rintro v w2 ⟨A4,hA4,hw2⟩
  refine LR.back hw2 ?_
  repeat'(first|refine gz ?_)
  apply end0
  ·exact rfl
  intro w' hS
  exact Nd.le (R := [_] ++ R) ⟨A4,hA4,hS⟩ (List.sublist_cons_self ..)
 ·have e2 : (S.hear1 j).join = X := by rw [← hX];unfold Rg.hear2;rw [eG,hgr];rfl
  have e3 : ({ X with tm := X.tm.set 2 20 } : Rg) = Y := by rw [← hY,hch];rfl
  repeat'(first|refine gz ?_|(apply LR.call;(·exact rfl);(intro w1 h1;first | (refine CallsTo.mono (r68 b (S.hear1 j) (hearG G j) w1 ⟨A,hA1,h1⟩ hG1 hJ2.j (by rw [hop];omega)) ?_;rintro v w2 ⟨A,hA1,hw2⟩;rw [e2] at hw2 hA1;refine LR.back hw2 ?_;clear hw2 h1) | (refine CallsTo.mono (r83 A.ba A.bam X.tm.get 2 20 w1 (h1.holds (alO A.ba A.bam X.tm.get) memZ) (by decide) (by decide)) ?_;rintro v w2 ⟨rfl,st⟩;have h2 := h1.did selZ rfl st (alO_dep _ _ _);rw [tm_set _ (by decide)] at h2;have h3 : St w0 F (rgL b A { X with tm := X.tm.set 2 20 } R) w2 := h2;rw [e3] at h3;refine LR.back h3 ?_;clear h3 h2 st h1)))|fail)
  replace hA1 : RepA A { X with tm := X.tm.set 2 20 } := ⟨hA1.q,hA1.ql,hA1.nd,hA1.gp,hA1.np,hA1.ap,hA1.pk,hA1.ev⟩
  rw [e3] at hA1
  obtain ⟨p2,hp2⟩ := hA1.got y4
  have ep2 : gPtr A.gp = some ⟨p2.1,0,none⟩ := by rw [hp2];rfl
  repeat'(first|refine gz ?_|refine gy fun _=>?_|(apply LR.ev;(·apply Ev.field (v := .int .i64 (hearG G j).heard) Tryz.underlying56;(·exact rfl);(·exact (inferInstance : One Tryz.prog 3));(·exact rfl);(·exact rfl));(·exact rfl))|(apply kq;(·exact rfl);(·intro w1 h1;first | (have hq := r84 p2.1 p2.2 (hearG G j) w1 (rg_ga (b := b) hp2 y4 h1 memZ) hJ2.j;rw [← ep2] at hq;exact CallsTo.q hq h1) | (have hq := r188 p2.1 p2.2 (hearG G j) w1 (rg_ga (b := b) hp2 y4 h1 memZ) hJ2.j;rw [← ep2] at hq;exact CallsTo.q hq h1) | exact CallsTo.q (r186 (hearG G j).heard w1 hok.1 (h1.rd_of memZ)) h1 | exact CallsTo.q (r25 (hearG G j).heard w1 hok.1) h1))|(apply LR.call;(·exact rfl);(intro w1 h1;refine CallsTo.mono (r140 b A Y (hearG G j) w1 h1 hA1 y4 hJ2.j.node.1 hJ2.top hc0) ?_;rintro v w2 ⟨rfl,hw2⟩;refine LR.back hw2 ?_;clear hw2 h1))|(refine gs ?_ ?_;all_goals(intro hc;try simp only[hcs]at hc;try exact abz)))
  all_goals (
   first
   | (apply ret0;(·exact rfl);intro w' hS
      rw [if_pos (by
       rw [Bool.or_eq_true,Bool.or_eq_true]
       simp only [Bool.not_eq_true',decide_eq_true_eq,decide_eq_false_iff_not]
       first
        | exact .inl (.inl (by assumption))
        | exact .inl (.inr (by assumption))
        | exact .inr (by assumption))]
      exact ⟨A,hA1,hS.sub subN⟩)
   | skip)
  all_goals (
   have hcn : ¬ ((!(hearG G j).agreed || !decide (leastC (hearG G j).heard = Y.node) || decide (cntC (hearG G j).heard = 1)) = true) := by
    rw [Bool.or_eq_true,Bool.or_eq_true]
    simp only [Bool.not_eq_true',decide_eq_true_eq,decide_eq_false_iff_not]
    rintro ((h5 | h5) | h5)
    ·have h6 : (hearG G j).agreed = true := by assumption
     rw [h6] at h5
     cases h5
    ·exact h5 (by assumption)
    ·exact absurd h5 (by assumption)
   rw [if_neg hcn])
  all_goals (
   first
   | (apply end0;(·exact rfl);intro w' hS
      rw [if_neg (by omega)]
      exact ⟨A,hA1,hS.sub subN⟩)
   | skip)
  rw [if_pos (by assumption)]
  apply LR.call
  ·exact rfl
  intro w1 h1
  refine CallsTo.mono (r131 b Y Y.number Y.node (hearG G j).heard w1 ⟨A,hA1,rg_mid [_] h1⟩) ?_
  rintro v w2 ⟨A3,hA3,hw2⟩
  refine LR.back hw2 ?_
  clear hw2 h1
  repeat'(first|(apply CW.reg_sinkC 10;(·exact rfl);(·decide +kernel))|refine gz ?_)
  all_goals (
   apply DW.quiet [0,1,2,3,4,5,6]
   ·decide +kernel
   ·exact stZ
   repeat'(first|refine gq ?_|apply QL.nil)
   all_goals (show DW _ _ _ _ _ _ _ _))
  all_goals (
   apply DW.loud 7
   ·exact rfl
   ·decide +kernel
   repeat'(first|refine gw ?_|(apply LR.call;(·exact rfl);(intro w1 h1;refine CallsTo.mono (show CallsTo Tryz.prog 141 [.agg [.int .i64 Y.number,.int .i64 Y.node].toArray,.int .i64 (hearG G j).heard,.agg (Y.enter Y.number Y.node (hearG G j).heard).own.cells.toArray] w1 _ from r141 _ _ _ _ w1 (crew_I hok.1)) ?_;rintro v w2 ⟨ac,cc,rfl,hn⟩;refine LR.back (h1.newSl hn) ?_;clear hn h1)))
   all_goals (refine ats ?_))
  all_goals (
   apply DW.quiet [8,9]
   ·decide +kernel
   ·exact stZ
   repeat'(first|refine gq ?_|apply QL.nil)
   all_goals (show DW _ _ _ _ _ _ _ _))
  all_goals (apply DW.done;(·decide +kernel))
  all_goals apply At.sink
  apply LR.call
  ·exact rfl
  intro w1 h1
  refine CallsTo.mono (r132 b A3 (Y.enter Y.number Y.node (hearG G j).heard) (newC Y.number Y.node (hearG G j).heard (Y.enter Y.number Y.node (hearG G j).heard).own) ac cc w1 h1 hA3 (chkdC_ok _) (by show Y.op.length ≤ _;omega)) ?_
  rintro v w2 ⟨A4,hA4,hw2⟩
  refine LR.back hw2 ?_
  repeat'(first|refine gz ?_)
  apply end0
  ·exact rfl
  intro w' hS
  exact Nd.le (R := [_] ++ R) ⟨A4,hA4,hS⟩ (List.sublist_cons_self ..)
end
end Go.Proofs.YtohbcfokihplbaaGreatDoor
