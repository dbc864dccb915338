/-
  chart, old, Check, Unpack: one by the other.
-/
import Derived.Test.YtohbcfokihplbaaGreatDoorRLCM2
import Derived.KernelRfl
set_option linter.unusedSimpArgs false
set_option linter.unusedVariables false
namespace Go.Hb
structure Stp (H G : Prop) : Prop where
 go : H → G
structure Stq (H K G : Prop) : Prop where
 go : H → K → G
section
variable {m : Bool} {P : Program} {n : Nat} {ops rest : List Oper} {Q : Post} {f : Frm} {C S : World → Prop} {op : Op} {T T' T'' : TypeId} {p : String} {af : Array Edge} {d : Nat} {v : Value} {x y : Operand} {L L' : List Asrt} {K : Frm → Prop} {r : List Nat} {i j dj : Nat} {b : Bool}
theorem kv2 (he : Ev P C f op T v := by first | exact evV_sound rfl | ((first | apply Ez | apply Ey);(·exact rfl);(·repeat (first | exact iO | exact iR rfl | apply iT));exact rfl) | ((first | apply Ev.fieldAddr | apply Ev.len | apply EqOf.eq | apply EqOf.ne | apply Ev.conv | apply Ev.buildN);exact rfl) | ((first | apply Ev.shr | apply Ev.shl);(iterate 2 exact rfl);first | decide | omega)) (hd : Nat.blt d n = true := by exact rfl) : Stp (LR m P n ops rest Q (upd f d v) C) (LR m P n ops (⟨some d,op,T,p,af,none⟩ :: rest) Q f C) := ⟨fun k=>kv' k he hd⟩
theorem yv2 (hi : ops[i]? = some ⟨some d,op,T,p,af,none⟩ := by exact rfl) (he : Ev P S f op T v := by first | exact evV_sound rfl | ((first | apply Ez | apply Ey);(·exact rfl);(·repeat (first | exact iO | exact iR rfl | apply iT));exact rfl) | ((first | apply Ev.fieldAddr | apply Ev.len | apply EqOf.eq | apply EqOf.ne | apply Ev.conv | apply Ev.buildN);exact rfl) | ((first | apply Ev.shr | apply Ev.shl);(iterate 2 exact rfl);first | decide | omega)) (hd : Nat.blt d n = true := by exact rfl) : Stp (QL P n ops S K r (upd f d v)) (QL P n ops S K (i :: r) f) := ⟨fun k=>yv' k hi he hd⟩
theorem uv2 (hi : ops[i]? = some ⟨some d,op,T,p,af,some (j,b)⟩ := by exact rfl) (hj : (ops[j]?).bind (·.dst) = some dj := by exact rfl) (hb : f dj = .bool b := by exact rfl) (he : Ev P S f op T v := by first | exact evV_sound rfl | ((first | apply Ez | apply Ey);(·exact rfl);(·repeat (first | exact iO | exact iR rfl | apply iT));exact rfl) | ((first | apply Ev.fieldAddr | apply Ev.len | apply EqOf.eq | apply EqOf.ne | apply Ev.conv | apply Ev.buildN);exact rfl) | ((first | apply Ev.shr | apply Ev.shl);(iterate 2 exact rfl);first | decide | omega)) (hd : Nat.blt d n = true := by exact rfl) : Stp (QL P n ops S K r (upd f d v)) (QL P n ops S K (i :: r) f) := ⟨fun k=>uv' k hi hj hb he hd⟩
theorem un2 (hi : ops[i]? = some ⟨some d,op,T,p,af,some (j,b)⟩ := by exact rfl) (hj : (ops[j]?).bind (·.dst) = some dj := by exact rfl) (hb : noV (f dj) b = true := by exact rfl) (hd : Nat.blt d n = true := by exact rfl) : Stp (QL P n ops S K r (upd f d undef)) (QL P n ops S K (i :: r) f) := ⟨fun k=>un' k hi hj hb hd⟩
theorem jE2 {c : Operand} {x y z : Code} (hb : selC (f.ev c) x y = some z := by exact rfl) : Stp (CW P n z Q f C) (CW P n (.cond c x y) Q f C) := ⟨fun k=>jE' k hb⟩
theorem jp2 {id j : Nat} (hj : Nat.beq j id = false := by exact rfl) : Stp (At Q (.exit j) f C) (At (blk id Q) (.exit j) f C) := ⟨fun k=>jp' k hj⟩
theorem kg2 {dst : Option Tmp} (hj : (ops[j]?).bind (·.dst) = some dj := by exact rfl) (hb : f dj = .bool b := by exact rfl) : Stp (LR m P n ops (⟨dst,op,T,p,af,none⟩ :: rest) Q f C) (LR m P n ops (⟨dst,op,T,p,af,some (j,b)⟩ :: rest) Q f C) := ⟨fun k=>kg' k hj hb⟩
theorem kG2 (hj : (ops[j]?).bind (·.dst) = some dj := by exact rfl) (hb : noV (f dj) b = true := by exact rfl) (hd : Nat.blt d n = true := by exact rfl) : Stp (LR m P n ops rest Q (upd f d undef) C) (LR m P n ops (⟨some d,op,T,p,af,some (j,b)⟩ :: rest) Q f C) := ⟨fun k=>kG' k hj hb hd⟩
theorem kR2 {op' : Op} {dst : Option Tmp} {c : Bool} (hj : (ops[j]?).bind (·.dst) = some dj := by exact rfl) (hb : f dj = .bool c := by exact rfl) : Stq (c = true → LR m P n ops (⟨dst,op',T,p,af,some (j,b)⟩ :: rest) Q (upd f dj (.bool true)) C) (c = false → LR m P n ops (⟨dst,op',T,p,af,some (j,b)⟩ :: rest) Q (upd f dj (.bool false)) C) (LR m P n ops (⟨dst,op',T,p,af,some (j,b)⟩ :: rest) Q f C) := ⟨fun k1 k2=>kR' k1 k2 hj hb⟩
theorem kQ2 {c : Operand} {s t : Code} (hb : f.ev c = .bool b := by exact rfl) : Stq (b = true → CW P n s Q f C) (b = false → CW P n t Q f C) (CW P n (.cond c s t) Q f C) := ⟨fun k1 k2=>kQ' k1 k2 hb⟩
end
section
variable {m : Bool} {P : Program} {n : Nat} {ops rest : List Oper} {Q : Post} {f : Frm} {F : Nat → Prop} {w0 : World} {T T' T'' : TypeId} {p : String} {af : Array Edge} {d : Nat} {x y : Operand} {L L' : List Asrt}
theorem kB2 {cs : List Value} (hv : cellV (f.ev x) = some cs := by exact rfl) (hd : Nat.blt d n = true := by exact rfl) : Stp (∀ b,LR false P n ops rest Q (upd f d (.pointer (some ⟨b,0,none⟩))) (St w0 F (.own b (.cells cs.toArray T (0,0)) :: L))) (LR false P n ops (⟨some d,.box T x,T',p,af,none⟩ :: rest) Q f (St w0 F L)) := ⟨fun k=>kB' k hv hd⟩
theorem kA2 {cs : List Value} [h : ZeroOf P T cs] (hd : Nat.blt d n = true := by exact rfl) : Stp (∀ b,LR false P n ops rest Q (upd f d (.pointer (some ⟨b,0,none⟩))) (St w0 F (.own b (.cells cs.toArray T (0,0)) :: L))) (LR false P n ops (⟨some d,.alloc T,T',p,af,none⟩ :: rest) Q f (St w0 F L)) := ⟨fun k=>kA' k hd⟩
theorem kK2 {E : TypeId} {sz by_ len : Nat} [h : SliceOf P T E sz by_] {parts : List (Nat × Operand)} {cs : List Value} (hd : Nat.blt d n = true := by exact rfl) (hlen : Nat.ble (len * sz) 100000 = true := by exact rfl) (hp : parts.map (·.1) = List.range len := by exact rfl) (hb : bsN f sz parts = some cs := by exact rfl) : Stp (∀ b,LR false P n ops rest Q (upd f d (.slice (some ⟨b,0,none⟩) len len)) (St w0 F (.own b (.cells cs.toArray E (0,0)) :: L))) (LR false P n ops (⟨some d,.buildSlice T len parts.toArray,T',p,af,none⟩ :: rest) Q f (St w0 F L)) := ⟨fun k=>kK' k hd hlen hp hb⟩
theorem kU2 {b o q : Nat} {cs vs cs' : List Value} {E : TypeId} [h : Sz P T q] (hx : f.ev x = .pointer (some ⟨b,o,none⟩) := by exact rfl) (hv : cellV (f.ev y) = some vs := by exact rfl) (hs : Sel L (.own b (.cells cs.toArray E (0,0))) (.own b (.cells cs'.toArray E (0,0))) L' := by (repeat (first | exact sH _ _ _ | apply sT));done) (hn : splice cs o vs = cs' := by first | exact nfL_eq rfl | exact rfl) (h1 : (vs.all Value.oneCell' && Nat.beq vs.length q && Nat.ble (o + vs.length) cs.length) = true := by exact rfl) : Stp (LR false P n ops rest Q f (St w0 F L')) (LR false P n ops (⟨none,.store T x y,T',p,af,none⟩ :: rest) Q f (St w0 F L)) := ⟨fun k=>kU' k hx hv hs hn h1⟩
end
theorem jJ2 {G H : Prop} [h : Nx G H] : Stp H G := ⟨h.go⟩
theorem jc2 {P : Program} {n : Nat} {Q : Post} {f : Frm} {C : World → Prop} {id : Nat} {l : List Oper} [hm : Mixed P] [hc : Drawn C] (hB : Region.lexB .any l.toArray = true := by kernel_rfl) : Stp (LR true P n l l Q f C) (CW P n (.region id l.toArray true) Q f C) := ⟨jc hB⟩
theorem kM2 {P : Program} {n : Nat} {Q : Post} {f : Frm} {C : World → Prop} {m : Bool} {ops : List Oper} : Stp (At Q .normal f C) (LR m P n ops [] Q f C) := ⟨kM⟩
theorem gz {G H : Prop} (k : H) (h : Stp H G := by first | exact kv2 | exact jJ2 | exact jE2 | exact jp2 | exact jc2 | exact kg2 | exact kG2 | exact kU2) : G := h.go k
theorem gx {G H : Prop} (k : H) (h : Stp H G := by first | exact kv2 | exact jJ2 | exact jE2 | exact jp2 | exact kg2 | exact kG2 | exact kU2) : G := h.go k
theorem gy {G : Prop} {H : Nat → Prop} (k : ∀ b,H b) (h : Stp (∀ b,H b) G := by first | exact kB2 | exact kA2 | exact kK2) : G := h.go k
theorem gw {G H : Prop} (k : H) (h : Stp H G := by first | exact kg2 | exact kG2 | exact kM2 | exact kv2 | exact kU2) : G := h.go k
theorem gs {G H K : Prop} (a : H) (b : K) (h : Stq H K G := by first | exact kR2 | exact kQ2) : G := h.go a b
theorem gq {G H : Prop} (k : H) (h : Stp H G := by first | exact yv2 | exact uv2 | exact un2) : G := h.go k
theorem abz {G : Prop} (h : False := by first | contradiction | omega) : G := h.elim
theorem subN {α : Type} {L L' : List α} (h : L'.Sublist L := by repeat (first | exact List.Sublist.refl _ | exact List.nil_sublist _ | apply List.Sublist.cons_cons | apply List.Sublist.cons)) : L'.Sublist L := h
theorem memY {α : Type} {a : α} {L : List α} (h : a ∈ L := by repeat (first | exact List.Mem.head _ | apply List.Mem.tail)) : a ∈ L := h
theorem stZ {C S : World → Prop} (h : ∀ w,C w → S w := by first | exact fun _ h=>h | exact fun _ h=>St.sub h (by repeat (first | exact List.Sublist.refl _ | exact List.nil_sublist _ | apply List.Sublist.cons_cons | apply List.Sublist.cons))) : ∀ w,C w → S w := h
theorem outZ {M : List Nat} {f g : Frm} (h : Out M f g := by repeat (first | exact Out.refl _ _ | exact Out.mix | (apply Out.upd;(·exact rfl)) | (apply Out.updL;(·exact rfl)) | (apply Out.mixs;(·exact rfl)))) : Out M f g := h
theorem ats {P : Program} {n : Nat} {ops : List Oper} {Q : Post} {f : Frm} {C : World → Prop} {done : List Nat} {S : World → Prop} (h : DW P n ops Q done S f C) (hc : ∀ w,C w → S w := by first | exact fun _ h=>St.sub h (by repeat (first | exact List.Sublist.refl _ | exact List.nil_sublist _ | apply List.Sublist.cons_cons | apply List.Sublist.cons))) : At (dnext P n ops Q done S) .normal f C := At.stage_same hc h
end Go.Hb
namespace Go.Proofs.YtohbcfokihplbaaGreatDoor
open Go.Hb
attribute [local irreducible] LR CW At Ev thn blk finK again CallsTo
set_option maxRecDepth 100000
def numB (x : Int) : Bool := decide (0 ≤ x) && decide (x ≤ 9007199254740991)
theorem c95 (x : Int) (w : World) : CallsTo Tryz.prog 170 [.int .i64 x] w fun v w'=>v = .bool (numB x) ∧ Grew w w' := by
 refine go_in (n := 9) (St.refl _ NoF) Tryz.func170 rfl rfl ?_
 repeat'(first|refine gz ?_|(refine gs ?_ ?_;all_goals(intro hc;try simp only[hcs]at hc;try exact abz)))
 all_goals (
  (apply ret1;(·exact rfl);intro w' hS)
  refine ⟨congrArg Value.bool ?_,hS⟩
  simp [numB, *];try omega)
def withinB (x a b : Int) : Bool := decide (a ≤ x) && decide (x ≤ b)
theorem c59 (x a b : Int) (w : World) : CallsTo Tryz.prog 145 [.int .i64 x,.int .i64 a,.int .i64 b] w fun v w'=>v = .bool (withinB x a b) ∧ Grew w w' := by
 refine go_in (n := 15) (St.refl _ NoF) Tryz.func145 rfl rfl ?_
 repeat'(first|refine gz ?_|(refine gs ?_ ?_;all_goals(intro hc;try simp only[hcs]at hc;try exact abz)))
 all_goals (
  (apply ret1;(·exact rfl);intro w' hS)
  refine ⟨congrArg Value.bool ?_,hS⟩
  simp [withinB, *];try omega)
def ringB (s r : Int) : Bool := decide (s = 0 ∧ r = 0) || (decide (0 < s) && numB s && decide (0 < r) && decide (r ≤ 8))
def ringE (s r : Int) : Int := if ringB s r then 0 else 2
theorem c81 (s r : Int) (w : World) : CallsTo Tryz.prog 121 [.agg [.int .i64 s,.int .i64 r].toArray] w fun v w'=>v = .int .i64 (ringE s r) ∧ Grew w w' := by
 refine go_in (n := 26) (St.refl _ NoF) Tryz.func121 rfl rfl ?_
 repeat'(first|refine gz ?_|refine gy fun _=>?_|(apply kq;(·exact rfl);(·intro w1 h1;exact CallsTo.q (c95 _ w1) h1))|(refine gs ?_ ?_;all_goals(intro hc;try simp only[hcs]at hc;try exact abz)))
 all_goals (
  (apply ret1;(·exact rfl);intro w' hS)
  refine ⟨congrArg (Value.int .i64) ?_,hS.toKeep⟩
  simp_all [ringE,ringB];try omega)
def keyB (t s r q : Int) : Bool := numB t && numB q && ringB s r
def keyE (t s r q : Int) : Int := if keyB t s r q then 0 else 2
theorem c60 (t s r q : Int) (w : World) : CallsTo Tryz.prog 146 [.agg [.int .i64 t,.int .i64 s,.int .i64 r,.int .i64 q].toArray] w fun v w'=>v = .int .i64 (keyE t s r q) ∧ Grew w w' := by
 refine go_in (n := 16) (St.refl _ NoF) Tryz.func146 rfl rfl ?_
 repeat'(first|refine gz ?_|refine gy fun _=>?_|(apply kq;(·exact rfl);(·intro w1 h1;exact CallsTo.q (c95 _ w1) h1))|(apply kq;(·exact rfl);(·intro w1 h1;exact CallsTo.q (c81 _ _ w1) h1))|(refine gs ?_ ?_;all_goals(intro hc;try simp only[hcs]at hc;try exact abz)))
 all_goals (
  (apply ret1;(·exact rfl);intro w' hS)
  refine ⟨congrArg (Value.int .i64) ?_,hS.toKeep⟩
  simp_all [keyE,keyB,ringE];try omega)
end Go.Proofs.YtohbcfokihplbaaGreatDoor
namespace Go.Proofs.YtohbcfokihplbaaGreatDoor
open Go.Hb
attribute [local irreducible] LR CW At Ev thn blk finK noG again CallsTo
set_option maxRecDepth 100000
def NewB (w w' : World) (v : Value) (l : List Int) : Prop := ∃ a c,v = .slice a l.length c ∧ NewSl w w' (.slice a l.length c) 5 1 l.length (bv l)
theorem c86 (a : Option Addr) (ca : Nat) (l : List Int) (w : World) (hr : Rd w a (bv l)) (hz : a = none → ca = 0) (hm : l.length ≤ 140737488355328) :
  CallsTo Tryz.prog 89 [.slice a l.length ca] w fun v w'=>NewB w w' v l := by
 refine go_in (n := 8) (St.rd1 hr) Tryz.func89 rfl rfl ?_
 cases a with
 | none=>
  have h0 := hr.none_len rfl
  repeat'(first|refine gz ?_)
  (apply ret1;(·exact rfl);intro w' hS)
  have hl : l = [] := List.eq_nil_of_length_eq_zero h0
  subst hl
  exact ⟨_,_,rfl,⟨hS.toKeep,World.ownsRow_nil _ _ _ _⟩⟩
 | some ad=>
  repeat'(first|refine gz ?_|refine gy fun _=>?_)
  refine LR.own_osl (k := 0) (sz := 1) (E := 5) (cs := []) (Sel.head _ _ _) (by simp) (by unfold maxLen;omega) ?_
  refine LR.append (xs := []) (news := bv l) rfl rfl (fun a' c'=>Sel.head _ _ _) (fun w' hw'=>hw'.rd_of (List.Mem.tail _ (List.Mem.head _))) (fun hx=>⟨hr.none_len hx,hz hx⟩) (by simp) (bv_one l) (by omega) (by unfold maxLen;omega) rfl ?_
  intro a' c'
  repeat'(first|refine gz ?_)
  (apply ret1;(·exact rfl);intro w' hS)
  simp only [Nat.zero_add,List.nil_append] at hS
  exact ⟨a',c',by show Value.slice a' (0 + l.length) c' = _;rw [Nat.zero_add],hS.toNew (List.Mem.head _)⟩
def wrF (bw : Nat) (a : Option Addr) : Nat → Prop := fun k=>k = bw ∨ ∃ ad,a = some ad ∧ k = ad.block
def wrP (T : Nat) (ex : List Value) (bw : Nat) (a : Option Addr) (c : Nat) (l : List Int) : World → Prop := fun w=>
 w.heap[bw]? = some (.cells (.slice a l.length c :: ex).toArray T (0,0)) ∧ w.ownsRow 0 5 1 (.slice a l.length c) l.length (bv l) ∧ ∀ ad,a = some ad → ad.block ≠ bw
def wrA (T : Nat) (ex : List Value) (bw : Nat) (a : Option Addr) (c : Nat) (l : List Int) : Asrt := .ex (wrF bw a) (wrP T ex bw a c l)
def wr1 (T : Nat) (ex : List Value) (bw : Nat) (a : Option Addr) (c : Nat) (l : List Int) : Asrt := .own bw (.cells (.slice a l.length c :: ex).toArray T (0,0))
def wr2 (a : Option Addr) (c : Nat) (l : List Int) : Asrt := osl (.slice a l.length c) 5 1 l.length (bv l)
theorem wrA_dep {T : Nat} {ex : List Value} (bw : Nat) (a : Option Addr) (c : Nat) (l : List Int) : (wrA T ex bw a c l).dep := by
 intro w w' hk ⟨h1,h2,h3⟩
 refine ⟨by rw [hk bw (.inl rfl)];exact h1,?_,h3⟩
 refine osl.dep _ _ _ _ _ w w' (fun k hk2=>hk k ?_) h2
 simp only [osl,Asrt.foot] at hk2
 cases a with
 | none=>simp [Value.ownBlock] at hk2
 | some ad=>simp [Value.ownBlock] at hk2;exact .inr ⟨ad,rfl,hk2.symm⟩
theorem wr_live {T : Nat} {ex : List Value} {w : World} {bw : Nat} {a : Option Addr} {c : Nat} {l : List Int} (h : wrP T ex bw a c l w) : ∀ k,wrF bw a k → k < w.heap.size := by
 rintro k (rfl | ⟨ad,rfl,rfl⟩)
 ·exact (Array.getElem?_eq_some_iff.1 h.1).1
 ·exact (h.2.1.lt _ rfl).2
theorem wr_open {T : Nat} {ex : List Value} {w0 w : World} {F : Nat → Prop} {R : List Asrt} {bw : Nat} {a : Option Addr} {c : Nat} {l : List Int} (h : St w0 F (wrA T ex bw a c l :: R) w) : St w0 F (wr1 T ex bw a c l :: wr2 a c l :: R) w := by
 have hh : wrP T ex bw a c l w := h.holds _ (List.Mem.head _)
 refine h.split rfl hh.1 hh.2.1 (fun k hk=>.inl hk) (fun k hk=>?_) (fun k hk hk2=>?_) (Asrt.dep_own _ _) (osl.dep _ _ _ _ _)
 ·cases a with
  | none=>simp [wr2,osl,Asrt.foot,Value.ownBlock] at hk
  | some ad=>simp [wr2,osl,Asrt.foot,Value.ownBlock] at hk;exact .inr ⟨ad,rfl,hk.symm⟩
 ·have hk' : k = bw := hk
  subst hk'
  cases a with
  | none=>simp [wr2,osl,Asrt.foot,Value.ownBlock] at hk2
  | some ad=>simp [wr2,osl,Asrt.foot,Value.ownBlock] at hk2;exact hh.2.2 ad rfl hk2
theorem wr_shut {T : Nat} {ex : List Value} {w0 w : World} {F : Nat → Prop} {R : List Asrt} {bw : Nat} {a : Option Addr} {c : Nat} {l : List Int} (h : St w0 F (wr1 T ex bw a c l :: wr2 a c l :: R) w) : St w0 F (wrA T ex bw a c l :: R) w := by
 refine h.merge rfl rfl ⟨h.holds _ (List.Mem.head _),h.holds _ (List.Mem.tail _ (List.Mem.head _)),fun ad ha hb=>?_⟩ (fun k hk=>?_) (wrA_dep _ _ _ _)
 ·obtain ⟨d1,_⟩ := List.pairwise_cons.1 h.dis
  exact d1 (wr2 a c l) (by simp) rfl bw rfl (by subst ha;simp [wr2,osl,Asrt.foot,Value.ownBlock,hb])
 ·rcases hk with hk | ⟨ad,rfl,rfl⟩
  ·exact .inl hk
  ·exact .inr (by simp [wr2,osl,Asrt.foot,Value.ownBlock])
theorem wr_start {T : Nat} {ex : List Value} {w : World} {bw : Nat} {a : Option Addr} {c : Nat} {l : List Int} (h : wrP T ex bw a c l w) : St w (wrF bw a) [wr1 T ex bw a c l,wr2 a c l] w :=
 wr_open (St.one (a := wrA T ex bw a c l) h (wr_live h) (wrA_dep _ _ _ _))
theorem wr_end {T : Nat} {ex : List Value} {w w' : World} {R : List Asrt} {bw : Nat} {a a' : Option Addr} {c c' : Nat} {l l' : List Int} (h : St w (wrF bw a) (wr1 T ex bw a' c' l' :: wr2 a' c' l' :: R) w') : Step (wrA T ex bw a c l) (wrA T ex bw a' c' l') w w' :=
 St.step (R := R) (wr_shut h) rfl
theorem wr_same {T : Nat} {ex : List Value} {w w' : World} {R : List Asrt} {bw : Nat} {a : Option Addr} {c : Nat} {l : List Int} (h : St w (wrF bw a) (wr1 T ex bw a c l :: wr2 a c l :: R) w') : Step (wrA T ex bw a c l) (wrA T ex bw a c l) w w' := wr_end h
theorem wr_hold {T : Nat} {ex : List Value} {w0 w : World} {F : Nat → Prop} {R : List Asrt} {bw : Nat} {a : Option Addr} {c : Nat} {l : List Int} (h : St w0 F (wr1 T ex bw a c l :: wr2 a c l :: R) w) : wrP T ex bw a c l w :=
 (wr_shut h).holds _ (List.Mem.head _)
theorem wr_did {T : Nat} {ex : List Value} {w0 w w' : World} {F : Nat → Prop} {R : List Asrt} {bw : Nat} {a a' : Option Addr} {c c' : Nat} {l l' : List Int} (h : St w0 F (wr1 T ex bw a c l :: wr2 a c l :: R) w) (st : Step (wrA T ex bw a c l) (wrA T ex bw a' c' l') w w') :
  St w0 F (wr1 T ex bw a' c' l' :: wr2 a' c' l' :: R) w' := wr_open ((wr_shut h).did (Sel.head _ _ _) rfl st (wrA_dep _ _ _ _))
theorem wr_start_rd {T : Nat} {ex : List Value} {w : World} {bw : Nat} {a b : Option Addr} {c : Nat} {l : List Int} {xs : List Value} (h : wrP T ex bw a c l w) (hb : Rd w b xs) (hd : ∀ k,rdFoot b xs k → ¬ wrF bw a k) : St w (wrF bw a) [wr1 T ex bw a c l,wr2 a c l,rdA b xs] w :=
 wr_open ((St.one (a := wrA T ex bw a c l) h (wr_live h) (wrA_dep _ _ _ _)).addRd hb hd |>.swap)
theorem wr_new {T : Nat} {ex : List Value} {w0 w : World} {F : Nat → Prop} {R : List Asrt} {bw : Nat} (h : St w0 F (.own bw (.cells (.slice none 0 0 :: ex).toArray T (0,0)) :: R) w) : St w0 F (wr1 T ex bw none 0 [] :: wr2 none 0 [] :: R) w := by
 have h2 : St w0 F (wr2 none 0 [] :: .own bw (.cells (.slice none 0 0 :: ex).toArray T (0,0)) :: R) w :=
  h.push (Grew.refl w) (World.ownsRow_nil w 0 5 1) (fun k hk=>by simp [wr2,osl,Asrt.foot,Value.ownBlock] at hk) (osl.dep _ _ _ _ _)
 exact h2.swap
theorem c88 (bw : Nat) (v : Value) (w : World) (h : w.heap[bw]? = some (.cells [v,.bool true].toArray 364 (0,0))) : CallsTo Tryz.prog 380 [.pointer (some ⟨bw,0,none⟩)] w fun u w'=>u = .bool false ∧ Grew w w' := by
 refine go_in (n := 12) (St.rd1 (a := some ⟨bw,0,none⟩) (xs := [v,.bool true]) (fun j u hj=>⟨_,rfl,by rw [addr_add,cell_own h];simpa using hj⟩)) Tryz.func380 rfl rfl ?_
 repeat'(first|refine gz ?_)
 all_goals (
  (apply ret1;(·exact rfl);intro w' hS)
  exact ⟨rfl,hS.toKeep⟩)
def encF : Nat → Nat → List Int
 | 0,x=>[(x : Int)]
 | k + 1,x=>if x < 128 then [(x : Int)] else ((x % 128 + 128 : Nat) : Int) :: encF k (x / 128)
def enc (x : Nat) : List Int := encF 8 x
def putE (x : Int) : Int := if 0 ≤ x ∧ x ≤ 9007199254740991 then 0 else 9
def putL (x : Int) : List Int := if 0 ≤ x ∧ x ≤ 9007199254740991 then enc x.toNat else []
theorem encF_len : ∀ k x,(encF k x).length ≤ k + 1
 | 0,x=>by simp [encF]
 | k + 1,x=>by
  unfold encF;split
  ·simp
  ·have := encF_len k (x / 128);simp;omega
theorem encF_small (k x : Nat) (h : x < 128) : encF k x = [(x : Int)] := by cases k <;> simp [encF,h]
theorem or_more : ∀ a : Nat,a < 256 → orI .u8 (a : Int) 128 = ((a % 128 + 128 : Nat) : Int) := by decide +kernel
theorem wrap_u8 (x : Nat) : IntKind.u8.wrap (x : Int) = ((x % 256 : Nat) : Int) := by
 simp [IntKind.wrap,IntKind.signed,IntKind.bits]
theorem wrap_u64 {x : Int} (h : 0 ≤ x) (h2 : x < 18446744073709551616) : IntKind.u64.wrap x = x := by
 simp [IntKind.wrap,IntKind.signed,IntKind.bits];omega
theorem shr7 (x : Nat) : (x : Int).fdiv (2 ^ (min (7 : Int).toNat IntKind.u64.bits)) = ((x / 128 : Nat) : Int) := by
 have : (2 : Int) ^ (min (7 : Int).toNat IntKind.u64.bits) = 128 := by decide
 rw [this,Int.fdiv_eq_ediv_of_nonneg _ (by omega)];omega
set_option maxHeartbeats 1000000 in
theorem c87 (bw : Nat) (a : Option Addr) (c : Nat) (l : List Int) (x : Int) (w : World) (h : wrP 364 [.bool true] bw a c l w) (hm : l.length ≤ 1099511627776) :
  CallsTo Tryz.prog 379 [.pointer (some ⟨bw,0,none⟩),.int .i64 x] w fun v w'=>∃ a' c',v = .int .i64 (putE x) ∧ Step (wrA 364 [.bool true] bw a c l) (wrA 364 [.bool true] bw a' c' (l ++ putL x)) w w' := by
 refine go_in (n := 45) (wr_start h) Tryz.func379 rfl rfl ?_
 by_cases hx : 0 ≤ x ∧ x ≤ 9007199254740991
 ·repeat'(first|refine gz ?_|(apply LR.qcall;(·exact rfl);(·intro w1 h1;exact CallsTo.q (c88 _ _ w1 (h1.own_at (List.Mem.head _))) h1))|(refine gs ?_ ?_;all_goals(intro hc;try simp only[hcs]at hc;try exact abz)))
  apply CW.loop [4,5,18,19,20,21,22,23,24,25,26,27,28,29,30,31,32,33,34,35,36,37,38,39,40,41,42,43,44] (fun s : Nat × Nat × List Int × Option Addr × Nat=>l ++ enc x.toNat = s.2.2.1 ++ encF s.1 s.2.1 ∧ s.2.1 < 128 ^ (s.1 + 1) ∧ s.1 ≤ 8)
   (fun s=>[(5,Value.int .u64 (s.2.1 : Int))]) (fun s=>St w (wrF bw a) [wr1 364 [.bool true] bw s.2.2.2.1 s.2.2.2.2 s.2.2.1,wr2 s.2.2.2.1 s.2.2.2.2 s.2.2.1]) (fun s=>s.1)
  ·refine fun w' hw'=>⟨(8,x.toNat,l,a,c),⟨rfl,?_,by simp⟩,⟨?_,trivial⟩,hw'⟩
   ·show x.toNat < 128 ^ 9
    have : (128 : Nat) ^ 9 = 9223372036854775808 := by decide
    omega
   ·show Value.int .u64 (IntKind.u64.wrap x) = Value.int .u64 ((x.toNat : Nat) : Int)
    rw [wrap_u64 (by omega) (by omega),Int.toNat_of_nonneg (by omega)]
  rintro ⟨k,y,l',a',c'⟩ g ⟨he,hy,hk⟩
  simp only at he hy hk ⊢
  have hlen : l'.length ≤ l.length + 9 := by
   have h1 := congrArg List.length he
   simp only [List.length_append] at h1
   have h2 := encF_len 8 x.toNat
   unfold enc at h1
   omega
  by_cases hs : y < 128
  ·repeat'(first|refine gz ?_|refine gy fun _=>?_|(refine LR.append rfl rfl (fun a' c'=>Sel.tail _ (Sel.tail _ (Sel.head _ _ _))) (fun w' hw'=>hw'.rd_of_blk (List.Mem.head _)) (by simp) rfl rfl (by omega) (by unfold maxLen;omega) rfl ?_;intro a2 c2)|(refine gs ?_ ?_;all_goals(intro hc;try simp only[hcs]at hc;try exact abz)))
   (apply ret1;(·exact rfl);intro w' hS)
   have hp : l ++ putL x = l' ++ [(y : Int)] := by unfold putL;rw [if_pos hx,he,encF_small _ _ hs]
   refine ⟨a2,c2,by unfold putE;rw [if_pos hx];rfl,?_⟩
   rw [hp]
   refine wr_end (R := []) (hS.tail1.cast ?_)
   simp [wr1,wr2,splice,wrap_u8,Nat.mod_eq_of_lt (show y < 256 by omega),bv]
  ·repeat'(first|refine gz ?_|refine gy fun _=>?_|(refine LR.append rfl rfl (fun a' c'=>Sel.tail _ (Sel.tail _ (Sel.head _ _ _))) (fun w' hw'=>hw'.rd_of_blk (List.Mem.head _)) (by simp) rfl rfl (by omega) (by unfold maxLen;omega) rfl ?_;intro a2 c2)|(refine gs ?_ ?_;all_goals(intro hc;try simp only[hcs]at hc;try exact abz)))
   obtain ⟨k',rfl⟩ : ∃ k',k = k' + 1 := by
    cases k with
    | zero=>simp at hy;omega
    | succ k'=>exact ⟨k',rfl⟩
   apply At.again (k',y / 128,l' ++ [((y % 128 + 128 : Nat) : Int)],a2,c2)
   ·refine ⟨?_,?_,by show k' ≤ 8;omega⟩
    ·show l ++ enc x.toNat = (l' ++ [_]) ++ encF k' (y / 128)
     rw [he,encF,if_neg hs,List.append_assoc];rfl
    ·show y / 128 < 128 ^ (k' + 1)
     rw [Nat.pow_succ] at hy;omega
   ·exact outZ
   ·refine ⟨?_,trivial⟩
    show Value.int .u64 ((y : Int).fdiv (2 ^ (min (7 : Int).toNat IntKind.u64.bits))) = Value.int .u64 ((y / 128 : Nat) : Int)
    rw [shr7]
   ·intro w' hw'
    refine hw'.tail1.cast ?_
    have ho : orI .u8 ((y % 256 : Nat) : Int) 128 = ((y % 128 + 128 : Nat) : Int) := by rw [or_more _ (by omega)];congr 2;omega
    simp only [wr1,wr2,splice,wrap_u8,ho,bv]
    simp
   ·show k' < k' + 1;omega
 ·repeat'(first|refine gz ?_|(apply LR.qcall;(·exact rfl);(·intro w1 h1;exact CallsTo.q (c88 _ _ w1 (h1.own_at (List.Mem.head _))) h1))|(refine gs ?_ ?_;all_goals(intro hc;try simp only[hcs]at hc;try exact abz)))
  all_goals (
   (apply ret1;(·exact rfl);intro w' hS)
   have hp : putL x = [] := by unfold putL;rw [if_neg hx]
   have hq : putE x = 9 := by unfold putE;rw [if_neg hx]
   refine ⟨a,c,by rw [hq];rfl,?_⟩
   rw [hp,List.append_nil]
   exact wr_same hS)
theorem c53 (w : World) : CallsTo Tryz.prog 356 [] w fun v w'=>∃ bw,v = .pointer (some ⟨bw,0,none⟩) ∧ New1 (wrA 364 [.bool true] bw none 0 []) w w' := by
 refine go_in (n := 3) (St.refl _ NoF) Tryz.func356 rfl rfl ?_
 repeat'(first|refine gz ?_|refine gy fun _=>?_)
 (apply ret1;(·exact rfl);intro w' hS)
 exact ⟨_,rfl,(wr_shut (wr_new hS)).new1 rfl⟩
theorem putE_len {l : List Int} (h : l.length ≤ 1099511627776) : putE (l.length : Int) = 0 := by unfold putE;rw [if_pos (by omega)]
theorem putL_len {l : List Int} (h : l.length ≤ 1099511627776) : putL (l.length : Int) = enc l.length := by unfold putL;rw [if_pos (by omega)];rfl
theorem c55 (bw : Nat) (a b : Option Addr) (c cb : Nat) (l lb : List Int) (w : World) (h : wrP 364 [.bool true] bw a c l w) (hb : Rd w b (bv lb)) (hz : b = none → cb = 0) (hd : ∀ k,rdFoot b (bv lb) k → ¬ wrF bw a k) (hm : l.length ≤ 1099511627776) (hm2 : lb.length ≤ 1099511627776) :
  CallsTo Tryz.prog 358 [.pointer (some ⟨bw,0,none⟩),.slice b lb.length cb] w fun v w'=>∃ a' c',v = .int .i64 0 ∧ Step (wrA 364 [.bool true] bw a c l) (wrA 364 [.bool true] bw a' c' (l ++ enc lb.length ++ lb)) w w' := by
 have hel : (enc lb.length).length ≤ 9 := encF_len 8 _
 refine go_in (n := 22) (wr_start_rd h hb hd) Tryz.func358 rfl rfl ?_
 have e1 := putE_len hm2
 have e2 := putL_len hm2
 repeat'(first|refine gz ?_|(apply LR.call;(·exact rfl);(intro w1 h1;refine (c87 _ _ _ _ _ w1 (wr_hold h1) (by first | omega )).mono ?_;rintro v w2 ⟨a2,c2,rfl,st⟩;refine LR.back (wr_did h1 st) ?_;clear st h1))|(refine gs ?_ ?_;all_goals(intro hc;try simp only[hcs]at hc;try exact abz)))
 rw [e1,e2]
 repeat'(first|refine gz ?_|(refine LR.append rfl rfl (fun a' c'=>Sel.tail _ (Sel.head _ _ _)) (fun w' hw'=>hw'.rd_of (List.Mem.tail _ (List.Mem.tail _ (List.Mem.head _)))) (fun hx=>⟨hb.none_len hx,hz hx⟩) (by simp) (bv_one _) (by simp;omega) (by unfold maxLen;simp;omega) rfl ?_;intro a3 c3))
 (apply ret1;(·exact rfl);intro w' hS)
 refine ⟨a3,c3,rfl,wr_end (R := [rdA b (bv lb)]) (hS.cast ?_)⟩
 simp [wr1,wr2,splice,bv,Nat.add_assoc]
theorem wr_rd {T : Nat} {ex : List Value} {w : World} {bw : Nat} {a : Option Addr} {c : Nat} {l : List Int} (h : wrP T ex bw a c l w) : St w NoF [rdA (some ⟨bw,0,none⟩) (.slice a l.length c :: ex),rdA a (bv l)] w :=
 St.rd2 (fun j u hj=>⟨_,rfl,by rw [addr_add,cell_own h.1];simpa using hj⟩) (ownsRow_rd h.2.1)
theorem c56 (bw : Nat) (a : Option Addr) (c : Nat) (l : List Int) (w : World) (h : wrP 364 [.bool true] bw a c l w) (hm : l.length ≤ 1099511627776) :
  CallsTo Tryz.prog 359 [.pointer (some ⟨bw,0,none⟩)] w fun v w'=>NewB w w' v l := by
 refine go_in (n := 10) (wr_rd h) Tryz.func359 rfl rfl ?_
 repeat'(first|refine gz ?_|(apply LR.qcall;(·exact rfl);(·intro w1 h1;exact CallsTo.q (c88 bw (.slice a l.length c) w1 (by have := (h1.toKeep.keep bw (wr_live h bw (.inl rfl)) (fun x=>x));rw [this];exact h.1)) h1))|fail)
 apply LR.call
 ·exact rfl
 intro w1 h1
 refine (c86 a c l w1 (h1.rd_of (List.Mem.tail _ (List.Mem.head _))) (fun hx=>(ownsRow_some h.2.1 hx).2) (by omega)).mono ?_
 rintro v w2 ⟨a2,c2,rfl,hn⟩
 refine LR.back (h1.newSl hn) ?_
 repeat'(first|refine gz ?_)
 (apply ret1;(·exact rfl);intro w' hS)
 exact ⟨_,_,rfl,hS.toNew (List.Mem.head _)⟩
def encs (xs : List Int) : List Int := xs.flatMap fun x=>enc x.toNat
theorem encs_len (xs : List Int) : (encs xs).length ≤ 9 * xs.length := by
 induction xs with
 | nil=>simp [encs]
 | cons x r ih=>
  have : (enc x.toNat).length ≤ 9 := encF_len 8 _
  simp only [encs,List.flatMap_cons,List.length_append,List.length_cons] at ih ⊢;omega
theorem encs_take {xs : List Int} {i : Nat} (h : i < xs.length) : encs (xs.take (i + 1)) = encs (xs.take i) ++ enc (xs[i]).toNat := by
 rw [List.take_succ_eq_append_getElem h];unfold encs;rw [List.flatMap_append];rw [List.flatMap_cons,List.flatMap_nil,List.append_nil]
def okN (x : Int) : Prop := 0 ≤ x ∧ x ≤ 9007199254740991
theorem putE_ok {x : Int} (h : okN x) : putE x = 0 := by unfold putE;rw [if_pos (show 0 ≤ x ∧ x ≤ 9007199254740991 from h)]
theorem putL_ok {x : Int} (h : okN x) : putL x = enc x.toNat := by unfold putL;rw [if_pos (show 0 ≤ x ∧ x ≤ 9007199254740991 from h)]
theorem iv_at {l : List Int} {q i : Nat} (hq : q = i) (h : i < l.length) : (iv l)[q]? = some (.int .i64 (l[i]'h)) := by subst hq;exact iv_get h
theorem c54 (bw : Nat) (a b : Option Addr) (c cb : Nat) (l xs : List Int) (w : World) (h : wrP 364 [.bool true] bw a c l w) (hb : Rd w b (iv xs)) (hd : ∀ k,rdFoot b (iv xs) k → ¬ wrF bw a k) (hm : l.length ≤ 1099511626776) (hm2 : xs.length ≤ 100) (hok : ∀ x ∈ xs,okN x) :
  CallsTo Tryz.prog 357 [.pointer (some ⟨bw,0,none⟩),.slice b xs.length cb] w fun v w'=>∃ a' c',v = .int .i64 0 ∧ Step (wrA 364 [.bool true] bw a c l) (wrA 364 [.bool true] bw a' c' (l ++ encs xs)) w w' := by
 refine go_in (n := 21) (wr_start_rd h hb hd) Tryz.func357 rfl rfl ?_
 repeat'(first|refine gz ?_)
 apply CW.loop [4,6,7,10,11,12,13,14,15,16,17,18,19,20] (fun s : Nat × Option Addr × Nat=>s.1 ≤ xs.length) (fun s=>[(10,Value.int .i64 (s.1 : Int))])
  (fun s=>St w (wrF bw a) [wr1 364 [.bool true] bw s.2.1 s.2.2 (l ++ encs (xs.take s.1)),wr2 s.2.1 s.2.2 (l ++ encs (xs.take s.1)),rdA b (iv xs)]) (fun s=>xs.length - s.1)
 ·exact fun w' hw'=>⟨(0,a,c),by simp,⟨rfl,trivial⟩,hw'.cast (by simp [encs])⟩
 rintro ⟨i,a1,c1⟩ g hi
 simp only at hi ⊢
 have hlen := encs_len (xs.take i)
 have hlen2 : (xs.take i).length ≤ 100 := by simp;omega
 by_cases hlt : i < xs.length
 ·obtain ⟨bb,ob,rfl⟩ := hb.form (fun e=>by have := congrArg List.length e;simp at this;subst this;simp at hlt)
  have hx := hok _ (List.getElem_mem hlt)
  have e1 := putE_ok hx
  have e2 := putL_ok hx
  repeat'(first|refine gz ?_|(apply idxX;(iterate 2 exact rfl);(iterate 2(first|omega));exact rfl)|(apply LR.ev;(·apply Ev.load_rd;(·exact rfl);(·repeat (first | exact mH _ _ | apply mT));(·exact iv_at (i := i) (by simp) (by omega)));(·exact rfl))|(apply LR.call;(·exact rfl);(intro w1 h1;refine (c87 _ _ _ _ _ w1 (wr_hold h1) (by simp;omega)).mono ?_;rintro v w2 ⟨a2,c2,rfl,st⟩;refine LR.back (wr_did h1 st) ?_;clear st h1;rw [e1,e2]))|(apply addX;(iterate 2 exact rfl);(iterate 2(first|omega));exact rfl)|(refine gs ?_ ?_;all_goals(intro hc;try simp only[hcs]at hc;try exact abz)))
  apply At.again (i + 1,a2,c2) (by show i + 1 ≤ _;omega)
  ·exact outZ
  ·exact ⟨rfl,trivial⟩
  ·intro w' hw'
   exact hw'.cast (by simp only [encs_take hlt,List.append_assoc])
  ·show xs.length - (i + 1) < xs.length - i;omega
 ·repeat'(first|refine gz ?_|(refine gs ?_ ?_;all_goals(intro hc;try simp only[hcs]at hc;try exact abz)))
  (apply ret1;(·exact rfl);intro w' hS)
  have e : xs.take i = xs := List.take_of_length_le (by omega)
  rw [e] at hS
  exact ⟨a1,c1,rfl,wr_end hS⟩
def decF : Nat → Nat → Nat → List Int → Nat × Nat × Int
 | 0,_,_,_=>(0,0,4)
 | _ + 1,_,_,[]=>(0,0,3)
 | k + 1,i,acc,x :: r=>
  if x < 128 then (if (0 < i ∧ x = 0) ∨ 9007199254740991 < acc + x.toNat % 128 * 128 ^ i then (0,0,4) else (acc + x.toNat % 128 * 128 ^ i,i + 1,0))
  else decF k (i + 1) (acc + x.toNat % 128 * 128 ^ i) r
def dec (l : List Int) : Nat × Nat × Int := decF 8 0 0 l
def Byt (l : List Int) : Prop := ∀ b ∈ l,0 ≤ b ∧ b < 256
def tup3 (r : Nat × Nat × Int) : Value := .tuple [.int .i64 (r.1 : Int),.int .i64 (r.2.1 : Int),.int .i64 r.2.2].toArray
theorem decF_bound : ∀ k i acc l,(decF k i acc l).2.1 ≤ i + k ∧ ((decF k i acc l).2.2 = 0 → (decF k i acc l).2.1 ≤ i + l.length ∧ (decF k i acc l).1 ≤ 9007199254740991)
 | 0,i,acc,l=>by simp [decF]
 | k + 1,i,acc,[]=>by simp [decF]
 | k + 1,i,acc,x :: r=>by
  unfold decF
  split
  ·split
   ·simp
   ·rename_i h;simp only [not_or] at h;simp;omega
  ·have := decF_bound k (i + 1) (acc + x.toNat % 128 * 128 ^ i) r
   simp only [List.length_cons];omega
def rrP (T : Nat) (ex : List Value) (br : Nat) (a : Option Addr) (c : Nat) (l : List Int) : World → Prop := fun w=>
 w.heap[br]? = some (.cells (.slice a l.length c :: ex).toArray T (0,0)) ∧ Rd w a (bv l) ∧ l.length ≤ c ∧ (a = none → c = 0) ∧ (∀ k,rdFoot a (bv l) k → k ≠ br)
def rrF (br : Nat) (a : Option Addr) (l : List Int) : Nat → Prop := fun k=>k = br ∨ rdFoot a (bv l) k
def rrA (T : Nat) (ex : List Value) (br : Nat) (a : Option Addr) (c : Nat) (l : List Int) : Asrt := .ex (rrF br a l) (rrP T ex br a c l)
def rr1 (T : Nat) (ex : List Value) (br : Nat) (a : Option Addr) (c : Nat) (l : List Int) : Asrt := .own br (.cells (.slice a l.length c :: ex).toArray T (0,0))
def rr2 (a : Option Addr) (l : List Int) : Asrt := .ex (rdFoot a (bv l)) (fun w=>Rd w a (bv l))
theorem rr2_dep (a : Option Addr) (l : List Int) : (rr2 a l).dep := Rd.dep a (bv l)
theorem rrA_dep (T : Nat) (ex : List Value) (br : Nat) (a : Option Addr) (c : Nat) (l : List Int) : (rrA T ex br a c l).dep := by
 intro w w' hk ⟨h1,h2,h3⟩
 exact ⟨by rw [hk br (.inl rfl)];exact h1,Rd.dep a (bv l) w w' (fun k hk2=>hk k (.inr hk2)) h2,h3⟩
theorem rr_live {T : Nat} {ex : List Value} {w : World} {br : Nat} {a : Option Addr} {c : Nat} {l : List Int} (h : rrP T ex br a c l w) : ∀ k,rrF br a l k → k < w.heap.size := by
 rintro k (rfl | hk)
 ·exact (Array.getElem?_eq_some_iff.1 h.1).1
 ·exact h.2.1.live k hk
theorem rr_open {T : Nat} {ex : List Value} {w0 w : World} {F : Nat → Prop} {R : List Asrt} {br : Nat} {a : Option Addr} {c : Nat} {l : List Int} (h : St w0 F (rrA T ex br a c l :: R) w) : St w0 F (rr1 T ex br a c l :: rr2 a l :: R) w := by
 have hh : rrP T ex br a c l w := h.holds _ (List.Mem.head _)
 refine h.split rfl hh.1 hh.2.1 (fun k hk=>.inl hk) (fun k hk=>.inr hk) (fun k hk hk2=>?_) (Asrt.dep_own _ _) (rr2_dep _ _)
 exact hh.2.2.2.2 k hk2 hk
theorem rr_shut {T : Nat} {ex : List Value} {w0 w : World} {F : Nat → Prop} {R : List Asrt} {br : Nat} {a : Option Addr} {c : Nat} {l : List Int} (h : St w0 F (rr1 T ex br a c l :: rr2 a l :: R) w) (hc : l.length ≤ c) (hz : a = none → c = 0) : St w0 F (rrA T ex br a c l :: R) w := by
 refine h.merge rfl rfl ⟨h.holds _ (List.Mem.head _),h.holds _ (List.Mem.tail _ (List.Mem.head _)),hc,hz,fun k hk hb=>?_⟩ (fun k hk=>hk) (rrA_dep _ _ _ _ _ _)
 obtain ⟨d1,_⟩ := List.pairwise_cons.1 h.dis
 exact d1 (rr2 a l) (by simp) rfl k hb hk
theorem rr_start {T : Nat} {ex : List Value} {w : World} {br : Nat} {a : Option Addr} {c : Nat} {l : List Int} (h : rrP T ex br a c l w) : St w (rrF br a l) [rr1 T ex br a c l,rr2 a l] w :=
 rr_open (St.one (a := rrA T ex br a c l) h (rr_live h) (rrA_dep _ _ _ _ _ _))
theorem rr_end {T : Nat} {ex : List Value} {w w' : World} {R : List Asrt} {br : Nat} {a a' : Option Addr} {c c' : Nat} {l l' : List Int} (h : St w (rrF br a l) (rr1 T ex br a' c' l' :: rr2 a' l' :: R) w') (hc : l'.length ≤ c') (hz : a' = none → c' = 0) : Step (rrA T ex br a c l) (rrA T ex br a' c' l') w w' :=
 St.step (R := R) (rr_shut h hc hz) rfl
theorem rr_drop {w0 w : World} {F : Nat → Prop} {R : List Asrt} {x : Asrt} {a : Option Addr} {c n : Nat} {l : List Int} (h : St w0 F (x :: rr2 a l :: R) w) (hc : l.length ≤ c) : St w0 F (x :: rr2 (subA a c n 1) (l.drop n) :: R) w := by
 have hr : Rd w a (bv l) := h.holds _ (List.Mem.tail _ (List.Mem.head _))
 have hd : Rd w (subA a c n 1) (bv (l.drop n)) := by
  have := hr.drop (l := n) (sz := 1) (c := c) (fun e=>by simp;omega)
  simpa using this
 have hs : Sel (x :: rr2 a l :: R) (rr2 a l) (rr2 (subA a c n 1) (l.drop n)) (x :: rr2 (subA a c n 1) (l.drop n) :: R) := Sel.tail _ (Sel.head _ _ _)
 refine h.turn hs rfl (St.refl w _) hd (fun k hk=>.inl ?_) (rr2_dep _ _)
 obtain ⟨hne,ad,ha,rfl⟩ := hk
 refine ⟨fun e=>hne (by rw [bv_drop,e];simp),?_⟩
 unfold subA at ha
 split at ha
 ·exact ⟨ad,ha,rfl⟩
 ·cases a with
  | none=>cases ha
  | some a0=>simp only [Option.map_some,Option.some.injEq] at ha;subst ha;exact ⟨a0,rfl,addr_add_block _ _⟩
theorem subA_none {a : Option Addr} {c n : Nat} (hz : a = none → c = 0) : subA a c n 1 = none → c - n = 0 := by
 unfold subA
 intro h
 split at h
 ·omega
 ·cases a with
  | none=>rw [hz rfl];omega
  | some a0=>cases h
theorem rr_rd {T : Nat} {ex : List Value} {w : World} {br : Nat} {a : Option Addr} {c : Nat} {l : List Int} (h : rrP T ex br a c l w) : St w NoF [rdA (some ⟨br,0,none⟩) (.slice a l.length c :: ex),rdA a (bv l)] w :=
 St.rd2 (fun j u hj=>⟨_,rfl,by rw [addr_add,cell_own h.1];simpa using hj⟩) h.2.1
theorem andNot128 : ∀ a : Nat,a < 256 → andNotI .u8 (a : Int) 128 = ((a % 128 : Nat) : Int) := by decide +kernel
theorem or_add {a b k : Nat} (ha : a < 2 ^ k) (hs : a + b * 2 ^ k < 18446744073709551616) : orI .u64 (a : Int) ((b * 2 ^ k : Nat) : Int) = ((a + b * 2 ^ k : Nat) : Int) := by
 unfold orI
 have e1 : (BitVec.ofInt IntKind.u64.bits (a : Int)) = BitVec.ofNat 64 a := rfl
 have e2 : (BitVec.ofInt IntKind.u64.bits ((b * 2 ^ k : Nat) : Int)) = BitVec.ofNat 64 (b * 2 ^ k) := rfl
 rw [e1,e2]
 have e3 : (BitVec.ofNat 64 a ||| BitVec.ofNat 64 (b * 2 ^ k)).toNat = a + b * 2 ^ k := by
  rw [BitVec.toNat_or,BitVec.toNat_ofNat,BitVec.toNat_ofNat,Nat.mod_eq_of_lt (by omega),Nat.mod_eq_of_lt (by omega)]
  rw [Nat.or_comm,Nat.mul_comm,← Nat.two_pow_add_eq_or_of_lt ha,Nat.add_comm]
 show IntKind.u64.wrap (((BitVec.ofNat 64 a ||| BitVec.ofNat 64 (b * 2 ^ k)).toNat : Nat) : Int) = _
 rw [e3,wrap_u64 (by omega) (by omega)]
theorem pow128 (i : Nat) : 128 ^ i = 2 ^ (7 * i) := by rw [Nat.pow_mul]
theorem pow128_le {i : Nat} (h : i ≤ 8) : 128 ^ i ≤ 72057594037927936 := by
 have : 128 ^ i ≤ 128 ^ 8 := Nat.pow_le_pow_right (by omega) h
 have e : (128 : Nat) ^ 8 = 72057594037927936 := by decide
 omega
theorem c100 (br : Nat) (a : Option Addr) (c : Nat) (l : List Int) (w : World) (h : rrP 328 [.bool true] br a c l w) (hb : Byt l) (hm : l.length ≤ 281474976710656) :
  CallsTo Tryz.prog 339 [.pointer (some ⟨br,0,none⟩)] w fun v w'=>v = tup3 (dec l) ∧ Grew w w' := by
 refine go_in (n := 58) (rr_rd h) Tryz.func339 rfl rfl ?_
 repeat'(first|refine gz ?_)
 apply CW.loop [2,3,4,5,6,7,8,9,10,11,12,13,14,15,16,17,18,19,20,21,22,23,24,25,26,27,28,29,30,31,32,33,34,35,36,37] (fun s : Nat × Nat=>s.1 ≤ l.length ∧ s.1 ≤ 7 ∧ s.2 < 128 ^ s.1 ∧ dec l = decF (8 - s.1) s.1 s.2 (l.drop s.1))
  (fun s=>[(5,Value.int .u64 (s.2 : Int)),(6,Value.int .i64 (s.1 : Int))]) (fun s=>St w NoF [rdA (some ⟨br,0,none⟩) [.slice a l.length c,.bool true],rdA a (bv l)]) (fun s=>8 - s.1)
 ·exact fun w' hw'=>⟨(0,0),⟨by simp,by simp,by simp,rfl⟩,⟨rfl,rfl,trivial⟩,hw'⟩
 rintro ⟨i,acc⟩ g ⟨hi,hi7,hacc,hd⟩
 simp only at hi hi7 hacc hd ⊢
 by_cases hlt : i < l.length
 ·obtain ⟨ba,oa,rfl⟩ := h.2.1.form (fun e=>by have := congrArg List.length e;simp at this;subst this;simp at hlt)
  have hne : ¬ ((i : Int) = (l.length : Int)) := by omega
  obtain ⟨hx0,hx1⟩ := hb _ (List.getElem_mem hlt)
  obtain ⟨x,hx⟩ : ∃ x : Nat,l[i] = (x : Int) := ⟨l[i].toNat,by omega⟩
  have hp := pow128_le (i := i) (by omega)
  have hab : acc < 72057594037927936 := by omega
  have hxm : x % 128 * 128 ^ i ≤ 127 * 72057594037927936 := Nat.mul_le_mul (by omega) hp
  have hval : orI .u64 (acc : Int) (IntKind.u64.wrap (IntKind.u64.wrap (andNotI .u8 l[i] 128) * 2 ^ (min (7 * (i : Int)).toNat IntKind.u64.bits))) = ((acc + x % 128 * 128 ^ i : Nat) : Int) := by
   rw [hx,andNot128 x (by omega),wrap_u64 (x := ((x % 128 : Nat) : Int)) (by omega) (by omega)]
   have e : min (7 * (i : Int)).toNat IntKind.u64.bits = 7 * i := by
    have : IntKind.u64.bits = 64 := rfl
    omega
   rw [e]
   have e2 : ((x % 128 : Nat) : Int) * 2 ^ (7 * i) = ((x % 128 * 2 ^ (7 * i) : Nat) : Int) := by simp
   rw [pow128] at hacc hxm ⊢
   rw [e2,wrap_u64 (by omega) (by omega),or_add hacc (by omega)]
  have hn : acc + x % 128 * 128 ^ i < 128 ^ (i + 1) := by
   have : x % 128 * 128 ^ i ≤ 127 * 128 ^ i := Nat.mul_le_mul_right _ (by omega)
   rw [Nat.pow_succ];omega
  have hstep : dec l = if l[i] < 128 then (if (0 < i ∧ l[i] = 0) ∨ 9007199254740991 < acc + x % 128 * 128 ^ i then (0,0,4) else (acc + x % 128 * 128 ^ i,i + 1,0)) else decF (7 - i) (i + 1) (acc + x % 128 * 128 ^ i) (l.drop (i + 1)) := by
   rw [hd,List.drop_eq_getElem_cons hlt,show 8 - i = (7 - i) + 1 by omega]
   have : l[i].toNat = x := by omega
   simp only [decF,this]
  generalize acc + x % 128 * 128 ^ i = nacc at hval hn hstep
  have hnb : nacc < 9223372036854775808 := by
   have : 128 ^ (i + 1) ≤ 72057594037927936 := pow128_le (by omega)
   omega
  repeat'(first|refine gz ?_|(apply LR.ev;(·apply Ev.load_rd;(·exact rfl);(·repeat (first | exact mH _ _ | apply mT));(·first | exact bv_at (i := i) (by omega) (by omega)));(·exact rfl))|(apply idxX;(iterate 2 exact rfl);(iterate 2(first|omega));exact rfl)|(apply addX;(iterate 2 exact rfl);(iterate 2(first|omega));exact rfl)|(apply mulX;(iterate 2 exact rfl);(iterate 2(first|omega));exact rfl)|(apply subX;(iterate 2 exact rfl);(iterate 2(first|omega));exact rfl)|(refine gs ?_ ?_;all_goals(intro hc;try simp only[hcs]at hc;try exact abz)))
  all_goals try simp only [hval] at hc
  any_goals (
   apply At.again (i + 1,nacc) ⟨by show i + 1 ≤ l.length;omega,by show i + 1 ≤ 7;omega,hn,by show dec l = decF (8 - (i + 1)) (i + 1) nacc (l.drop (i + 1));rw [hstep,if_neg (by omega)];congr 1;omega⟩
   ·exact outZ
   ·refine ⟨congrArg (Value.int .u64) hval,rfl,trivial⟩
   ·exact fun w' hw'=>hw'
   ·show 8 - (i + 1) < 8 - i;omega)
  all_goals (
   (apply ret3;(·exact rfl);intro w' hS)
   refine ⟨?_,hS.toKeep⟩
   rw [hstep]
   first
   | (rw [if_pos (by assumption),if_pos (by omega)];rfl)
   | (rw [if_pos (by assumption),if_neg (by omega)]
      show Value.tuple #[.int .i64 (IntKind.i64.wrap (orI _ _ _)),_,_] = _
      rw [hval,wrap_i64 (by omega) (by omega)];rfl)
   | (rw [if_neg (by omega)]
      obtain rfl : i = 7 := by omega
      rfl)
   | (clear hS;omega))
 ·have hne : ((i : Int) = (l.length : Int)) := by omega
  have hd2 : dec l = (0,0,3) := by
   rw [hd,List.drop_eq_nil_of_le (by omega)]
   obtain ⟨q,hq⟩ : ∃ q,8 - i = q + 1 := ⟨7 - i,by omega⟩
   rw [hq];rfl
  repeat'(first|refine gz ?_|(refine gs ?_ ?_;all_goals(intro hc;try simp only[hcs]at hc;try exact abz)))
  (apply ret3;(·exact rfl);intro w' hS)
  exact ⟨by rw [hd2];rfl,hS.toKeep⟩
theorem c99 (bw : Nat) (v : Value) (w : World) (h : w.heap[bw]? = some (.cells [v,.bool true].toArray 328 (0,0))) : CallsTo Tryz.prog 338 [.pointer (some ⟨bw,0,none⟩)] w fun u w'=>u = .bool false ∧ Grew w w' := by
 refine go_in (n := 12) (St.rd1 (a := some ⟨bw,0,none⟩) (xs := [v,.bool true]) (fun j u hj=>⟨_,rfl,by rw [addr_add,cell_own h];simpa using hj⟩)) Tryz.func338 rfl rfl ?_
 repeat'(first|refine gz ?_)
 all_goals (
  (apply ret1;(·exact rfl);intro w' hS)
  exact ⟨rfl,hS.toKeep⟩)
theorem rr_hold {T : Nat} {ex : List Value} {w0 w : World} {F : Nat → Prop} {R : List Asrt} {br : Nat} {a : Option Addr} {c : Nat} {l : List Int} (h : St w0 F (rr1 T ex br a c l :: rr2 a l :: R) w) (hc : l.length ≤ c) (hz : a = none → c = 0) : rrP T ex br a c l w :=
 (rr_shut h hc hz).holds _ (List.Mem.head _)
theorem c68 (br : Nat) (a : Option Addr) (c : Nat) (l : List Int) (w : World) (h : rrP 328 [.bool true] br a c l w) : CallsTo Tryz.prog 297 [.pointer (some ⟨br,0,none⟩)] w fun v w'=>v = .int .i64 (l.length : Int) ∧ Grew w w' := by
 refine go_in (n := 10) (rr_rd h) Tryz.func297 rfl rfl ?_
 repeat'(first|refine gz ?_|(apply LR.qcall;(·exact rfl);(·intro w1 h1;exact CallsTo.q (c99 br (.slice a l.length c) w1 (by have := (h1.toKeep.keep br (rr_live h br (.inl rfl)) (fun x=>x));rw [this];exact h.1)) h1))|fail)
 (apply ret1;(·exact rfl);intro w' hS)
 exact ⟨rfl,hS.toKeep⟩
theorem dec_le (l : List Int) : (dec l).2.1 ≤ 8 ∧ (dec l).2.1 ≤ l.length := by
 have := decF_bound 8 0 0 l
 unfold dec
 by_cases h : (decF 8 0 0 l).2.2 = 0
 ·have := this.2 h;omega
 ·have h2 : ∀ k i acc l,(decF k i acc l).2.2 ≠ 0 → (decF k i acc l).2.1 = 0 := by
   intro k
   induction k with
   | zero=>intro i acc l _;rfl
   | succ k ih=>
    intro i acc l
    cases l with
    | nil=>intro _;rfl
    | cons x r=>
     unfold decF
     split
     ·split
      ·intro _;rfl
      ·intro h;simp at h
     ·exact ih _ _ _
  have := h2 _ _ _ _ h;omega
theorem c73 (br : Nat) (a : Option Addr) (c : Nat) (l : List Int) (w : World) (h : rrP 328 [.bool true] br a c l w) (hb : Byt l) (hm : l.length ≤ 281474976710656) :
  CallsTo Tryz.prog 315 [.pointer (some ⟨br,0,none⟩)] w fun v w'=>∃ a' c',v = .tuple [.int .i64 ((dec l).1 : Int),.int .i64 (dec l).2.2].toArray ∧ Step (rrA 328 [.bool true] br a c l) (rrA 328 [.bool true] br a' c' (l.drop (dec l).2.1)) w w' := by
 have hc := h.2.2.1
 have hz := h.2.2.2.1
 have hn := dec_le l
 refine go_in (n := 26) (rr_start h) Tryz.func315 rfl rfl ?_
 repeat'(first|refine gz ?_|(apply LR.qcall;(·exact rfl);(·intro w1 h1;first | exact CallsTo.q (c99 br (.slice a l.length c) w1 (h1.own_at (List.Mem.head _))) h1 | exact CallsTo.q (c100 _ _ _ _ w1 (rr_hold h1 hc hz) hb hm) h1))|(apply LR.ev;(·apply Ev.slice_lo;(·exact rfl);(·exact rfl);(·first | omega );(·first | omega ));(·exact rfl))|fail)
 (apply ret2;(·exact rfl);intro w' hS)
 refine ⟨subA a c (dec l).2.1 1,c - (dec l).2.1,rfl,rr_end (R := []) ((rr_drop (n := (dec l).2.1) hS hc).cast ?_) (by simp;omega) (subA_none hz)⟩
 simp [rr1,splice]
theorem newB_rr {w0 w1 : World} {F : Nat → Prop} {L : List Asrt} {a : Option Addr} {c : Nat} {l : List Int} (h : St w0 F L w1) {w2 : World} (hn : NewSl w1 w2 (.slice a l.length c) 5 1 l.length (bv l)) : St w0 F (rr2 a l :: L) w2 := by
 refine h.push hn.grew (ownsRow_rd hn.own) (fun k hk=>?_) (rr2_dep _ _)
 obtain ⟨hne,ad,rfl,rfl⟩ := hk
 exact hn.own.lt _ rfl
theorem c65 (a : Option Addr) (ca : Nat) (l : List Int) (w : World) (hr : Rd w a (bv l)) (hz : a = none → ca = 0) (hm : l.length ≤ 140737488355328) :
  CallsTo Tryz.prog 294 [.slice a l.length ca] w fun v w'=>∃ br a' c',v = .pointer (some ⟨br,0,none⟩) ∧ New1 (rrA 328 [.bool true] br a' c' l) w w' := by
 refine go_in (n := 7) (St.rd1 hr) Tryz.func294 rfl rfl ?_
 repeat'(first|refine gz ?_)
 apply LR.call
 ·exact rfl
 intro w1 h1
 refine (c86 a ca l w1 (h1.rd_of (List.Mem.head _)) hz hm).mono ?_
 rintro v w2 ⟨a2,c2,rfl,hn⟩
 refine LR.back (newB_rr h1 hn) ?_
 have hnc := ownsRow_cap hn.own
 have hns := hn.some_of
 repeat'(first|refine gz ?_|refine gy fun _=>?_)
 (apply ret1;(·exact rfl);intro w' hS)
 exact ⟨_,a2,c2,rfl,(rr_shut (hS.cast (by rfl)) hnc (fun e=>(hns e).2)).new1 rfl⟩
def octs (most : Int) (l : List Int) : List Int × Int × List Int :=
 if (dec l).2.2 ≠ 0 then ([],(dec l).2.2,l)
 else if most < ((dec l).1 : Int) then ([],5,l)
 else if ((l.length - (dec l).2.1 : Nat) : Int) < ((dec l).1 : Int) then ([],3,l)
 else ((l.drop (dec l).2.1).take (dec l).1,0,l.drop ((dec l).2.1 + (dec l).1))
def bsl (a : Option Addr) (c : Nat) (l : List Int) : Asrt := osl (.slice a l.length c) 5 1 l.length (bv l)
theorem rd_mid {w : World} {a : Option Addr} {c n k : Nat} {l : List Int} (h : Rd w a (bv l)) (hc : l.length ≤ c) : Rd w (subA a c n 1) (bv ((l.drop n).take k)) := by
 have := (h.drop (l := n) (sz := 1) (c := c) (fun e=>by simp;omega)).take k
 simpa using this
theorem nilB {w0 w : World} {F : Nat → Prop} {L : List Asrt} (h : St w0 F L w) : St w0 F (bsl none 0 [] :: L) w :=
 h.push (Grew.refl w) (World.ownsRow_nil w 0 5 1) (fun k hk=>by simp [bsl,osl,Asrt.foot,Value.ownBlock] at hk) (osl.dep _ _ _ _ _)
theorem octs_ok {most : Int} {l : List Int} (h1 : (dec l).2.2 = 0) (h2 : ((dec l).1 : Int) ≤ most) (h3 : ((dec l).1 : Int) ≤ (l.length : Int) - ((dec l).2.1 : Int)) : octs most l = ((l.drop (dec l).2.1).take (dec l).1,0,l.drop ((dec l).2.1 + (dec l).1)) := by
 unfold octs;rw [if_neg (by simpa using h1),if_neg (by omega),if_neg (by omega)]
theorem octs_len {l : List Int} (h3 : ((dec l).1 : Int) ≤ (l.length : Int) - ((dec l).2.1 : Int)) : (((dec l).2.1 : Int) + ((dec l).1 : Int)).toNat - (((dec l).2.1 : Nat) : Int).toNat = ((l.drop (dec l).2.1).take (dec l).1).length := by
 simp;omega
theorem rr_drop2 {T : Nat} {ex : List Value} {w0 w : World} {F : Nat → Prop} {R : List Asrt} {br : Nat} {a : Option Addr} {c n : Nat} {l : List Int} {cs : List Value}
  (h : St w0 F (.own br (.cells cs.toArray T (0,0)) :: rr2 a l :: R) w) (hcs : cs = .slice (subA a c n 1) (l.length - n) (c - n) :: ex) (hc : l.length ≤ c) (hz : a = none → c = 0) (hn : n ≤ l.length) :
  St w0 F (rrA T ex br (subA a c n 1) (c - n) (l.drop n) :: R) w := by
 subst hcs
 refine rr_shut ((rr_drop (n := n) h hc).cast ?_) (by simp;omega) (subA_none hz)
 simp [rr1]
theorem c67 (br : Nat) (a : Option Addr) (c : Nat) (l : List Int) (most : Int) (w : World) (h : rrP 328 [.bool true] br a c l w) (hb : Byt l) (hm : l.length ≤ 140737488355328) :
  CallsTo Tryz.prog 296 [.pointer (some ⟨br,0,none⟩),.int .i64 most] w fun v w'=>∃ a' c' a2 c2,v = .tuple [.slice a2 (octs most l).1.length c2,.int .i64 (octs most l).2.1].toArray ∧
   St w (rrF br a l) [rrA 328 [.bool true] br a' c' (octs most l).2.2,bsl a2 c2 (octs most l).1] w' := by
 have hlc := h.2.2.1
 have hz := h.2.2.2.1
 have hn := dec_le l
 have hbd := decF_bound 8 0 0 l
 refine go_in (n := 58) (rr_start h) Tryz.func296 rfl rfl ?_
 by_cases h1 : (dec l).2.2 = 0
 ·have hv : (dec l).1 ≤ 9007199254740991 := (hbd.2 h1).2
  repeat'(first|refine gz ?_|(apply LR.qcall;(·exact rfl);(·intro w1 h1;first | exact CallsTo.q (c99 br (.slice a l.length c) w1 (h1.own_at (List.Mem.head _))) h1 | exact CallsTo.q (c100 _ _ _ _ w1 (rr_hold h1 hlc hz) hb (by omega)) h1))|(apply LR.ev;(·apply Ev.slice_lohi;(·exact rfl);(·exact rfl);(·exact rfl);(·first | omega );(·first | omega );(·first | omega ));(·exact rfl))|(apply addX;(iterate 2 exact rfl);(iterate 2(first|omega));exact rfl)|(apply subX;(iterate 2 exact rfl);(iterate 2(first|omega));exact rfl)|(refine gs ?_ ?_;all_goals(intro hc;try simp only[hcs]at hc;try exact abz)))
  ·(apply ret2;(·exact rfl);intro w' hS)
   have e : octs most l = ([],5,l) := by unfold octs;rw [if_neg (by simpa using h1),if_pos (by assumption)]
   rw [e]
   exact ⟨a,c,none,0,rfl,(nilB (rr_shut hS hlc hz)).swap⟩
  ·(apply ret2;(·exact rfl);intro w' hS)
   have e : octs most l = ([],3,l) := by unfold octs;rw [if_neg (by simpa using h1),if_neg (by omega),if_pos (by omega)]
   rw [e]
   exact ⟨a,c,none,0,rfl,(nilB (rr_shut hS hlc hz)).swap⟩
  ·rw [octs_len hc,octs_ok h1 (by assumption) hc]
   apply LR.call
   ·exact rfl
   intro w1 h2
   refine (c86 _ _ ((l.drop (dec l).2.1).take (dec l).1) w1 (rd_mid (h2.holds _ (List.Mem.tail _ (List.Mem.head _))) hlc) (subA_none hz) (by simp;omega)).mono ?_
   rintro v w2 ⟨a2,c2,rfl,hnew⟩
   refine LR.back (h2.newSl hnew) ?_
   repeat'(first|refine gz ?_|(apply LR.ev;(·apply Ev.slice_lo;(·exact rfl);(·exact rfl);(·first | omega );(·first | omega ));(·exact rfl))|(apply addX;(iterate 2 exact rfl);(iterate 2(first|omega));exact rfl))
   (apply ret2;(·exact rfl);intro w' hS)
   have e3 : (((dec l).2.1 : Int) + ((dec l).1 : Int)).toNat = (dec l).2.1 + (dec l).1 := by omega
   rw [e3] at hS
   refine ⟨subA a c ((dec l).2.1 + (dec l).1) 1,c - ((dec l).2.1 + (dec l).1),a2,c2,rfl,?_⟩
   refine ((rr_drop2 (n := (dec l).2.1 + (dec l).1) (ex := [.bool true]) (R := [_]) (St.rot hS) ?_ hlc hz (by omega)))
   simp [splice]
 ·repeat'(first|refine gz ?_|(apply LR.qcall;(·exact rfl);(·intro w1 h1;first | exact CallsTo.q (c99 br (.slice a l.length c) w1 (h1.own_at (List.Mem.head _))) h1 | exact CallsTo.q (c100 _ _ _ _ w1 (rr_hold h1 hlc hz) hb (by omega)) h1))|(refine gs ?_ ?_;all_goals(intro hc;try simp only[hcs]at hc;try exact abz)))
  (apply ret2;(·exact rfl);intro w' hS)
  have e : octs most l = ([],(dec l).2.2,l) := by unfold octs;rw [if_pos h1]
  rw [e]
  exact ⟨a,c,none,0,rfl,(nilB (rr_shut hS hlc hz)).swap⟩
structure Msg where
 kind : Int
 origin : Int
 life : Int
 id : Int
 part : Int
 parts : Int
 groups : Int
 safe : Bool
 stamp : Int
 rseq : Int
 rrep : Int
 kseq : Int
 body : List Int
def Msg.cells (m : Msg) (a : Option Addr) (c : Nat) : List Value :=
 [.int .i64 m.kind,.int .i64 m.origin,.int .i64 m.life,.int .i64 m.id,.int .i64 m.part,.int .i64 m.parts,.int .i64 m.groups,.bool m.safe,.int .i64 m.stamp,.int .i64 m.rseq,.int .i64 m.rrep,.int .i64 m.kseq,.slice a m.body.length c]
def Msg.val (m : Msg) (a : Option Addr) (c : Nat) : Value := .agg (m.cells a c).toArray
theorem numB_iff (x : Int) : numB x = decide (0 ≤ x ∧ x ≤ 9007199254740991) := by unfold numB;rw [Bool.eq_iff_iff];simp
theorem withinB_iff (x a b : Int) : withinB x a b = decide (a ≤ x ∧ x ≤ b) := by unfold withinB;rw [Bool.eq_iff_iff];simp
theorem ringE_eq (s r : Int) : ringE s r = if (s = 0 ∧ r = 0) ∨ (0 < s ∧ s ≤ 9007199254740991 ∧ 0 < r ∧ r ≤ 8) then 0 else 2 := by
 unfold ringE ringB numB
 have : ((decide (s = 0 ∧ r = 0) || (decide (0 < s) && (decide (0 ≤ s) && decide (s ≤ 9007199254740991)) && decide (0 < r) && decide (r ≤ 8))) = true) ↔ ((s = 0 ∧ r = 0) ∨ (0 < s ∧ s ≤ 9007199254740991 ∧ 0 < r ∧ r ≤ 8)) := by
  simp;omega
 by_cases h : (s = 0 ∧ r = 0) ∨ (0 < s ∧ s ≤ 9007199254740991 ∧ 0 < r ∧ r ≤ 8)
 ·rw [if_pos (this.2 h),if_pos h]
 ·rw [if_neg (fun e=>h (this.1 e)),if_neg h]
def plainB (m : Msg) : Bool := decide (m.life = 0 ∧ m.part = 0 ∧ m.parts = 0 ∧ m.groups = 0 ∧ m.safe = false)
theorem c103 (m : Msg) (a : Option Addr) (c : Nat) (w : World) : CallsTo Tryz.prog 255 [m.val a c] w fun v w'=>v = .bool (plainB m) ∧ Grew w w' := by
 obtain ⟨kd,og,lf,idn,pt,pts,gr,sf,st,rs,rr,ks,bd⟩ := m
 unfold plainB
 cases sf
 all_goals (
  refine go_in (n := 26) (St.refl _ NoF) Tryz.func255 rfl rfl ?_
  repeat'(first|refine gz ?_|refine gy fun _=>?_|(refine gs ?_ ?_;all_goals(intro hc;try simp only[hcs]at hc;try exact abz)))
  all_goals (apply ret1;(·exact rfl);intro w' hS;refine ⟨congrArg Value.bool ?_,hS.toKeep⟩;rw [Bool.eq_iff_iff];(try simp only [decide_eq_true_eq,Bool.not_eq_true',decide_eq_false_iff_not,Bool.false_eq_true,Bool.true_eq_false,true_iff,false_iff,iff_true,iff_false,reduceCtorEq,not_true_eq_false,not_false_eq_true,List.cons.injEq,and_true]);first | omega | (simp;done) )
  )
theorem c59_t {x a b : Int} (h : a ≤ x ∧ x ≤ b) (w : World) : CallsTo Tryz.prog 145 [.int .i64 x,.int .i64 a,.int .i64 b] w fun v w'=>v = .bool true ∧ Grew w w' := by
 have := c59 x a b w;rw [withinB_iff,decide_eq_true h] at this;exact this
theorem c59_f {x a b : Int} (h : ¬ (a ≤ x ∧ x ≤ b)) (w : World) : CallsTo Tryz.prog 145 [.int .i64 x,.int .i64 a,.int .i64 b] w fun v w'=>v = .bool false ∧ Grew w w' := by
 have := c59 x a b w;rw [withinB_iff,decide_eq_false h] at this;exact this
def textB (m : Msg) : Bool := decide (1 ≤ m.parts ∧ m.parts ≤ 5 ∧ 0 ≤ m.part ∧ m.part ≤ m.parts - 1 ∧ 0 < m.groups ∧ 0 < m.life ∧ m.body.length ≤ 48)
theorem c90 (m : Msg) (a : Option Addr) (c : Nat) (w : World) : CallsTo Tryz.prog 199 [m.val a c] w fun v w'=>v = .bool (textB m) ∧ Grew w w' := by
 obtain ⟨kd,og,lf,idn,pt,pts,gr,sf,st,rs,rr,ks,bd⟩ := m
 unfold textB
 by_cases h1 : 1 ≤ pts ∧ pts ≤ 5
 all_goals (
  refine go_in (n := 30) (St.refl _ NoF) Tryz.func199 rfl rfl ?_
  repeat'(first|refine gz ?_|refine gy fun _=>?_|(apply LR.qcall;(·exact rfl);(·intro w1 h1;first | exact CallsTo.q (c59_t (by omega) w1) h1 | exact CallsTo.q (c59_f (by omega) w1) h1 | exact CallsTo.q (c59 _ _ _ w1) h1))|(apply subX;(iterate 2 exact rfl);(iterate 2(first|(dsimp only;omega)));exact rfl)|(refine gs ?_ ?_;all_goals(intro hc;try simp only[hcs]at hc;try exact abz)))
  all_goals try simp only [withinB_iff,decide_eq_true_eq,decide_eq_false_iff_not] at *
  all_goals (apply ret1;(·exact rfl);intro w' hS;refine ⟨congrArg Value.bool ?_,hS.toKeep⟩;rw [Bool.eq_iff_iff];(try simp only [decide_eq_true_eq,Bool.not_eq_true',decide_eq_false_iff_not,Bool.false_eq_true,Bool.true_eq_false,true_iff,false_iff,iff_true,iff_false,reduceCtorEq,not_true_eq_false,not_false_eq_true,List.cons.injEq,and_true]);first | omega )
  )
def emptyB (m : Msg) : Bool := plainB m && decide (m.id = 0 ∧ m.body.length = 0)
theorem c91 (m : Msg) (a : Option Addr) (c : Nat) (w : World) : CallsTo Tryz.prog 200 [m.val a c] w fun v w'=>v = .bool (emptyB m) ∧ Grew w w' := by
 refine go_in (n := 16) (St.refl _ NoF) Tryz.func200 rfl rfl ?_
 repeat'(first|refine gz ?_|refine gy fun _=>?_|(apply kq;(·exact rfl);(·intro w1 h1;exact CallsTo.q (c103 m a c w1) h1))|(refine gs ?_ ?_;all_goals(intro hc;try simp only[hcs]at hc;try exact abz)))
 all_goals (
  (apply ret1;(·exact rfl);intro w' hS)
  refine ⟨congrArg Value.bool ?_,hS.toKeep⟩
  simp [emptyB, *];try omega)
def wantB (m : Msg) : Bool := emptyB m && decide ([m.stamp,m.rseq,m.rrep,m.kseq] = [0,0,0,0])
theorem c92 (m : Msg) (a : Option Addr) (c : Nat) (w : World) : CallsTo Tryz.prog 201 [m.val a c] w fun v w'=>v = .bool (wantB m) ∧ Grew w w' := by
 refine go_in (n := 11) (St.refl _ NoF) Tryz.func201 rfl rfl ?_
 repeat'(first|refine gz ?_|refine gy fun _=>?_|(apply kq;(·exact rfl);(·intro w1 h1;exact CallsTo.q (c91 m a c w1) h1))|(refine gs ?_ ?_;all_goals(intro hc;try simp only[hcs]at hc;try exact abz)))
 all_goals (
  (apply ret1;(·exact rfl);intro w' hS)
  refine ⟨congrArg Value.bool ?_,hS.toKeep⟩
  simp [wantB, *];try omega)
structure Plc where
 ring : Int
 seq : Int
 rep : Int
 members : Int
def Plc.cells (p : Plc) : List Value := [.int .i64 p.ring,.int .i64 p.seq,.int .i64 p.rep,.int .i64 p.members]
def Plc.val (p : Plc) : Value := .agg p.cells.toArray
def plcB (p : Plc) : Bool := decide (0 ≤ p.ring ∧ p.ring ≤ 3 ∧ ¬ (p.seq = 0 ∧ p.rep = 0) ∧ 0 < p.seq ∧ p.seq ≤ 9007199254740991 ∧ 0 < p.rep ∧ p.rep ≤ 8 ∧ 0 < p.members ∧ p.members < 512 ∧ p.members % 2 = 0)
theorem andNot510_small : ∀ x : Nat,x < 512 → (andNotI .i64 (x : Int) 510 = 0 ↔ x % 2 = 0) := by decide +kernel
theorem andNot510 (x : Int) (h0 : 0 < x) (h1 : x ≤ 9223372036854775807) : andNotI .i64 x 510 = 0 ↔ x < 512 ∧ x % 2 = 0 := by
 obtain ⟨n,rfl⟩ : ∃ n : Nat,x = (n : Int) := ⟨x.toNat,by omega⟩
 by_cases hn : n < 512
 ·rw [andNot510_small n hn];omega
 ·refine ⟨fun h=>?_,fun h=>by omega⟩
  exfalso
  unfold andNotI at h
  have hlt : n < 2 ^ 64 := by omega
  have e1 : (BitVec.ofInt IntKind.i64.bits (n : Int)) = BitVec.ofNat 64 n := rfl
  have e2 : (BitVec.ofInt IntKind.i64.bits (510 : Int)) = BitVec.ofNat 64 510 := rfl
  rw [e1,e2] at h
  have h2 : IntKind.i64.wrap (((BitVec.ofNat 64 n &&& ~~~ BitVec.ofNat 64 510).toNat : Nat) : Int) = 0 := h
  have hle : (BitVec.ofNat 64 n &&& ~~~ BitVec.ofNat 64 510).toNat ≤ n := by
   rw [BitVec.toNat_and,BitVec.toNat_ofNat,Nat.mod_eq_of_lt hlt];exact Nat.and_le_left
  rw [wrap_i64 (by omega) (by omega)] at h2
  have hz : (BitVec.ofNat 64 n &&& ~~~ BitVec.ofNat 64 510) = 0#64 := by
   apply BitVec.eq_of_toNat_eq
   have : (BitVec.ofNat 64 n &&& ~~~ BitVec.ofNat 64 510).toNat = 0 := by omega
   rw [this];rfl
  have hx : BitVec.ofNat 64 n = BitVec.ofNat 64 n &&& BitVec.ofNat 64 510 := by
   apply BitVec.eq_of_getLsbD_eq
   intro i hi
   have := congrArg (fun v : BitVec 64=>v.getLsbD i) hz
   simp only [BitVec.getLsbD_and,BitVec.getLsbD_not,BitVec.getLsbD_zero,hi,decide_true,Bool.true_and] at this
   rw [BitVec.getLsbD_and]
   cases h1 : (BitVec.ofNat 64 n).getLsbD i <;> cases h2 : (BitVec.ofNat 64 510).getLsbD i <;> simp [h1,h2] at this ⊢
  have h3 := congrArg BitVec.toNat hx
  rw [BitVec.toNat_and,BitVec.toNat_ofNat,BitVec.toNat_ofNat,Nat.mod_eq_of_lt hlt] at h3
  have : n &&& (510 % 2 ^ 64) ≤ 510 := Nat.and_le_right
  omega
def i64 (x : Int) : Prop := -9223372036854775808 ≤ x ∧ x ≤ 9223372036854775807
theorem ringE_zero (s r : Int) : (ringE s r = 0) ↔ ((s = 0 ∧ r = 0) ∨ (0 < s ∧ s ≤ 9007199254740991 ∧ 0 < r ∧ r ≤ 8)) := by
 rw [ringE_eq];split <;> simp_all
theorem c76 (p : Plc) (w : World) (hm : i64 p.members) : CallsTo Tryz.prog 362 [p.val] w fun v w'=>v = .bool (plcB p) ∧ Grew w w' := by
 obtain ⟨rg,sq,rp,mb⟩ := p
 unfold plcB
 unfold i64 at hm
 simp only at hm
 refine go_in (n := 29) (St.refl _ NoF) Tryz.func362 rfl rfl ?_
 repeat'(first|refine gz ?_|refine gy fun _=>?_|(apply kq;(·exact rfl);(·intro w1 h1;exact CallsTo.q (c59 _ _ _ w1) h1))|(apply kq;(·exact rfl);(·intro w1 h1;exact CallsTo.q (c81 _ _ w1) h1))|(refine gs ?_ ?_;all_goals(intro hc;try simp only[hcs]at hc;try exact abz)))
 all_goals try simp only [withinB_iff,decide_eq_true_eq,decide_eq_false_iff_not,ringE_zero,List.cons.injEq,and_true] at *
 all_goals (
  (apply ret1;(·exact rfl);intro w' hS)
  refine ⟨congrArg Value.bool ?_,hS.toKeep⟩
  first
  | (rw [Bool.eq_iff_iff];simp only [decide_eq_true_eq,Bool.false_eq_true,false_iff];rw [andNot510 mb (by omega) (by omega)];omega)
  | (rw [Bool.eq_iff_iff];simp only [decide_eq_true_eq,Bool.false_eq_true,false_iff];omega))
theorem c75 (p : Plc) (w : World) (hm : i64 p.members) : CallsTo Tryz.prog 361 [p.val] w fun v w'=>v = .bool (!plcB p) ∧ Grew w w' := by
 refine go_in (n := 6) (St.refl _ NoF) Tryz.func361 rfl rfl ?_
 repeat'(first|refine gz ?_|refine gy fun _=>?_|(apply LR.qcall;(·exact rfl);(·intro w1 h1;exact CallsTo.q (c76 p w1 hm) h1))|fail)
 all_goals (
  (apply ret1;(·exact rfl);intro w' hS)
  exact ⟨rfl,hS.toKeep⟩)
def pcs (ps : List Plc) : List Value := ps.flatMap Plc.cells
theorem pcs_length (ps : List Plc) : (pcs ps).length = ps.length * 4 := by
 induction ps with
 | nil=>rfl
 | cons p r ih=>simp only [pcs,List.flatMap_cons,List.length_append,List.length_cons] at ih ⊢;rw [ih];simp [Plc.cells];omega
theorem pcs_get : ∀ (ps : List Plc) (i j : Nat) (v : Value) (h : i < ps.length),(ps[i].cells)[j]? = some v → (pcs ps)[i * 4 + j]? = some v
 | [],i,j,v,h,_=>by simp at h
 | p :: r,0,j,v,h,hj=>by
  have hl : j < 4 := by have := (List.getElem?_eq_some_iff.1 hj).1;simpa [Plc.cells] using this
  simp only [List.getElem_cons_zero] at hj
  simp only [pcs,List.flatMap_cons,Nat.zero_mul,Nat.zero_add]
  rw [List.getElem?_append_left (by simpa [Plc.cells] using hl)];exact hj
 | p :: r,i + 1,j,v,h,hj=>by
  simp only [List.getElem_cons_succ] at hj
  have ih := pcs_get r i j v (by simpa using h) hj
  simp only [pcs,List.flatMap_cons] at ih ⊢
  have hl : (Plc.cells p).length = 4 := rfl
  rw [List.getElem?_append_right (by rw [hl];omega),hl,show (i + 1) * 4 + j - 4 = i * 4 + j by omega];exact ih
theorem rd_plc {w : World} {b o : Nat} {ps : List Plc} (h : Rd w (some ⟨b,o,none⟩) (pcs ps)) {i q : Nat} (hi : i < ps.length) (hq : q = i * 4) : ∀ j v,(ps[i].cells)[j]? = some v → w.cell? ((⟨b,o + q,none⟩ : Addr).add j) = some v := by
 intro j v hj
 subst hq
 rw [addr_add,Nat.add_assoc]
 exact h.cell (pcs_get ps i j v hi hj)
theorem pcs_ne {ps : List Plc} {i : Nat} (h : i < ps.length) : pcs ps ≠ [] := fun e=>by have := congrArg List.length e;rw [pcs_length] at this;simp only [List.length_nil] at this;omega
def plcsI (ps : List Plc) : Prop := ∀ p ∈ ps,i64 p.ring ∧ i64 p.seq ∧ i64 p.rep ∧ i64 p.members
theorem c102 (a : Option Addr) (c : Nat) (ps : List Plc) (w : World) (hr : Rd w a (pcs ps)) (hm : ps.length ≤ 281474976710656) (hi64 : plcsI ps) :
  CallsTo Tryz.prog 381 [.slice a ps.length c,.func (.func 361) #[] #[]] w fun v w'=>(∃ r : Int,v = .int .i64 r ∧ (0 ≤ r ↔ (ps.any fun p=>!plcB p) = true)) ∧ Grew w w' := by
 refine go_in (n := 19) (St.rd1 hr) Tryz.func381 rfl rfl ?_
 repeat'(first|refine gz ?_)
 apply CW.loop [4,5,8,9,10,11,12,13,14,15,16,17,18] (fun i : Nat=>i ≤ ps.length ∧ ((ps.take i).any fun p=>!plcB p) = false) (fun i : Nat=>[(8,Value.int .i64 i)]) (fun i=>St w NoF [rdA a (pcs ps)]) (fun i=>ps.length - i)
 ·exact fun w' hw'=>⟨0,⟨by omega,by simp⟩,⟨rfl,trivial⟩,hw'⟩
 intro i g ⟨hi,heq⟩
 by_cases hlt : i < ps.length
 ·obtain ⟨ba,oa,rfl⟩ := hr.form (pcs_ne hlt)
  have hpi := hi64 _ (List.getElem_mem hlt)
  repeat'(first|refine gz ?_|(apply idxX;(iterate 2 exact rfl);(iterate 2(first|omega));exact rfl)|(apply LR.ev;(·apply Ev.load_agg_at (cs := ps[i].cells);(·exact rfl);(·exact rfl);(·intro w' hw';exact rd_plc (hw'.rd_of (List.Mem.head _)) hlt (by simp)));(·exact rfl))|(refine gs ?_ ?_;all_goals(intro hc;try simp only[hcs]at hc;try exact abz)))
  apply LR.qcall_fn (g := 361)
  ·exact rfl
  ·exact rfl
  ·intro w1 h1
   have hq := CallsTo.q (c75 ps[i] w1 hpi.2.2.2) h1
   show CallsTo Tryz.prog 361 [ps[i].val] w1 _
   exact hq
  repeat'(first|refine gz ?_|(apply addX;(iterate 2 exact rfl);(iterate 2(first|omega));exact rfl)|(refine gs ?_ ?_;all_goals(intro hc;try simp only[hcs]at hc;try exact abz)))
  ·(apply ret1;(·exact rfl);intro w' hS)
   refine ⟨⟨i,rfl,?_⟩,hS.toKeep⟩
   simp only [Int.natCast_nonneg,true_iff]
   rw [List.any_eq_true]
   exact ⟨ps[i],List.getElem_mem hlt,by simpa using hc⟩
  ·apply At.again (i + 1) ⟨by omega,by rw [List.take_succ_eq_append_getElem hlt,List.any_append,heq];simpa using hc⟩
   ·exact outZ
   ·exact ⟨rfl,trivial⟩
   ·exact fun w' hw'=>hw'
   ·omega
 ·repeat'(first|refine gz ?_|(refine gs ?_ ?_;all_goals(intro hc;try simp only[hcs]at hc;try exact abz)))
  (apply ret1;(·exact rfl);intro w' hS)
  rw [List.take_of_length_le (by omega)] at heq
  refine ⟨⟨-1,rfl,?_⟩,hS.toKeep⟩
  rw [heq];simp
theorem c74 (a : Option Addr) (c : Nat) (ps : List Plc) (w : World) (hr : Rd w a (pcs ps)) (hm : ps.length ≤ 281474976710656) (hi64 : plcsI ps) :
  CallsTo Tryz.prog 360 [.slice a ps.length c,.func (.func 361) #[] #[]] w fun v w'=>v = .bool (ps.any fun p=>!plcB p) ∧ Grew w w' := by
 refine go_in (n := 9) (St.rd1 hr) Tryz.func360 rfl rfl ?_
 repeat'(first|refine gz ?_)
 apply LR.call
 ·exact rfl
 intro w1 h1
 refine (c102 a c ps w1 (h1.rd_of (List.Mem.head _)) hm hi64).mono ?_
 rintro v w2 ⟨⟨r,rfl,hiff⟩,hg⟩
 refine LR.back (h1.grew hg) ?_
 repeat'(first|refine gz ?_)
 (apply ret1;(·exact rfl);intro w' hS)
 refine ⟨congrArg Value.bool ?_,hS.toKeep⟩
 rw [Bool.eq_iff_iff,decide_eq_true_eq];exact hiff
def incr : Int → List Plc → Bool
 | _,[]=>true
 | last,p :: r=>decide (last < p.ring) && incr p.ring r
def lastR (l : Int) (ps : List Plc) : Int := (ps.getLast?.map Plc.ring).getD l
theorem lastR_snoc (l : Int) (ps : List Plc) (p : Plc) : lastR l (ps ++ [p]) = p.ring := by simp [lastR]
theorem incr_snoc : ∀ (ps : List Plc) (l : Int) (p : Plc),incr l (ps ++ [p]) = (incr l ps && decide (lastR l ps < p.ring))
 | [],l,p=>by simp only [List.nil_append,incr,lastR,List.getLast?_nil,Option.map_none,Option.getD_none,Bool.and_true,Bool.true_and];rfl
 | q :: r,l,p=>by
  simp only [List.cons_append,incr,incr_snoc r q.ring p,Bool.and_assoc]
  congr 2
  unfold lastR
  cases r with
  | nil=>rfl
  | cons x y=>
   simp only [List.getLast?_cons_cons]
   cases hx : (x :: y).getLast? with
   | none=>simp at hx
   | some z=>rfl
theorem incr_append (ps qs : List Plc) (l : Int) (h : incr l (ps ++ qs) = true) : incr l ps = true := by
 induction ps generalizing l with
 | nil=>rfl
 | cons p r ih=>
  simp only [List.cons_append,incr,Bool.and_eq_true] at h ⊢
  exact ⟨h.1,ih _ h.2⟩
def plcNums (p : Plc) : List Int := [p.ring,p.seq,p.rep,p.members]
def plcsBytes (ps : List Plc) : List Int := enc ps.length ++ ps.flatMap fun p=>encs (plcNums p)
def charts (ps : List Plc) : List Int × Int :=
 if 4 < ps.length then ([],5) else if (ps.any fun p=>!plcB p) = true then ([],2) else if incr (-1) ps = false then ([],2) else (plcsBytes ps,0)
theorem plcNums_ok {p : Plc} (h : plcB p = true) : ∀ x ∈ plcNums p,okN x := by
 unfold plcB at h
 rw [decide_eq_true_eq] at h
 intro x hx
 simp only [plcNums,List.mem_cons,List.not_mem_nil,or_false] at hx
 unfold okN
 rcases hx with rfl | rfl | rfl | rfl <;> omega
theorem any_false {ps : List Plc} (h : (ps.any fun p=>!plcB p) = false) : ∀ p ∈ ps,plcB p = true := by
 intro p hp
 cases hx : plcB p with
 | true=>rfl
 | false=>rw [List.any_eq_false] at h;have := h p hp;simp [hx] at this
set_option maxHeartbeats 1000000 in
theorem c28 (a : Option Addr) (c : Nat) (ps : List Plc) (w : World) (hr : Rd w a (pcs ps)) (hm : ps.length ≤ 281474976710656) (hi64 : plcsI ps) :
  CallsTo Tryz.prog 316 [.slice a ps.length c] w fun v w'=>∃ a2 c2,v = .tuple [.slice a2 (charts ps).1.length c2,.int .i64 (charts ps).2].toArray ∧ NewSl w w' (.slice a2 (charts ps).1.length c2) 5 1 (charts ps).1.length (bv (charts ps).1) := by
 refine go_in (n := 55) (St.rd1 hr) Tryz.func316 rfl rfl ?_
 have nils : ∀ w',Grew w w' → NewSl w w' (.slice none 0 0) 5 1 0 (bv []) := fun w' hg=>⟨hg,World.ownsRow_nil _ _ _ _⟩
 repeat'(first|refine gz ?_|(apply LR.qcall;(·exact rfl);(·intro w1 h1;exact CallsTo.q (c74 a c ps w1 (h1.rd_of (List.Mem.head _)) hm hi64) h1))|(refine gs ?_ ?_;all_goals(intro hc;try simp only[hcs]at hc;try exact abz)))
 ·(apply ret2;(·exact rfl);intro w' hS)
  have e : charts ps = ([],5) := by unfold charts;rw [if_pos (by omega)]
  rw [e]
  exact ⟨none,0,rfl,nils w' hS.toKeep⟩
 ·(apply ret2;(·exact rfl);intro w' hS)
  have e : charts ps = ([],2) := by unfold charts;rw [if_neg (by omega),if_pos hc]
  rw [e]
  exact ⟨none,0,rfl,nils w' hS.toKeep⟩
 rename _=>hcp
 have hany := any_false hcp
 apply LR.call
 ·exact rfl
 intro w1 h1
 refine (c53 w1).mono ?_
 rintro v w2 ⟨bw,rfl,hn⟩
 refine LR.back (h1.got hn (wrA_dep _ _ _ _)) ?_
 clear hn h1
 repeat'(first|refine gz ?_|refine gy fun _=>?_)
 repeat'(first|refine gz ?_|(apply LR.call;(·exact rfl);(intro w1 h1;refine (c54 bw none _ 0 _ [] [(ps.length : Int)] w1 (h1.holds _ (List.Mem.tail _ (List.Mem.head _))) (h1.rd_of_blk (List.Mem.head _)) (fun k hk hk2=>h1.apart (List.Mem.head _) rfl k (by obtain ⟨_,ad,e,rfl⟩ := hk;cases e;rfl) hk2) (by simp) (by simp) (by simp [okN];omega)).mono ?_;rintro v w2 ⟨a2,c2,rfl,st⟩;refine LR.back (h1.did (Sel.tail _ (Sel.head _ _ _)) rfl st (wrA_dep _ _ _ _)) ?_;clear st h1))|fail)
 have key : ∀ i,i ≤ ps.length → (enc ps.length ++ (ps.take i).flatMap fun p=>encs (plcNums p)).length ≤ 9 + 36 * ps.length := by
  intro i hi
  have h1 : (enc ps.length).length ≤ 9 := encF_len 8 _
  have h2 : ∀ l : List Plc,(l.flatMap fun p=>encs (plcNums p)).length ≤ 36 * l.length := by
   intro l
   induction l with
   | nil=>simp
   | cons p r ih=>
    have := encs_len (plcNums p)
    simp only [List.flatMap_cons,List.length_append,List.length_cons]
    have e : (plcNums p).length = 4 := rfl
    omega
  have h3 := h2 (ps.take i)
  have h4 : (ps.take i).length ≤ ps.length := by simp;omega
  simp only [List.length_append];omega
 apply CW.loop [2,3,5,6,8,24,25,26,27,28,29,30,31,32,33,34,35,36,37,38,39,40,41,42,43,44,45,46,47,48,49] (fun s : Nat × Option Addr × Nat=>s.1 ≤ ps.length ∧ incr (-1) (ps.take s.1) = true) (fun s=>[(24,Value.int .i64 (s.1 : Int)),(5,.int .i64 (lastR (-1) (ps.take s.1))),(6,.int .i64 0)])
  (fun s=>St w NoF [wrA 364 [.bool true] bw s.2.1 s.2.2 (enc ps.length ++ (ps.take s.1).flatMap fun p=>encs (plcNums p)),rdA a (pcs ps)]) (fun s=>ps.length - s.1)
 ·exact fun w' hw'=>⟨(0,a2,c2),⟨by simp,rfl⟩,⟨rfl,rfl,rfl,trivial⟩,hw'.tail1.cast (by simp [encs])⟩
 rintro ⟨i,a1,c1⟩ g ⟨hi,hinc⟩
 simp only at hi hinc ⊢
 by_cases hlt : i < ps.length
 ·obtain ⟨ba,oa,rfl⟩ := hr.form (pcs_ne hlt)
  have hk := key i hi
  have hb := hany _ (List.getElem_mem hlt)
  have hok := plcNums_ok hb
  repeat'(first|refine gz ?_|refine gy fun _=>?_|(apply idxX;(iterate 2 exact rfl);(iterate 2(first|omega));exact rfl)|(apply LR.ev;(·apply Ev.load_agg_at (cs := ps[i].cells);(·exact rfl);(·exact rfl);(·intro w' hw';exact rd_plc (hw'.rd_of (List.Mem.tail _ (List.Mem.head _))) hlt (by simp)));(·exact rfl))|(apply addX;(iterate 2 exact rfl);(iterate 2(first|omega));exact rfl)|(apply LR.call;(·exact rfl);(intro w1 h1;refine (c54 bw a1 _ c1 _ _ (plcNums ps[i]) w1 (h1.holds _ (List.Mem.tail _ (List.Mem.tail _ (List.Mem.head _)))) (h1.rd_of_blk (List.Mem.head _)) (fun k hk hk2=>h1.apart (List.Mem.tail _ (List.Mem.head _)) rfl k (by obtain ⟨_,ad,e,rfl⟩ := hk;cases e;rfl) hk2) (by omega) (by simp [plcNums]) hok).mono ?_;rintro v w2 ⟨a2,c2,rfl,st⟩;refine LR.back (h1.did (Sel.tail _ (Sel.tail _ (Sel.head _ _ _))) rfl st (wrA_dep _ _ _ _)) ?_;clear st h1))|(refine gs ?_ ?_;all_goals(intro hc;try simp only[hcs]at hc;try exact abz)))
  ·(apply ret2;(·exact rfl);intro w' hS)
   have e : charts ps = ([],2) := by
    unfold charts
    rw [if_neg (by omega),if_neg (by simp [hcp]),if_pos ?_]
    cases hx : incr (-1) ps with
    | false=>rfl
    | true=>
     have h1 := incr_append (ps.take (i + 1)) (ps.drop (i + 1)) (-1) (by rw [List.take_append_drop];exact hx)
     rw [List.take_succ_eq_append_getElem hlt,incr_snoc,hinc] at h1
     simp at h1;omega
   rw [e]
   exact ⟨none,0,rfl,nils w' hS.toKeep⟩
  ·apply At.again (i + 1,a2,c2)
   ·refine ⟨by show i + 1 ≤ _;omega,?_⟩
    show incr (-1) (ps.take (i + 1)) = true
    rw [List.take_succ_eq_append_getElem hlt,incr_snoc,hinc]
    simpa using hc
   ·exact outZ
   ·refine ⟨rfl,?_,rfl,trivial⟩
    show Value.int .i64 ps[i].ring = .int .i64 (lastR (-1) (ps.take (i + 1)))
    rw [List.take_succ_eq_append_getElem hlt,lastR_snoc]
   ·intro w' hw'
    exact hw'.tail1.tail1.cast (by simp only [List.take_succ_eq_append_getElem hlt,List.flatMap_append,List.flatMap_cons,List.flatMap_nil,List.append_nil,List.append_assoc])
   ·show ps.length - (i + 1) < ps.length - i;omega
 ·have hk := key i hi
  rw [List.take_of_length_le (by omega)] at hk hinc ⊢
  repeat'(first|refine gz ?_|(refine gs ?_ ?_;all_goals(intro hc;try simp only[hcs]at hc;try exact abz)))
  apply LR.call
  ·exact rfl
  intro w1 h1
  refine (c56 bw a1 c1 _ w1 (h1.holds _ (List.Mem.head _)) (by omega)).mono ?_
  rintro v w2 ⟨a2,c2,rfl,hn⟩
  refine LR.back (h1.newSl hn) ?_
  repeat'(first|refine gz ?_)
  (apply ret2;(·exact rfl);intro w' hS)
  have e : charts ps = (plcsBytes ps,0) := by
   unfold charts
   rw [if_neg (by omega),if_neg (by simp [hcp]),if_neg (by simp [hinc])]
  rw [e]
  exact ⟨a2,c2,rfl,hS.toNew (List.Mem.head _)⟩
end Go.Proofs.YtohbcfokihplbaaGreatDoor
namespace Go.Proofs.YtohbcfokihplbaaGreatDoor
open Go.Hb
attribute [local irreducible] LR CW At Ev thn blk finK noG again CallsTo DW QL dnext
set_option maxRecDepth 100000
def decs : Nat → List Int → List Int × Int × List Int
 | 0,l=>([],0,l)
 | n + 1,l=>if (dec l).2.2 ≠ 0 then ([],(dec l).2.2,l.drop (dec l).2.1) else
  ((((dec l).1 : Nat) : Int) :: (decs n (l.drop (dec l).2.1)).1,(decs n (l.drop (dec l).2.1)).2)
theorem decs_len : ∀ n l,(decs n l).1.length ≤ n ∧ ((decs n l).2.1 = 0 → (decs n l).1.length = n)
 | 0,l=>by simp [decs]
 | n + 1,l=>by
  unfold decs
  split
  ·rename_i h;simp [h]
  ·have := decs_len n (l.drop (dec l).2.1);simp;omega
theorem Byt.drop {l : List Int} (h : Byt l) (n : Nat) : Byt (l.drop n) := fun b hb=>h b (List.mem_of_mem_drop hb)
theorem decs_rest : ∀ n l,∃ k,(decs n l).2.2 = l.drop k
 | 0,l=>⟨0,by simp [decs]⟩
 | n + 1,l=>by
  unfold decs
  split
  ·exact ⟨_,rfl⟩
  ·obtain ⟨k,hk⟩ := decs_rest n (l.drop (dec l).2.1)
   exact ⟨(dec l).2.1 + k,by simp only [hk,List.drop_drop]⟩
def pv (l : List Addr) : List Value := l.map fun x=>.pointer (some x)
@[simp] theorem pv_length (l : List Addr) : (pv l).length = l.length := by simp [pv]
theorem pv_at {l : List Addr} {q i : Nat} (hq : q = i) (h : i < l.length) : (pv l)[q]? = some (.pointer (some (l[i]'h))) := by subst hq;simp [pv,h]
set_option maxHeartbeats 1000000 in
theorem c66 (br : Nat) (a : Option Addr) (c : Nat) (l : List Int) (b : Option Addr) (cb : Nat) (ads : List Addr) (T : List Int → Asrt) (w : World) (h : (both (rrA 328 [.bool true] br a c l) (T [])).holds w)
  (hr : Rd w b (pv ads)) (hsep : ∀ k,rdFoot b (pv ads) k → ¬ (both (rrA 328 [.bool true] br a c l) (T [])).foot k)
  (hT : ∀ vs x,(hi : vs.length < ads.length) → Stores Tryz.prog 3 ads[vs.length] (.int .i64 x) (T vs) (T (vs ++ [x]))) (hTe : ∀ vs,(T vs).excl = true) (hTd : ∀ vs,(T vs).dep)
  (hb : Byt l) (hm : l.length ≤ 281474976710656) (hlen : ads.length ≤ 100) :
  CallsTo Tryz.prog 295 [.pointer (some ⟨br,0,none⟩),.slice b ads.length cb] w fun v w'=>∃ a' c',v = .int .i64 (decs ads.length l).2.1 ∧ Step (both (rrA 328 [.bool true] br a c l) (T [])) (both (rrA 328 [.bool true] br a' c' (decs ads.length l).2.2) (T (decs ads.length l).1)) w w' := by
 have dr : ∀ a c l,(rrA 328 [.bool true] br a c l).dep := fun a c l=>rrA_dep _ _ _ _ _ _
 refine go_in (n := 27) (St.part ((St.one (a := both _ _) h h.2.2.2 (both_dep (dr _ _ _) (hTd _))).addRd hr hsep |>.swap) (dr _ _ _) (hTd _)) Tryz.func295 rfl rfl ?_
 repeat'(first|refine gz ?_)
 apply CW.loop [4,6,7,8,11,12,13,14,15,16,17,18,19,20,21,22,23,24,25,26] (fun s : Nat × Option Addr × Nat × List Int × List Int=>s.1 ≤ ads.length ∧ s.2.2.2.1.length = s.1 ∧ (∃ k,s.2.2.2.2 = l.drop k) ∧ decs ads.length l = (s.2.2.2.1 ++ (decs (ads.length - s.1) s.2.2.2.2).1,(decs (ads.length - s.1) s.2.2.2.2).2)) (fun s=>[(11,Value.int .i64 (s.1 : Int))])
  (fun s=>St w (both (rrA 328 [.bool true] br a c l) (T [])).foot [rrA 328 [.bool true] br s.2.1 s.2.2.1 s.2.2.2.2,T s.2.2.2.1,rdA b (pv ads)]) (fun s=>ads.length - s.1)
 ·exact fun w' hw'=>⟨(0,a,c,[],l),⟨by simp,rfl,⟨0,rfl⟩,by simp⟩,⟨rfl,trivial⟩,hw'⟩
 rintro ⟨i,a1,c1,vs,l1⟩ g ⟨hi,hvs,⟨k,hk⟩,hdec⟩
 simp only at hi hvs hk hdec ⊢
 have hb1 : Byt l1 := hk ▸ hb.drop k
 have hm1 : l1.length ≤ 281474976710656 := by rw [hk];simp;omega
 by_cases hlt : i < ads.length
 ·obtain ⟨bb,ob,rfl⟩ := hr.form (fun e=>by have := congrArg List.length e;simp at this;subst this;simp at hlt)
  obtain ⟨q,hq⟩ : ∃ q,ads.length - i = q + 1 := ⟨ads.length - i - 1,by omega⟩
  rw [hq] at hdec
  have hst : ∀ x,Stores Tryz.prog 3 ads[i] (.int .i64 x) (T vs) (T (vs ++ [x])) := by intro x;have := hT vs x (by omega);simpa only [hvs] using this
  repeat'(first|refine gz ?_|(apply idxX;(iterate 2 exact rfl);(iterate 2(first|omega));exact rfl)|(apply LR.ev;(·apply Ev.load_rd;(·exact rfl);(·repeat (first | exact mH _ _ | apply mT));(·exact pv_at (i := i) (by simp) (by omega)));(·exact rfl))|(apply LR.call;(·exact rfl);(intro w1 h1;refine (c73 _ _ _ _ w1 (h1.holds _ (List.Mem.head _)) hb1 hm1).mono ?_;rintro v w2 ⟨a2,c2,rfl,st⟩;refine LR.back (h1.did (Sel.head _ _ _) rfl st (rrA_dep _ _ _ _ _ _)) ?_;clear st h1))|(refine gs ?_ ?_;all_goals(intro hc;try simp only[hcs]at hc;try exact abz)))
  ·(apply ret1;(·exact rfl);intro w' hS)
   have e : decs (q + 1) l1 = ([],(dec l1).2.2,l1.drop (dec l1).2.1) := by unfold decs;rw [if_pos hc]
   rw [hdec,e]
   refine ⟨a2,c2,rfl,(hS.join rfl (hTe _)).step rfl |> fun h=>?_⟩
   simpa using h
  ·refine LR.store_obj (v := .int .i64 ((dec l1).1 : Int)) rfl rfl (Sel.tail _ (Sel.head _ _ _)) (hTe _) (hst _) (hTd _) ?_
   repeat'(first|refine gz ?_|(apply addX;(iterate 2 exact rfl);(iterate 2(first|omega));exact rfl))
   apply At.again (i + 1,a2,c2,vs ++ [((dec l1).1 : Int)],l1.drop (dec l1).2.1)
   ·refine ⟨by show i + 1 ≤ _;omega,by simp [hvs],⟨k + (dec l1).2.1,by simp only [hk,List.drop_drop]⟩,?_⟩
    show decs ads.length l = _
    have e : decs (q + 1) l1 = ((((dec l1).1 : Nat) : Int) :: (decs q (l1.drop (dec l1).2.1)).1,(decs q (l1.drop (dec l1).2.1)).2) := by rw [decs,if_neg (by simpa using hc)]
    rw [hdec,e,show ads.length - (i + 1) = q by omega]
    simp
   ·exact outZ
   ·exact ⟨rfl,trivial⟩
   ·exact fun w' hw'=>hw'
   ·show ads.length - (i + 1) < ads.length - i;omega
 ·repeat'(first|refine gz ?_|(refine gs ?_ ?_;all_goals(intro hc;try simp only[hcs]at hc;try exact abz)))
  (apply ret1;(·exact rfl);intro w' hS)
  have hq : ads.length - i = 0 := by omega
  rw [hq] at hdec
  rw [hdec]
  refine ⟨a1,c1,rfl,(hS.join rfl (hTe _)).step rfl |> fun h=>?_⟩
  simpa [decs] using h
theorem c66m {br : Nat} {a : Option Addr} {c : Nat} {l : List Int} {b cb m : Nat} {ads : List Addr} {E : TypeId} {T : List Int → Asrt} {w0 w : World} {F : Nat → Prop} {R : List Asrt}
  (h : St w0 F (both (rrA 328 [.bool true] br a c l) (T []) :: .own b (.cells (pv ads).toArray E (0,0)) :: R) w) (hads : ads.length = m)
  (hT : ∀ vs x,(hi : vs.length < ads.length) → Stores Tryz.prog 3 ads[vs.length] (.int .i64 x) (T vs) (T (vs ++ [x]))) (hTe : ∀ vs,(T vs).excl = true) (hTd : ∀ vs,(T vs).dep)
  (hb : Byt l) (hm : l.length ≤ 281474976710656) (hlen : m ≤ 100) :
  CallsTo Tryz.prog 295 [.pointer (some ⟨br,0,none⟩),.slice (some ⟨b,0,none⟩) m cb] w fun v w'=>∃ a' c',v = .int .i64 (decs m l).2.1 ∧ St w0 F (rrA 328 [.bool true] br a' c' (decs m l).2.2 :: T (decs m l).1 :: .own b (.cells (pv ads).toArray E (0,0)) :: R) w' := by
 subst hads
 refine (c66 br a c l (some ⟨b,0,none⟩) cb ads T w (h.holds _ (List.Mem.head _)) (h.rd_of_blk (List.Mem.tail _ (List.Mem.head _))) (fun k hk hk2=>h.apart (List.Mem.head _) rfl k hk2 (by obtain ⟨_,ad,e,rfl⟩ := hk;cases e;rfl)) hT hTe hTd hb hm hlen).mono ?_
 rintro v w2 ⟨a2,c2,rfl,st⟩
 exact ⟨a2,c2,rfl,St.part (h.did (Sel.head _ _ _) rfl st (both_dep (rrA_dep _ _ _ _ _ _) (hTd _))) (rrA_dep _ _ _ _ _ _) (hTd _)⟩
theorem decs_bound : ∀ n l,(∀ x ∈ (decs n l).1,0 ≤ x ∧ x ≤ 9007199254740991)
 | 0,l=>by simp [decs]
 | n + 1,l=>by
  unfold decs
  split
  ·simp
  ·rename_i h
   have ih := decs_bound n (l.drop (dec l).2.1)
   have hb := (decF_bound 8 0 0 l).2 (by simpa [dec] using h)
   intro x hx
   simp only [List.mem_cons] at hx
   rcases hx with rfl | hx
   ·have : (dec l).1 ≤ 9007199254740991 := hb.2
    omega
   ·exact ih x hx
def plcOf (v : List Int) : Plc := ⟨v.getD 0 0,v.getD 1 0,v.getD 2 0,v.getD 3 0⟩
def rows : Nat → List Int → List Plc × Int × List Int
 | 0,l=>([],0,l)
 | n + 1,l=>if (decs 4 l).2.1 ≠ 0 then ([],(decs 4 l).2.1,(decs 4 l).2.2) else (plcOf (decs 4 l).1 :: (rows n (decs 4 l).2.2).1,(rows n (decs 4 l).2.2).2)
def places (l : List Int) : List Plc × Int :=
 if (dec l).2.2 ≠ 0 then ([],(dec l).2.2)
 else if 4 < (dec l).1 then ([],5)
 else if (rows (dec l).1 (l.drop (dec l).2.1)).2.1 ≠ 0 then ([],(rows (dec l).1 (l.drop (dec l).2.1)).2.1)
 else if (charts (rows (dec l).1 (l.drop (dec l).2.1)).1).2 ≠ 0 ∨ 0 < (rows (dec l).1 (l.drop (dec l).2.1)).2.2.length then ([],4)
 else ((rows (dec l).1 (l.drop (dec l).2.1)).1,0)
def zz (k : Nat) : List Value := List.replicate k (.int .i64 0)
theorem four {v : List Int} (h : v.length = 4) : ∃ a b c d,v = [a,b,c,d] := by
 match v,h with
 | [a,b,c,d],_=>exact ⟨a,b,c,d,rfl⟩
theorem plcOf_cells {v : List Int} (h : v.length = 4) : (plcOf v).cells = iv v := by
 obtain ⟨a,b,c,d,rfl⟩ := four h
 rfl
theorem splice_mid (A B : List Value) (z v : Value) {o : Nat} (ho : o = A.length) : splice (A ++ z :: B) o [v] = A ++ v :: B := by
 subst ho
 unfold splice
 rw [List.take_append_of_le_length (Nat.le_refl _),List.take_length]
 rw [List.drop_append]
 simp
theorem plcOf_i64 {v : List Int} (h : ∀ x ∈ v,0 ≤ x ∧ x ≤ 9007199254740991) : i64 (plcOf v).ring ∧ i64 (plcOf v).seq ∧ i64 (plcOf v).rep ∧ i64 (plcOf v).members := by
 have : ∀ i,0 ≤ v.getD i 0 ∧ v.getD i 0 ≤ 9007199254740991 := by
  intro i
  by_cases hi : i < v.length
  ·have := h v[i] (List.getElem_mem hi)
   simpa [List.getD_eq_getElem?_getD,hi] using this
  ·simp [List.getD_eq_getElem?_getD,List.getElem?_eq_none (Nat.le_of_not_lt hi)]
 unfold i64 plcOf
 have h0 := this 0;have h1 := this 1;have h2 := this 2;have h3 := this 3
 refine ⟨⟨?_,?_⟩,⟨?_,?_⟩,⟨?_,?_⟩,⟨?_,?_⟩⟩ <;> (dsimp only;omega)
theorem decs_rest_len (n : Nat) (l : List Int) : (decs n l).2.2.length ≤ l.length := by
 obtain ⟨k,hk⟩ := decs_rest n l
 rw [hk];simp
theorem decs_rest_byt (n : Nat) {l : List Int} (h : Byt l) : Byt (decs n l).2.2 := by
 obtain ⟨k,hk⟩ := decs_rest n l
 rw [hk];exact h.drop k
set_option maxHeartbeats 2000000 in
theorem c25 (a : Option Addr) (ca : Nat) (l : List Int) (w : World) (hr : Rd w a (bv l)) (hz : a = none → ca = 0) (hm : l.length ≤ 140737488355328) (hb : Byt l) :
  CallsTo Tryz.prog 256 [.slice a l.length ca] w fun v w'=>∃ a2 c2,v = .tuple [.slice a2 (places l).1.length c2,.int .i64 (places l).2].toArray ∧ NewSl w w' (.slice a2 (places l).1.length c2) 318 4 (places l).1.length (pcs (places l).1) := by
 refine go_in (n := 71) (St.rd1 hr) Tryz.func256 rfl rfl ?_
 have nils : ∀ w',Grew w w' → NewSl w w' (.slice none 0 0) 318 4 0 (pcs []) := fun w' hg=>⟨hg,World.ownsRow_nil _ _ _ _⟩
 repeat'(first|refine gz ?_|(apply LR.call;(·exact rfl);(intro w1 h1;first | (refine (c65 a ca l w1 (h1.rd_of (List.Mem.head _)) hz hm).mono ?_;rintro v w2 ⟨br,a1,c1,rfl,hn⟩;refine LR.back (h1.got hn (rrA_dep _ _ _ _ _ _)) ?_;clear hn h1) | (refine (c73 _ _ _ l w1 (h1.holds _ (List.Mem.head _)) hb (by omega)).mono ?_;rintro v w2 ⟨a2,c2,rfl,st⟩;refine LR.back (h1.did (Sel.head _ _ _) rfl st (rrA_dep _ _ _ _ _ _)) ?_;clear st h1)))|(refine gs ?_ ?_;all_goals(intro hc;try simp only[hcs]at hc;try exact abz)))
 ·(apply ret2;(·exact rfl);intro w' hS)
  have e : places l = ([],(dec l).2.2) := by unfold places;rw [if_pos hc]
  rw [e]
  exact ⟨none,0,rfl,nils w' hS.toKeep⟩
 ·rename (dec l).2.2 = 0=>hd
  (apply ret2;(·exact rfl);intro w' hS)
  have e : places l = ([],5) := by unfold places;rw [if_neg (by simpa using hd),if_pos (by omega)]
  rw [e]
  exact ⟨none,0,rfl,nils w' hS.toKeep⟩
 rename (dec l).2.2 = 0=>hd
 rename ((dec l).1 : Int) ≤ 4=>h4
 have hdl := dec_le l
 have ep : places l = if (rows (dec l).1 (l.drop (dec l).2.1)).2.1 ≠ 0 then ([],(rows (dec l).1 (l.drop (dec l).2.1)).2.1)
  else if (charts (rows (dec l).1 (l.drop (dec l).2.1)).1).2 ≠ 0 ∨ 0 < (rows (dec l).1 (l.drop (dec l).2.1)).2.2.length then ([],4)
  else ((rows (dec l).1 (l.drop (dec l).2.1)).1,0) := by
  unfold places;rw [if_neg (by simpa using hd),if_neg (by omega)]
 have hb0 : Byt (l.drop (dec l).2.1) := hb.drop _
 have hm0 : (l.drop (dec l).2.1).length ≤ 140737488355328 := by simp;omega
 rw [ep]
 clear ep hd
 generalize l.drop (dec l).2.1 = l0 at *
 generalize (dec l).1 = n at *
 have h4' : n ≤ 4 := by omega
 apply LR.makeSlice
 ·exact rfl
 ·exact rfl
 ·omega
 ·omega
 ·exact rfl
 ·exact rfl
 intro bs
 repeat'(first|refine gz ?_)
 have ezz : (List.replicate n [Value.int .i64 0,.int .i64 0,.int .i64 0,.int .i64 0]).flatten = pcs [] ++ zz (4 * n) := by
  have : ∀ k,(List.replicate k [Value.int .i64 0,.int .i64 0,.int .i64 0,.int .i64 0]).flatten = zz (4 * k) := by
   intro k
   induction k with
   | zero=>rfl
   | succ k ih=>rw [List.replicate_succ,List.flatten_cons,ih,show 4 * (k + 1) = 4 + 4 * k by omega];unfold zz;rw [Nat.add_comm];rfl
  rw [this];rfl
 rw [ezz]
 apply CW.loop [2,3,8,9,10,31,32,33,34,35,36,37,38,39,40,41,42,43,44,45,46,47,48,49,50,51,52,53,54,55,56,57] (fun s : Nat × Option Addr × Nat × List Plc × List Int=>s.1 ≤ n ∧ s.2.2.2.1.length = s.1 ∧ plcsI s.2.2.2.1 ∧ Byt s.2.2.2.2 ∧ s.2.2.2.2.length ≤ 140737488355328 ∧ rows n l0 = (s.2.2.2.1 ++ (rows (n - s.1) s.2.2.2.2).1,(rows (n - s.1) s.2.2.2.2).2)) (fun s=>[(31,Value.int .i64 (s.1 : Int))])
  (fun s=>St w NoF [.own bs (.cells (pcs s.2.2.2.1 ++ zz (4 * (n - s.1))).toArray 318 (0,0)),rrA 328 [.bool true] br s.2.1 s.2.2.1 s.2.2.2.2]) (fun s=>n - s.1)
 ·exact fun w' hw'=>⟨(0,a2,c2,[],l0),⟨by simp,rfl,fun p hp=>by simp at hp,hb0,hm0,by simp⟩,⟨rfl,trivial⟩,hw'.sub (by simp)⟩
 rintro ⟨i,a1,c1,ps,l1⟩ g ⟨hi,hps,hpi,hb1,hm1,hrows⟩
 simp only at hi hps hpi hb1 hm1 hrows ⊢
 by_cases hlt : i < n
 ·obtain ⟨q,hq⟩ : ∃ q,n - i = q + 1 := ⟨n - i - 1,by omega⟩
  rw [hq] at hrows ⊢
  repeat'(first|(apply CW.reg_held (fun _=>True);apply DW.quiet [0,1,2,3,4,5,6,7,8,9,10,11,12,13,14];(·kernel_rfl);(·exact fun _ _=>trivial))|refine gz ?_|(apply idxX;(iterate 2 exact rfl);(iterate 2(first|omega));exact rfl)|(refine gs ?_ ?_;all_goals(intro hc;try simp only[hcs]at hc;try exact abz)))
  repeat'(first|refine gq ?_|apply QL.nil)
  apply DW.loud 15
  ·exact rfl
  ·kernel_rfl
  repeat'(first|refine gz ?_|refine gy fun _=>?_)
  apply At.stage_any
  apply DW.loud 16
  ·exact rfl
  ·kernel_rfl
  apply LR.call
  ·exact rfl
  intro w1 h1
  have h2 := ((h1.rot.swap).cast (L' := [rrA 328 [.bool true] br a1 c1 l1,.own bs (.cells (pcs ps ++ iv [] ++ zz (4 * (q + 1) - ([] : List Int).length)).toArray 318 (0,0)),_]) (by simp [iv];rfl)).join rfl rfl
  refine (c66m (m := 4) (ads := [⟨bs,i * 4,none⟩,⟨bs,i * 4 + 1,none⟩,⟨bs,i * 4 + 1 + 1,none⟩,⟨bs,i * 4 + 3,none⟩]) (T := fun vs=>.own bs (.cells (pcs ps ++ iv vs ++ zz (4 * (q + 1) - vs.length)).toArray 318 (0,0))) h2 rfl ?_ (fun _=>rfl) (fun _=>Asrt.dep_own _ _) hb1 (by omega) (by omega)).mono ?_
  ·intro vs x hi'
   have e : ∀ k (hk : k < 4),([⟨bs,i * 4,none⟩,⟨bs,i * 4 + 1,none⟩,⟨bs,i * 4 + 1 + 1,none⟩,⟨bs,i * 4 + 3,none⟩] : List Addr)[k] = ⟨bs,i * 4 + k,none⟩ := by
    intro k hk
    match k,hk with
    | 0,_=>rfl
    | 1,_=>rfl
    | 2,_=>rfl
    | 3,_=>rfl
   have hi4 : vs.length < 4 := hi'
   rw [e _ hi4]
   have e2 : zz (4 * (q + 1) - vs.length) = .int .i64 0 :: zz (4 * (q + 1) - (vs ++ [x]).length) := by
    rw [show 4 * (q + 1) - vs.length = (4 * (q + 1) - (vs ++ [x]).length) + 1 by simp;omega];rfl
   have st := Stores.own (P := Tryz.prog) (T := 3) (m := 1) (b := bs) (o := i * 4 + vs.length) (v := .int .i64 x) (cs := pcs ps ++ iv vs ++ zz (4 * (q + 1) - vs.length)) (vs := [.int .i64 x]) (E := 318) inferInstance rfl rfl rfl (by
    simp [pcs_length,hps,zz];omega)
   rw [e2,splice_mid _ _ _ _ (by simp [pcs_length,hps])] at st
   rw [e2]
   simpa [iv] using st
  rintro v w2 ⟨a2,c2,rfl,st⟩
  refine LR.back st ?_
  clear st h1 h2
  repeat'(first|refine gz ?_)
  apply At.stage_any
  apply DW.loud 17
  ·exact rfl
  ·kernel_rfl
  repeat'(first|refine gz ?_)
  apply At.stage_any
  apply DW.done_thn
  ·kernel_rfl
  repeat'(first|refine gz ?_|(apply addX;(iterate 2 exact rfl);(iterate 2(first|omega));exact rfl)|(refine gs ?_ ?_;all_goals(intro hc;try simp only[hcs]at hc;try exact abz)))
  ·(apply ret2;(·exact rfl);intro w' hS)
   have e : rows (q + 1) l1 = ([],(decs 4 l1).2.1,(decs 4 l1).2.2) := by rw [rows,if_pos hc]
   rw [hrows,e]
   simp only [List.append_nil]
   rw [if_pos hc]
   exact ⟨none,0,rfl,nils w' hS.toKeep⟩
  ·have hl4 := (decs_len 4 l1).2 hc
   have hl5 := decs_rest_len 4 l1
   apply At.again (i + 1,a2,c2,ps ++ [plcOf (decs 4 l1).1],(decs 4 l1).2.2)
   ·refine ⟨by show i + 1 ≤ _;omega,by simp [hps],?_,decs_rest_byt 4 hb1,by dsimp only;omega,?_⟩
    ·intro p hp
     simp only [List.mem_append,List.mem_singleton] at hp
     rcases hp with hp | rfl
     ·exact hpi p hp
     ·exact plcOf_i64 (decs_bound 4 l1)
    ·show rows n l0 = _
     have e : rows (q + 1) l1 = (plcOf (decs 4 l1).1 :: (rows q (decs 4 l1).2.2).1,(rows q (decs 4 l1).2.2).2) := by rw [rows,if_neg (by simpa using hc)]
     rw [hrows,e,show n - (i + 1) = q by omega]
     simp
   ·exact outZ
   ·exact ⟨rfl,trivial⟩
   ·intro w' hw'
    refine (St.sub (L' := [_,_]) hw'.swap (List.Sublist.cons_cons _ (List.Sublist.cons_cons _ (List.nil_sublist _)))).cast ?_
    have e1 : pcs ps ++ iv (decs 4 l1).1 ++ zz (4 * (q + 1) - (decs 4 l1).1.length) = pcs (ps ++ [plcOf (decs 4 l1).1]) ++ zz (4 * (n - (i + 1))) := by
     rw [hl4,show 4 * (n - (i + 1)) = 4 * (q + 1) - 4 by omega]
     simp only [pcs,List.flatMap_append,List.flatMap_cons,List.flatMap_nil,List.append_nil,plcOf_cells hl4]
    rw [e1]
   ·show n - (i + 1) < n - i;omega
 ·have hq : n - i = 0 := by omega
  rw [hq] at hrows ⊢
  have hin : i = n := by omega
  have er : rows n l0 = (ps,0,l1) := by rw [hrows];simp [rows]
  rw [er]
  simp only
  subst hin
  rw [show zz (4 * 0) = [] from rfl,List.append_nil,← hps]
  rw [if_neg (by simp)]
  repeat'(first|refine gz ?_|(apply LR.call;(·exact rfl);(intro w1 h1;refine (c28 _ _ ps w1 (h1.rd_of_blk (cs := pcs ps) (List.Mem.head _)) (by omega) hpi).mono ?_;rintro v w2 ⟨a2,c2,rfl,hn⟩;refine LR.back (h1.newSl hn) ?_;clear hn h1))|(apply LR.qcall;(·exact rfl);(·intro w1 h1;exact CallsTo.q (c68 br a1 c1 l1 w1 (h1.holds _ (List.Mem.tail _ (List.Mem.tail _ (List.Mem.head _))))) h1))|(refine gs ?_ ?_;all_goals(intro hc;try simp only[hcs]at hc;try exact abz)))
  ·(apply ret2;(·exact rfl);intro w' hS)
   rw [if_pos (.inl hc)]
   exact ⟨none,0,rfl,nils w' hS.toKeep⟩
  ·rename (charts ps).2 = 0=>h0
   (apply ret2;(·exact rfl);intro w' hS)
   rw [if_pos (.inr (by omega))]
   exact ⟨none,0,rfl,nils w' hS.toKeep⟩
  ·rename (charts ps).2 = 0=>h0
   (apply ret2;(·exact rfl);intro w' hS)
   rw [if_neg (by simp only [not_or,Nat.not_lt];exact ⟨by simpa using h0,by omega⟩)]
   exact ⟨some ⟨bs,0,none⟩,ps.length,rfl,(hS.own_osl (Sel.tail _ (Sel.head _ _ _)) (pcs_length ps) (by unfold maxLen;omega)).toNew (List.Mem.tail _ (List.Mem.head _))⟩
instance : MapOf Tryz.prog 214 .i64 .nilFunc := ⟨⟨3,212,Tryz.underlying214,Tryz.underlying3,Tryz.zeroValue212⟩⟩
def ruleL : List (Int × Value) := [(1,.func (.func 199) #[] #[]),(2,.func (.func 200) #[] #[]),(3,.func (.func 201) #[] #[]),(4,.func (.func 202) #[] #[]),(5,.func (.func 203) #[] #[])]
theorem c58 (w : World) : CallsTo Tryz.prog 144 [] w fun v w'=>∃ b,v = .map (some b) ∧ New1 (.own b (mapObj .i64 ruleL)) w w' := by
 refine go_in (n := 3) (St.refl _ NoF) Tryz.func144 rfl rfl ?_
 repeat'(first|refine gz ?_|(apply LR.makeMap;(·exact rfl);intro b)|(refine LR.insert rfl rfl rfl (Sel.head _ _ _) rfl ?_))
 (apply ret1;(·exact rfl);intro w' hS)
 exact ⟨b,rfl,(hS.cast (L' := [.own b (mapObj .i64 ruleL)]) rfl).new1 rfl⟩
def chartB (m : Msg) : Bool := plainB m && decide (m.id = 0) && decide ((places m.body).2 = 0)
theorem c93 (m : Msg) (a : Option Addr) (c : Nat) (w : World) (hr : Rd w a (bv m.body)) (hz : a = none → c = 0) (hm : m.body.length ≤ 140737488355328) (hb : Byt m.body) :
  CallsTo Tryz.prog 202 [m.val a c] w fun v w'=>v = .bool (chartB m) ∧ Grew w w' := by
 refine go_in (n := 22) (St.rd1 hr) Tryz.func202 rfl rfl ?_
 unfold chartB
 repeat'(first|refine gz ?_|refine gy fun _=>?_|(apply LR.call;(·exact rfl);(intro w1 h1;refine (c25 a c m.body w1 (h1.rd_of (List.Mem.tail _ (List.Mem.head _))) hz hm hb).mono ?_;rintro v w2 ⟨a2,c2,rfl,hn⟩;refine LR.back (h1.newSl hn) ?_;clear hn h1))|(apply LR.qcall;(·exact rfl);(·intro w1 h1;have hq := CallsTo.q (c103 m a c w1) h1;show CallsTo Tryz.prog 255 [m.val a c] w1 _;exact hq))|(refine gs ?_ ?_;all_goals(intro hc;try simp only[hcs]at hc;try exact abz)))
 all_goals (
  (apply ret1;(·exact rfl);intro w' hS)
  refine ⟨congrArg Value.bool ?_,hS.toKeep⟩
  simp_all)
def zeroMsg : Msg := ⟨0,0,0,0,0,0,0,false,0,0,0,0,[]⟩
def oldB (u : List Int → Msg × Int) (m : Msg) : Bool :=
 plainB m && decide (1 ≤ m.id ∧ m.id ≤ 8 ∧ ¬ (m.rseq = 0 ∧ m.rrep = 0) ∧ 0 < m.kseq ∧ (u m.body).2 = 0 ∧ (u m.body).1.kind ≠ 5)
def kindB (u : List Int → Msg × Int) (m : Msg) : Bool :=
 if m.kind = 1 then textB m else if m.kind = 2 then emptyB m else if m.kind = 3 then wantB m else if m.kind = 4 then chartB m else if m.kind = 5 then oldB u m else false
def mayB (u : List Int → Msg × Int) (m : Msg) : Bool :=
 decide (1 ≤ m.kind ∧ m.kind ≤ 5) && withinB m.origin 1 8 && withinB m.life 0 9007199254740991 && withinB m.id 0 9007199254740991 && withinB m.groups 0 255 && decide (keyE m.stamp m.rseq m.rrep m.kseq = 0) && kindB u m
def checkM (u : List Int → Msg × Int) (m : Msg) : Int := if 160 < m.body.length then 5 else if mayB u m then 0 else 2
def msgOf (v x : List Int) (b : List Int) : Msg := ⟨v.getD 0 0,v.getD 1 0,v.getD 2 0,v.getD 3 0,v.getD 4 0,v.getD 5 0,v.getD 6 0,decide (v.getD 7 0 = 1),x.getD 0 0,x.getD 1 0,x.getD 2 0,x.getD 3 0,b⟩
def unpackW (ck : Msg → Int) (l : List Int) : Msg × Int :=
 if (decs 8 l).2.1 ≠ 0 then (zeroMsg,(decs 8 l).2.1)
 else if 1 < (decs 8 l).1.getD 7 0 then (zeroMsg,4)
 else if (decs 4 (decs 8 l).2.2).2.1 ≠ 0 then (zeroMsg,(decs 4 (decs 8 l).2.2).2.1)
 else if (octs 160 (decs 4 (decs 8 l).2.2).2.2).2.1 ≠ 0 then (zeroMsg,(octs 160 (decs 4 (decs 8 l).2.2).2.2).2.1)
 else if 0 < (octs 160 (decs 4 (decs 8 l).2.2).2.2).2.2.length ∨ ck (msgOf (decs 8 l).1 (decs 4 (decs 8 l).2.2).1 (octs 160 (decs 4 (decs 8 l).2.2).2.2).1) ≠ 0 then (zeroMsg,4)
 else (msgOf (decs 8 l).1 (decs 4 (decs 8 l).2.2).1 (octs 160 (decs 4 (decs 8 l).2.2).2.2).1,0)
def unpackF : Nat → List Int → Msg × Int
 | 0=>unpackW fun _=>2
 | k + 1=>unpackW (checkM (unpackF k))
def UnpC (g : Nat) (K : Nat) : Prop := ∀ (a : Option Addr) (ca : Nat) (l : List Int) (w : World),Rd w a (bv l) → (a = none → ca = 0) → l.length ≤ 140737488355328 → Byt l → l.length ≤ K →
 CallsTo Tryz.prog g [.slice a l.length ca] w fun v w'=>∃ a2 c2,v = .tuple [(unpackF K l).1.val a2 c2,.int .i64 (unpackF K l).2].toArray ∧ NewSl w w' (.slice a2 (unpackF K l).1.body.length c2) 5 1 (unpackF K l).1.body.length (bv (unpackF K l).1.body)
theorem c94 {K : Nat} (hU : UnpC 233 K) (m : Msg) (a : Option Addr) (c : Nat) (w : World) (hr : Rd w a (bv m.body)) (hz : a = none → c = 0) (hm : m.body.length ≤ 140737488355328) (hb : Byt m.body) (hK : m.body.length ≤ K) :
  CallsTo Tryz.prog 203 [m.val a c] w fun v w'=>v = .bool (oldB (unpackF K) m) ∧ Grew w w' := by
 refine go_in (n := 40) (St.rd1 hr) Tryz.func203 rfl rfl ?_
 unfold oldB
 repeat'(first|refine gz ?_|refine gy fun _=>?_|(apply LR.call;(·exact rfl);(intro w1 h1;refine (hU a c m.body w1 (h1.rd_of (List.Mem.tail _ (List.Mem.head _))) hz hm hb hK).mono ?_;rintro v w2 ⟨a2,c2,rfl,hn⟩;refine LR.back (h1.newSl hn) ?_;clear hn h1))|(apply LR.qcall;(·exact rfl);(·intro w1 h1;have hq := CallsTo.q (c103 m a c w1) h1;show CallsTo Tryz.prog 255 [m.val a c] w1 _;exact hq))|(apply kq;(·exact rfl);(·intro w1 h1;exact CallsTo.q (c59 _ _ _ w1) h1))|(refine gs ?_ ?_;all_goals(intro hc;try simp only[hcs]at hc;try exact abz)))
 all_goals (
  (apply ret1;(·exact rfl);intro w' hS)
  refine ⟨congrArg Value.bool ?_,hS.toKeep⟩
  simp_all [withinB_iff] <;> (intros;omega))
theorem rule_known {K : Nat} (hU : UnpC 233 K) (m : Msg) (a : Option Addr) (c : Nat) (h1 : 1 ≤ m.kind) (h5 : m.kind ≤ 5) (hz : a = none → c = 0) (hm : m.body.length ≤ 140737488355328) (hb : Byt m.body) (hK : m.body.length ≤ K) :
  ∃ j g,findI m.kind ruleL 0 = some (j,.func (.func g) #[] #[]) ∧ Own Tryz.prog g ∧ ∀ w1,Rd w1 a (bv m.body) → CallsTo Tryz.prog g [m.val a c] w1 fun v w'=>v = .bool (kindB (unpackF K) m) ∧ Grew w1 w' := by
 have : m.kind = 1 ∨ m.kind = 2 ∨ m.kind = 3 ∨ m.kind = 4 ∨ m.kind = 5 := by omega
 unfold kindB
 rcases this with h | h | h | h | h <;> simp only [h,findI,ruleL]
 ·exact ⟨0,199,rfl,inferInstance,fun w1 _=>by simpa using c90 m a c w1⟩
 ·exact ⟨1,200,rfl,inferInstance,fun w1 _=>by simpa using c91 m a c w1⟩
 ·exact ⟨2,201,rfl,inferInstance,fun w1 _=>by simpa using c92 m a c w1⟩
 ·exact ⟨3,202,rfl,inferInstance,fun w1 hr=>by simpa using c93 m a c w1 hr hz hm hb⟩
 ·exact ⟨4,203,rfl,inferInstance,fun w1 hr=>by simpa using c94 hU m a c w1 hr hz hm hb hK⟩
theorem rule_none (m : Msg) (h : ¬ (1 ≤ m.kind ∧ m.kind ≤ 5)) : findI m.kind ruleL 0 = none := by
 have : ∀ x ∈ [1,2,3,4,5],m.kind ≠ x := by intro x hx;simp at hx;omega
 simp [findI,ruleL,this 1,this 2,this 3,this 4,this 5]
set_option maxHeartbeats 2000000 in
theorem c17 {K : Nat} (hU : UnpC 233 K) (m : Msg) (a : Option Addr) (c : Nat) (w : World) (hr : Rd w a (bv m.body)) (hz : a = none → c = 0) (hm : m.body.length ≤ 140737488355328) (hb : Byt m.body) (hK : m.body.length ≤ 160 → m.body.length ≤ K) :
  CallsTo Tryz.prog 88 [m.val a c] w fun v w'=>v = .int .i64 (checkM (unpackF K) m) ∧ Grew w w' := by
 refine go_in (n := 54) (St.rd1 hr) Tryz.func88 rfl rfl ?_
 repeat'(first|(apply CW.reg_held (St w NoF [.own _ (.cells (m.cells a c).toArray 50 (0,0)),rdA a (bv m.body)]);apply DW.quiet [1,2];(·kernel_rfl);(·exact fun _ h=>h))|refine gz ?_|refine gy fun _=>?_|(refine gs ?_ ?_;all_goals(intro hc;try simp only[hcs]at hc;try exact abz)))
 ·(apply ret1;(·exact rfl);intro w' hS)
  refine ⟨congrArg (Value.int .i64) ?_,hS.toKeep⟩
  unfold checkM;rw [if_pos (by omega)]
 rename _=>h160
 repeat'(first|refine gq ?_|apply QL.nil)
 apply DW.loud 0;(·exact rfl);(·kernel_rfl)
 apply LR.call
 ·exact rfl
 intro w1 h1
 refine (c58 w1).mono ?_
 rintro v w2 ⟨bm,rfl,hn⟩
 refine LR.back (h1.got hn (Asrt.dep_own _ _)) ?_
 clear hn h1
 apply LR.nil
 refine At.stage (fun _ h=>h.tail1) (fun _ h=>h) ?_
 apply DW.quiet [3,4,5,6,7,8];(·kernel_rfl);(·exact fun _ h=>h)
 have hKK := hK (by omega)
 by_cases hk : 1 ≤ m.kind ∧ m.kind ≤ 5
 ·obtain ⟨j,g,hf,hown,hrule⟩ := rule_known hU m a c hk.1 hk.2 hz hm hb hKK
  repeat'(first|refine yv' ?_|(apply QL.ev;(·exact rfl);(·apply Ev.lookup_ok;(·exact rfl);(·exact rfl);(·exact List.Mem.head _);(·exact hf));(·exact rfl))|apply QL.nil)
  apply DW.done_thn
  ·kernel_rfl
  repeat'(first|refine gz ?_|(apply kq;(·exact rfl);(·intro w1 h1;exact CallsTo.q (c59 _ _ _ w1) h1))|(apply kq;(·exact rfl);(·intro w1 h1;exact CallsTo.q (c60 _ _ _ _ w1) h1))|(apply LR.qcall_fn (g := g);(·exact rfl);(·exact rfl);(·intro w1 h1;have hq := CallsTo.q (hrule w1 (h1.rd_of (List.Mem.tail _ (List.Mem.tail _ (List.Mem.head _))))) h1;show CallsTo Tryz.prog g [m.val a c] w1 _;exact hq))|(refine gs ?_ ?_;all_goals(intro hc;try simp only[hcs]at hc;try exact abz)))
  all_goals (
   (apply ret1;(·exact rfl);intro w' hS)
   refine ⟨congrArg (Value.int .i64) ?_,hS.toKeep⟩
   unfold checkM mayB
   rw [if_neg (by omega)]
   simp [*])
 ·have hf := rule_none m hk
  repeat'(first|refine yv' ?_|(apply QL.ev;(·exact rfl);(·apply Ev.lookup_ok;(·exact rfl);(·exact rfl);(·exact List.Mem.head _);(·exact hf));(·exact rfl))|apply QL.nil)
  apply DW.done_thn
  ·kernel_rfl
  repeat'(first|refine gz ?_)
  all_goals (
   (apply ret1;(·exact rfl);intro w' hS)
   refine ⟨congrArg (Value.int .i64) ?_,hS.toKeep⟩
   unfold checkM mayB
   rw [if_neg (by omega)]
   simp [*])
end Go.Proofs.YtohbcfokihplbaaGreatDoor
