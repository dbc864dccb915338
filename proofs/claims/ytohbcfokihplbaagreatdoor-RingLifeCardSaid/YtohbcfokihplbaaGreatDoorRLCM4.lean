/-
  Maps with keys of any kind that the kit's key law covers: made, filled, asked, emptied. Conditions: none; nothing here speaks of one program.
-/
import Derived.Test.YtohbcfokihplbaaGreatDoorRLCM3
import Derived.OpenShut
import Derived.DeepKeys5
import Derived.WideKeyRuns
set_option linter.unusedSimpArgs false
set_option linter.unusedVariables false
namespace Go.Proofs.YtohbcfokihplbaaGreatDoor
open Go.Hb
attribute [local irreducible] LR CW At Ev thn blk finK noG again CallsTo DW QL dnext
set_option maxRecDepth 100000
theorem front_perm {α : Type} : ∀ (L : List α) (i : Nat) (hi : i < L.length),L.Perm (L[i] :: L.eraseIdx i)
 | x :: r,0,_=>List.Perm.refl _
 | x :: r,i + 1,hi=>((front_perm r i (by simpa using hi)).cons x).trans (List.Perm.swap _ _ _)
theorem front {w0 w : World} {F : Nat → Prop} {L L' : List Asrt} (h : St w0 F L w) (i : Nat) (hi : Nat.blt i L.length = true) (e : L[i]'(blt_lt hi) :: L.eraseIdx i = L') : St w0 F L' w := (h.perm (front_perm L i (blt_lt hi))).cast e
theorem decF_pos : ∀ k i acc l,(decF k i acc l).2.2 = 0 → i + 1 ≤ (decF k i acc l).2.1
 | 0,i,acc,l=>by simp [decF]
 | k + 1,i,acc,[]=>by simp [decF]
 | k + 1,i,acc,x :: r=>by
  unfold decF
  split
  ·split
   ·simp
   ·simp
  ·intro h
   have := decF_pos k (i + 1) (acc + x.toNat % 128 * 128 ^ i) r h
   omega
theorem octs_facts {most : Int} {l : List Int} (h : (octs most l).2.1 = 0) : (octs most l).1.length < l.length ∧ ∀ b ∈ (octs most l).1,b ∈ l := by
 unfold octs at *
 split at h
 ·rename_i h0;exact (h0 h).elim
 ·rename_i h0
  have hp := decF_pos 8 0 0 l (by simpa [dec] using h0)
  have hl := dec_le l
  split at h
  ·cases h
  ·split at h
   ·cases h
   ·rename_i h1 h2
    have hp' : 1 ≤ (dec l).2.1 := by have : (dec l).2.1 = (decF 8 0 0 l).2.1 := rfl;omega
    rw [if_neg h0,if_neg h1,if_neg h2]
    refine ⟨by simp;omega,fun b hb=>List.mem_of_mem_drop (List.mem_of_mem_take hb)⟩
def T2 (bm : Nat) (hd : List Value) (vs : List Int) : Asrt := .own bm (.cells (hd ++ iv vs ++ zz (4 - vs.length) ++ [Value.slice none 0 0]).toArray 50 (0,0))
theorem T2_stores (bm : Nat) (hd : List Value) (h8 : hd.length = 8) (vs : List Int) (x : Int) (hi : vs.length < 4) : Stores Tryz.prog 3 ⟨bm,8 + vs.length,none⟩ (.int .i64 x) (T2 bm hd vs) (T2 bm hd (vs ++ [x])) := by
 have e2 : zz (4 - vs.length) = .int .i64 0 :: zz (4 - (vs ++ [x]).length) := by
  rw [show 4 - vs.length = (4 - (vs ++ [x]).length) + 1 by simp;omega];rfl
 have st := Stores.own (P := Tryz.prog) (T := 3) (m := 1) (b := bm) (o := 8 + vs.length) (v := .int .i64 x) (cs := (hd ++ iv vs) ++ .int .i64 0 :: (zz (4 - (vs ++ [x]).length) ++ [Value.slice none 0 0])) (vs := [.int .i64 x]) (E := 50) inferInstance rfl rfl rfl (by simp [h8];omega)
 rw [splice_mid _ _ _ _ (by simp [h8])] at st
 unfold T2
 rw [e2]
 simpa [iv] using st
def tail6 : List Value := [.bool false,.int .i64 0,.int .i64 0,.int .i64 0,.int .i64 0,.slice none 0 0]
def T1 (bm bs : Nat) (vs : List Int) : Asrt := both (.own bm (.cells (iv (vs.take 7) ++ zz (7 - vs.length) ++ tail6).toArray 50 (0,0))) (.own bs (.cells [.int .i64 (vs.getD 7 0)].toArray 3 (0,0)))
theorem T1_stores (bm bs : Nat) (vs : List Int) (x : Int) (hi : vs.length < 8) : Stores Tryz.prog 3 (if vs.length < 7 then ⟨bm,vs.length,none⟩ else ⟨bs,0,none⟩) (.int .i64 x) (T1 bm bs vs) (T1 bm bs (vs ++ [x])) := by
 by_cases h7 : vs.length < 7
 ·rw [if_pos h7]
  have e2 : zz (7 - vs.length) = .int .i64 0 :: zz (7 - (vs ++ [x]).length) := by
   rw [show 7 - vs.length = (7 - (vs ++ [x]).length) + 1 by simp;omega];rfl
  have st := Stores.own (P := Tryz.prog) (T := 3) (m := 1) (b := bm) (o := vs.length) (v := .int .i64 x) (cs := iv vs ++ .int .i64 0 :: (zz (7 - (vs ++ [x]).length) ++ tail6)) (vs := [.int .i64 x]) (E := 50) inferInstance rfl rfl rfl (by simp)
  rw [splice_mid _ _ _ _ (by simp)] at st
  have st2 := Stores.left (y := .own bs (.cells [.int .i64 0].toArray 3 (0,0))) st (Asrt.dep_own _ _)
  unfold T1
  have g1 : vs.getD 7 0 = 0 := by simp [List.getD_eq_getElem?_getD,List.getElem?_eq_none (show vs.length ≤ 7 by omega)]
  have g2 : (vs ++ [x]).getD 7 0 = 0 := by simp [List.getD_eq_getElem?_getD,List.getElem?_eq_none (show (vs ++ [x]).length ≤ 7 by simp;omega)]
  rw [g1,g2,List.take_of_length_le (by omega),List.take_of_length_le (by simp;omega),e2]
  simpa [iv] using st2
 ·rw [if_neg h7]
  have h8 : vs.length = 7 := by omega
  have st := Stores.own (P := Tryz.prog) (T := 3) (m := 1) (b := bs) (o := 0) (v := .int .i64 x) (cs := [.int .i64 (vs.getD 7 0)]) (vs := [.int .i64 x]) (E := 3) inferInstance rfl rfl rfl (by simp)
  have st2 := Stores.right (x := .own bm (.cells (iv (vs.take 7) ++ zz (7 - vs.length) ++ tail6).toArray 50 (0,0))) st (Asrt.dep_own _ _)
  unfold T1
  have g2 : (vs ++ [x]).getD 7 0 = x := by simp [List.getD_eq_getElem?_getD,← h8]
  have g3 : (vs ++ [x]).take 7 = vs.take 7 := by rw [List.take_append_of_le_length (by omega)]
  have g4 : zz (7 - (vs ++ [x]).length) = zz (7 - vs.length) := by simp [h8]
  rw [g2,g3,g4]
  simpa [splice] using st2
set_option maxHeartbeats 2000000 in
theorem c23 {ck : Msg → Int} (l : List Int) (hck : ∀ (m : Msg) (a : Option Addr) (c : Nat) (w : World),Rd w a (bv m.body) → (a = none → c = 0) → Byt m.body → m.body.length < l.length → CallsTo Tryz.prog 88 [m.val a c] w fun v w'=>v = .int .i64 (ck m) ∧ Grew w w')
  (a : Option Addr) (ca : Nat) (w : World) (hr : Rd w a (bv l)) (hz : a = none → ca = 0) (hm : l.length ≤ 140737488355328) (hb : Byt l) :
  CallsTo Tryz.prog 233 [.slice a l.length ca] w fun v w'=>∃ a2 c2,v = .tuple [(unpackW ck l).1.val a2 c2,.int .i64 (unpackW ck l).2].toArray ∧ NewSl w w' (.slice a2 (unpackW ck l).1.body.length c2) 5 1 (unpackW ck l).1.body.length (bv (unpackW ck l).1.body) := by
 refine go_in (n := 68) (St.rd1 hr) Tryz.func233 rfl rfl ?_
 have nils : ∀ w',Grew w w' → NewSl w w' (.slice none 0 0) 5 1 0 (bv []) := fun w' hg=>⟨hg,World.ownsRow_nil _ _ _ _⟩
 repeat'(first|refine gz ?_|refine gy fun _=>?_|(apply LR.call;(·exact rfl);(intro w1 h1;refine (c65 a ca l w1 (h1.rd_of (List.Mem.tail _ (List.Mem.tail _ (List.Mem.tail _ (List.Mem.head _))))) hz hm).mono ?_;rintro v w2 ⟨br,a1,c1,rfl,hn⟩;refine LR.back (h1.got hn (rrA_dep _ _ _ _ _ _)) ?_;clear hn h1))|fail)
 apply LR.call
 ·exact rfl
 intro w1 h1
 rename_i b2 bm bs _ bp
 have h2 := (front (front h1 2 rfl rfl) 3 rfl rfl).join rfl rfl
 have h3 := ((front h2 2 rfl rfl).join rfl rfl).cast (L' := [both (rrA 328 [.bool true] br a1 c1 l) (T1 bm bs []),_,_,_]) rfl
 clear h1 h2
 refine (c66m (m := 8) (ads := [⟨bm,0 + 0,none⟩,⟨bm,0 + 1,none⟩,⟨bm,0 + 2,none⟩,⟨bm,0 + 3,none⟩,⟨bm,0 + 4,none⟩,⟨bm,0 + 5,none⟩,⟨bm,0 + 6,none⟩,⟨bs,0,none⟩]) (T := T1 bm bs) h3 rfl ?_ (fun _=>rfl) (fun _=>both_dep (Asrt.dep_own _ _) (Asrt.dep_own _ _)) hb (by omega) (by omega)).mono ?_
 ·intro vs x hi
  have e : ∀ k (hk : k < 8),([⟨bm,0 + 0,none⟩,⟨bm,0 + 1,none⟩,⟨bm,0 + 2,none⟩,⟨bm,0 + 3,none⟩,⟨bm,0 + 4,none⟩,⟨bm,0 + 5,none⟩,⟨bm,0 + 6,none⟩,⟨bs,0,none⟩] : List Addr)[k] = if k < 7 then ⟨bm,k,none⟩ else ⟨bs,0,none⟩ := by
   intro k hk
   match k,hk with
   | 0,_=>rfl
   | 1,_=>rfl
   | 2,_=>rfl
   | 3,_=>rfl
   | 4,_=>rfl
   | 5,_=>rfl
   | 6,_=>rfl
   | 7,_=>rfl
  rw [e _ hi]
  exact T1_stores bm bs vs x hi
 rintro v w2 ⟨a2,c2,rfl,st⟩
 refine LR.back st ?_
 clear st h3
 have hl8 := decs_len 8 l
 have hbd8 := decs_bound 8 l
 repeat'(first|refine gz ?_|(refine gs ?_ ?_;all_goals(intro hc;try simp only[hcs]at hc;try exact abz)))
 ·(apply ret2c;(·exact rfl);(·exact inferInstance);(·exact rfl);(·exact memY);(·exact rfl);intro w' hS)
  have e : unpackW ck l = (zeroMsg,(decs 8 l).2.1) := by unfold unpackW;rw [if_pos hc]
  rw [e]
  exact ⟨none,0,rfl,nils w' hS.toKeep⟩
 rename (decs 8 l).2.1 = 0=>he8
 obtain ⟨v0,v1,v2,v3,v4,v5,v6,v7,hv⟩ : ∃ v0 v1 v2 v3 v4 v5 v6 v7,(decs 8 l).1 = [v0,v1,v2,v3,v4,v5,v6,v7] := by
  have := hl8.2 he8
  match hx : (decs 8 l).1,this with
  | [a,b,c,d,e,f,g,h],_=>exact ⟨a,b,c,d,e,f,g,h,rfl⟩
 rw [hv] at hbd8 ⊢
 refine LR.sub (D := St w NoF [.own bm (.cells [.int .i64 v0,.int .i64 v1,.int .i64 v2,.int .i64 v3,.int .i64 v4,.int .i64 v5,.int .i64 v6,.bool false,.int .i64 0,.int .i64 0,.int .i64 0,.int .i64 0,.slice none 0 0].toArray 50 (0,0)),.own bs (.cells [.int .i64 v7].toArray 3 (0,0)),_,_,_,_]) (fun w hw=>((front hw 1 rfl rfl).part (Asrt.dep_own _ _) (Asrt.dep_own _ _)).cast rfl) ?_
 have ck1 : ∀ {α : Type} {x y z : α},(if (decs 8 l).2.1 ≠ 0 then x else y) = y := fun {α x y z}=>if_neg (by simpa using he8)
 repeat'(first|refine gz ?_|refine gy fun _=>?_|(refine gs ?_ ?_;all_goals(intro hc;try simp only[hcs]at hc;try exact abz)))
 ·(apply ret2c;(·exact rfl);(·exact inferInstance);(·exact rfl);(·exact memY);(·exact rfl);intro w' hS)
  have e : unpackW ck l = (zeroMsg,4) := by unfold unpackW;rw [if_neg (by simpa using he8),hv,if_pos (show 1 < [v0,v1,v2,v3,v4,v5,v6,v7].getD 7 0 from hc)]
  rw [e]
  exact ⟨none,0,rfl,nils w' hS.toKeep⟩
 apply LR.call
 ·exact rfl
 intro w1 h1
 rename_i bq
 have h3 : St w NoF [rrA 328 [.bool true] br a2 c2 (decs 8 l).2.2,T2 bm [.int .i64 v0,.int .i64 v1,.int .i64 v2,.int .i64 v3,.int .i64 v4,.int .i64 v5,.int .i64 v6,.bool (decide (v7 = 1))] [],_,_,_,_,_] w1 := front (front h1 1 rfl rfl) 3 rfl rfl
 have h4 := h3.join rfl rfl
 clear h1 h3
 refine (c66m (m := 4) (ads := [⟨bm,0 + 8 + 0,none⟩,⟨bm,0 + 8 + 1 + 0,none⟩,⟨bm,0 + 8 + 1 + 1,none⟩,⟨bm,0 + 8 + 3,none⟩]) (T := T2 bm [.int .i64 v0,.int .i64 v1,.int .i64 v2,.int .i64 v3,.int .i64 v4,.int .i64 v5,.int .i64 v6,.bool (decide (v7 = 1))]) h4 rfl ?_ (fun _=>rfl) (fun _=>Asrt.dep_own _ _) (decs_rest_byt 8 hb) (by have := decs_rest_len 8 l;omega) (by omega)).mono ?_
 ·intro vs x hi
  have e : ∀ k (hk : k < 4),([⟨bm,0 + 8 + 0,none⟩,⟨bm,0 + 8 + 1 + 0,none⟩,⟨bm,0 + 8 + 1 + 1,none⟩,⟨bm,0 + 8 + 3,none⟩] : List Addr)[k] = ⟨bm,8 + k,none⟩ := by
   intro k hk
   match k,hk with
   | 0,_=>rfl
   | 1,_=>rfl
   | 2,_=>rfl
   | 3,_=>rfl
  rw [e _ hi]
  exact T2_stores bm _ rfl vs x hi
 rintro v w2 ⟨a3,c3,rfl,st⟩
 refine LR.back st ?_
 clear st h4
 repeat'(first|refine gz ?_|(refine gs ?_ ?_;all_goals(intro hc;try simp only[hcs]at hc;try exact abz)))
 ·rename (decs 4 (decs 8 l).2.2).2.1 = 0=>he4
  obtain ⟨x0,x1,x2,x3,hx⟩ := four ((decs_len 4 (decs 8 l).2.2).2 he4)
  have hrb : Byt (decs 4 (decs 8 l).2.2).2.2 := decs_rest_byt 4 (decs_rest_byt 8 hb)
  have hrl : (decs 4 (decs 8 l).2.2).2.2.length ≤ l.length := Nat.le_trans (decs_rest_len 4 _) (decs_rest_len 8 l)
  have eu : unpackW ck l = if (octs 160 (decs 4 (decs 8 l).2.2).2.2).2.1 ≠ 0 then (zeroMsg,(octs 160 (decs 4 (decs 8 l).2.2).2.2).2.1)
    else if 0 < (octs 160 (decs 4 (decs 8 l).2.2).2.2).2.2.length ∨ ck (msgOf [v0,v1,v2,v3,v4,v5,v6,v7] [x0,x1,x2,x3] (octs 160 (decs 4 (decs 8 l).2.2).2.2).1) ≠ 0 then (zeroMsg,4)
    else (msgOf [v0,v1,v2,v3,v4,v5,v6,v7] [x0,x1,x2,x3] (octs 160 (decs 4 (decs 8 l).2.2).2.2).1,0) := by
   rename v7 ≤ 1=>h7
   unfold unpackW
   rw [if_neg (by simpa using he8),hv,if_neg (show ¬ 1 < [v0,v1,v2,v3,v4,v5,v6,v7].getD 7 0 from Int.not_lt.2 h7),if_neg (by simpa using he4),hx]
  rw [eu,hx]
  clear eu hx hl8
  generalize (decs 4 (decs 8 l).2.2).2.2 = lr at *
  refine LR.sub (D := St w NoF [.own bm (.cells [.int .i64 v0,.int .i64 v1,.int .i64 v2,.int .i64 v3,.int .i64 v4,.int .i64 v5,.int .i64 v6,.bool (decide (v7 = 1)),.int .i64 x0,.int .i64 x1,.int .i64 x2,.int .i64 x3,.slice none 0 0].toArray 50 (0,0)),rrA 328 [.bool true] br a3 c3 lr,_,_,_,_,_]) (fun w hw=>(front hw 1 rfl rfl).cast rfl) ?_
  repeat'(first|refine gz ?_|(apply LR.call;(·exact rfl);(intro w1 h1;refine (c67 br a3 c3 lr 160 w1 (h1.holds _ (List.Mem.tail _ (List.Mem.head _))) hrb (by omega)).mono ?_;rintro v w2 ⟨a4,c4,a5,c5,rfl,st⟩;refine LR.back (h1.did1 (Sel.tail _ (Sel.head _ _ _)) rfl rfl rfl st) ?_;clear st h1))|(apply LR.qcall;(·exact rfl);(·intro w1 h1;exact CallsTo.q (c68 br _ _ _ w1 (h1.holds _ (List.Mem.tail _ (List.Mem.tail _ (List.Mem.head _))))) h1))|(refine gs ?_ ?_;all_goals(intro hc;try simp only[hcs]at hc;try exact abz)))
  ·(apply ret2c;(·exact rfl);(·exact inferInstance);(·exact rfl);(·exact memY);(·exact rfl);intro w' hS)
   rw [if_pos (by assumption)]
   exact ⟨none,0,rfl,nils w' hS.toKeep⟩
  ·(apply ret2c;(·exact rfl);(·exact inferInstance);(·exact rfl);(·exact memY);(·exact rfl);intro w' hS)
   rw [if_neg (by simpa using (by assumption : (octs 160 lr).2.1 = 0)),if_pos (.inl (by omega))]
   exact ⟨none,0,rfl,nils w' hS.toKeep⟩
  have ho : (octs 160 lr).2.1 = 0 := by assumption
  have hof := octs_facts ho
  apply LR.qcall
  ·exact rfl
  ·intro w1 h1
   have hq := CallsTo.q (hck (msgOf [v0,v1,v2,v3,v4,v5,v6,v7] [x0,x1,x2,x3] (octs 160 lr).1) a5 c5 w1 (h1.rd_of_own (List.Mem.head _)) (fun e=>(ownsRow_some (h1.holds _ (List.Mem.head _)) e).2) (fun b hb'=>hrb b (hof.2 b hb')) (Nat.lt_of_lt_of_le hof.1 hrl)) h1
   show CallsTo Tryz.prog 88 [(msgOf [v0,v1,v2,v3,v4,v5,v6,v7] [x0,x1,x2,x3] (octs 160 lr).1).val a5 c5] w1 _
   exact hq
  repeat'(first|refine gz ?_|(refine gs ?_ ?_;all_goals(intro hc;try simp only[hcs]at hc;try exact abz)))
  ·(apply ret2c;(·exact rfl);(·exact inferInstance);(·exact rfl);(·exact memY);(·exact rfl);intro w' hS)
   rw [if_neg (by simpa using ho),if_pos (.inr (by assumption))]
   exact ⟨none,0,rfl,nils w' hS.toKeep⟩
  ·rename ck _ = 0=>hck0
   (apply ret2c;(·exact rfl);(·exact inferInstance);(·exact rfl);(·exact memY);(·exact rfl);intro w' hS)
   rw [if_neg (by simpa using ho),if_neg (by simp only [not_or,Nat.not_lt];exact ⟨by omega,by simpa using hck0⟩)]
   exact ⟨a5,c5,rfl,hS.toNew (List.Mem.head _)⟩
 ·(apply ret2c;(·exact rfl);(·exact inferInstance);(·exact rfl);(·exact memY);(·exact rfl);intro w' hS)
  rename v7 ≤ 1=>h7
  have e : unpackW ck l = (zeroMsg,(decs 4 (decs 8 l).2.2).2.1) := by unfold unpackW;rw [if_neg (by simpa using he8),hv,if_neg (show ¬ 1 < [v0,v1,v2,v3,v4,v5,v6,v7].getD 7 0 from Int.not_lt.2 h7),if_pos (by assumption)]
  rw [e]
  exact ⟨none,0,rfl,nils w' hS.toKeep⟩
theorem unp_all : ∀ K,UnpC 233 K
 | 0=>fun a ca l w hr hz hm hb hK=>c23 (ck := fun _=>2) l (fun m a c w _ _ _ h=>by omega) a ca w hr hz hm hb
 | K + 1=>fun a ca l w hr hz hm hb hK=>c23 (ck := checkM (unpackF K)) l (fun m a c w h1 h2 h3 h4=>c17 (unp_all K) m a c w h1 h2 (by omega) h3 (fun _=>by omega)) a ca w hr hz hm hb
theorem unpackW_congr {ck ck' : Msg → Int} {l : List Int} (h : ∀ m : Msg,m.body.length < l.length → ck m = ck' m) : unpackW ck l = unpackW ck' l := by
 unfold unpackW
 by_cases h1 : (decs 8 l).2.1 = 0
 ·by_cases h2 : (decs 4 (decs 8 l).2.2).2.1 = 0
  ·by_cases h3 : (octs 160 (decs 4 (decs 8 l).2.2).2.2).2.1 = 0
   ·have hl := (octs_facts h3).1
    have hrl : (decs 4 (decs 8 l).2.2).2.2.length ≤ l.length := Nat.le_trans (decs_rest_len 4 _) (decs_rest_len 8 l)
    rw [h (msgOf (decs 8 l).1 (decs 4 (decs 8 l).2.2).1 (octs 160 (decs 4 (decs 8 l).2.2).2.2).1) (Nat.lt_of_lt_of_le hl hrl)]
   ·simp only [h3,ne_eq,not_false_eq_true,if_true]
  ·simp only [h2,ne_eq,not_false_eq_true,if_true]
 ·simp only [h1,ne_eq,not_false_eq_true,if_true]
theorem checkM_congr {u u' : List Int → Msg × Int} {m : Msg} (h : u m.body = u' m.body) : checkM u m = checkM u' m := by
 unfold checkM mayB kindB oldB
 rw [h]
theorem unpackF_same : ∀ (K K' : Nat) (l : List Int),l.length ≤ K → l.length ≤ K' → unpackF K l = unpackF K' l
 | 0,K',l,h,_=>by
  cases K' with
  | zero=>rfl
  | succ k=>exact unpackW_congr fun m hm=>by omega
 | K + 1,0,l,_,h=>unpackW_congr fun m hm=>by omega
 | K + 1,K' + 1,l,h,h'=>unpackW_congr fun m hm=>checkM_congr (unpackF_same K K' m.body (by omega) (by omega))
def unpack (l : List Int) : Msg × Int := unpackF l.length l
def check (m : Msg) : Int := checkM unpack m
theorem check_of {K : Nat} {m : Msg} (h : m.body.length ≤ K) : checkM (unpackF K) m = check m := checkM_congr (unpackF_same K _ m.body h (Nat.le_refl _))
theorem unpack_eq (l : List Int) : unpack l = unpackW check l := by
 unfold unpack
 rw [unpackF_same l.length (l.length + 1) l (Nat.le_refl _) (Nat.le_succ _)]
 exact unpackW_congr fun m hm=>check_of (by omega)
theorem d23 (a : Option Addr) (ca : Nat) (l : List Int) (w : World) (hr : Rd w a (bv l)) (hz : a = none → ca = 0) (hm : l.length ≤ 140737488355328) (hb : Byt l) :
  CallsTo Tryz.prog 233 [.slice a l.length ca] w fun v w'=>∃ a2 c2,v = .tuple [(unpack l).1.val a2 c2,.int .i64 (unpack l).2].toArray ∧ NewSl w w' (.slice a2 (unpack l).1.body.length c2) 5 1 (unpack l).1.body.length (bv (unpack l).1.body) :=
 unp_all l.length a ca l w hr hz hm hb (Nat.le_refl _)
theorem d17 (m : Msg) (a : Option Addr) (c : Nat) (w : World) (hr : Rd w a (bv m.body)) (hz : a = none → c = 0) (hm : m.body.length ≤ 140737488355328) (hb : Byt m.body) :
  CallsTo Tryz.prog 88 [m.val a c] w fun v w'=>v = .int .i64 (check m) ∧ Grew w w' := by
 have := c17 (unp_all m.body.length) m a c w hr hz hm hb (fun _=>Nat.le_refl _)
 rwa [check_of (Nat.le_refl _)] at this
def b2i (b : Bool) : Int := if b then 1 else 0
def msgNums (m : Msg) : List Int := [m.kind,m.origin,m.life,m.id,m.part,m.parts,m.groups,b2i m.safe,m.stamp,m.rseq,m.rrep,m.kseq]
def bytesM (m : Msg) : List Int := encs (msgNums m) ++ enc m.body.length ++ m.body
def pack (m : Msg) : List Int × Int := if check m ≠ 0 then ([],check m) else (bytesM m,0)
theorem ring_ok {s r : Int} (h : ringB s r = true) : okN s ∧ okN r := by
 unfold ringB at h;rw [numB_iff] at h;unfold okN;simp at h;omega
theorem check_ok {m : Msg} (h : check m = 0) : m.body.length ≤ 160 ∧ mayB unpack m = true := by
 unfold check checkM at h
 split at h
 ·cases h
 ·split at h
  ·exact ⟨by omega,by assumption⟩
  ·cases h
theorem key_ok {t s r q : Int} (h : keyE t s r q = 0) : okN t ∧ okN s ∧ okN r ∧ okN q := by
 unfold keyE at h
 split at h
 ·rename_i hk
  unfold keyB at hk;rw [numB_iff,numB_iff] at hk
  simp only [Bool.and_eq_true,decide_eq_true_eq] at hk
  have := ring_ok hk.2
  exact ⟨hk.1.1,this.1,this.2,hk.1.2⟩
 ·cases h
theorem kind_parts {u : List Int → Msg × Int} {m : Msg} (h : kindB u m = true) : okN m.part ∧ okN m.parts := by
 have pl : plainB m = true → okN m.part ∧ okN m.parts := fun h=>by unfold plainB at h;unfold okN;simp at h;omega
 unfold kindB at h
 repeat' split at h
 ·unfold textB at h;unfold okN;simp at h;omega
 ·unfold emptyB at h;simp only [Bool.and_eq_true] at h;exact pl h.1
 ·unfold wantB emptyB at h;simp only [Bool.and_eq_true] at h;exact pl h.1.1
 ·unfold chartB at h;simp only [Bool.and_eq_true] at h;exact pl h.1.1
 ·unfold oldB at h;simp only [Bool.and_eq_true] at h;exact pl h.1
 ·cases h
theorem msgNums_ok {m : Msg} (h : check m = 0) : ∀ x ∈ msgNums m,okN x := by
 obtain ⟨h1,h2⟩ := check_ok h
 unfold mayB at h2
 simp only [withinB_iff,Bool.and_eq_true,decide_eq_true_eq] at h2
 obtain ⟨⟨⟨⟨⟨⟨h3,h4⟩,h5⟩,h6⟩,h7⟩,h8⟩,h9⟩ := h2
 have hk := key_ok h8
 have hp := kind_parts h9
 have hs : okN (b2i m.safe) := by unfold okN b2i;split <;> omega
 intro x hx
 simp only [msgNums,List.mem_cons,List.not_mem_nil,or_false] at hx
 rcases hx with rfl | rfl | rfl | rfl | rfl | rfl | rfl | rfl | rfl | rfl | rfl | rfl
 ·unfold okN;omega
 ·unfold okN;omega
 ·exact h5
 ·exact h6
 ·exact hp.1
 ·exact hp.2
 ·unfold okN;omega
 ·exact hs
 ·exact hk.1
 ·exact hk.2.1
 ·exact hk.2.2.1
 ·exact hk.2.2.2
theorem bytesM_len (m : Msg) : (bytesM m).length ≤ 117 + m.body.length := by
 have h1 := encs_len (msgNums m)
 have h2 : (enc m.body.length).length ≤ 9 := encF_len 8 _
 have h3 : (msgNums m).length = 12 := rfl
 simp only [bytesM,List.length_append];omega
set_option maxHeartbeats 2000000 in
theorem c15 (m : Msg) (a : Option Addr) (c : Nat) (w : World) (hr : Rd w a (bv m.body)) (hz : a = none → c = 0) (hm : m.body.length ≤ 140737488355328) (hb : Byt m.body) :
  CallsTo Tryz.prog 314 [m.val a c] w fun v w'=>∃ a2 c2,v = .tuple [.slice a2 (pack m).1.length c2,.int .i64 (pack m).2].toArray ∧ NewSl w w' (.slice a2 (pack m).1.length c2) 5 1 (pack m).1.length (bv (pack m).1) := by
 refine go_in (n := 61) (St.rd1 hr) Tryz.func314 rfl rfl ?_
 have nils : ∀ w',Grew w w' → NewSl w w' (.slice none 0 0) 5 1 0 (bv []) := fun w' hg=>⟨hg,World.ownsRow_nil _ _ _ _⟩
 repeat'(first|refine gz ?_|refine gy fun _=>?_|(apply LR.qcall;(·exact rfl);(·intro w1 h1;have hq := CallsTo.q (d17 m a c w1 (h1.rd_of (List.Mem.tail _ (List.Mem.head _))) hz hm hb) h1;show CallsTo Tryz.prog 88 [m.val a c] w1 _;exact hq))|(refine gs ?_ ?_;all_goals(intro hc;try simp only[hcs]at hc;try exact abz)))
 ·(apply ret2;(·exact rfl);intro w' hS)
  have e : pack m = ([],check m) := by unfold pack;rw [if_pos hc]
  rw [e]
  exact ⟨none,0,rfl,nils w' hS.toKeep⟩
 all_goals (
  rename check m = 0=>hck
  rename m.safe = _=>hsafe
  have hok := msgNums_ok hck
  have h160 := (check_ok hck).1
  have e : pack m = (bytesM m,0) := by unfold pack;rw [if_neg (by simpa using hck)]
  have hl12 : ((encs (msgNums m)).length ≤ 108) := by have := encs_len (msgNums m);have h3 : (msgNums m).length = 12 := rfl;omega
  have hlb := bytesM_len m
  have en : msgNums m = [m.kind,m.origin,m.life,m.id,m.part,m.parts,m.groups,b2i m.safe,m.stamp,m.rseq,m.rrep,m.kseq] := rfl
  rw [hsafe] at en
  apply LR.call
  ·exact rfl
  intro w1 h1
  refine (c53 w1).mono ?_
  rintro v w2 ⟨bw,rfl,hn⟩
  refine LR.back (h1.got hn (wrA_dep _ _ _ _)) ?_
  clear hn h1
  rw [e]
  repeat'(first|refine gz ?_|refine gy fun _=>?_|(apply LR.call;(·exact rfl);(intro w1 h1;refine (c54 bw none _ 0 _ [] (msgNums m) w1 (h1.holds _ (List.Mem.tail _ (List.Mem.head _))) (by rw [en];exact h1.rd_of_blk (List.Mem.head _)) (fun k hk hk2=>h1.apart (List.Mem.head _) rfl k (by obtain ⟨_,ad,e,rfl⟩ := hk;cases e;rfl) hk2) (by simp) (by simp [msgNums]) hok).mono ?_;rintro v w2 ⟨a2,c2,rfl,st⟩;refine LR.back (h1.did (Sel.tail _ (Sel.head _ _ _)) rfl st (wrA_dep _ _ _ _)) ?_;clear st h1))|(apply LR.call;(·exact rfl);(intro w1 h1;refine (c55 bw a2 _ c2 _ _ m.body w1 (h1.holds _ (List.Mem.tail _ (List.Mem.head _))) (h1.rd_of (List.Mem.tail _ (List.Mem.tail _ (List.Mem.tail _ (List.Mem.head _))))) hz (fun k hk hk2=>(front h1 3 rfl rfl).apart (x := rdA a (bv m.body)) (List.Mem.tail _ (List.Mem.head _)) rfl k hk hk2) (by simp;omega) (by omega)).mono ?_;rintro v w2 ⟨a3,c3,rfl,st⟩;refine LR.back (h1.did (Sel.tail _ (Sel.head _ _ _)) rfl st (wrA_dep _ _ _ _)) ?_;clear st h1))|fail)
  apply LR.call
  ·exact rfl
  intro w1 h1
  refine (c56 bw a3 c3 _ w1 (h1.holds _ (List.Mem.tail _ (List.Mem.head _))) (by simp;simp [bytesM] at hlb;omega)).mono ?_
  rintro v w2 ⟨a4,c4,rfl,hn⟩
  refine LR.back (h1.newSl hn) ?_
  repeat'(first|refine gz ?_)
  (apply ret2;(·exact rfl);intro w' hS)
  exact ⟨a4,c4,rfl,hS.toNew (List.Mem.head _)⟩)
end Go.Proofs.YtohbcfokihplbaaGreatDoor
namespace Go.Proofs.YtohbcfokihplbaaGreatDoor
open Go.Hb Go.ChangeShapes Go.WideShapes
attribute [local irreducible] LR CW At Ev thn blk finK noG again CallsTo DW QL dnext
set_option maxRecDepth 100000
theorem own_knob : ownKnob Tryz.prog.godebug = none := by kernel_rfl
theorem kids : Kids Tryz.prog (·< Tryz.prog.types.size) := kids_rows (by kernel_rfl) (by kernel_rfl)
theorem full_slices : ∀ t e,t < Tryz.prog.types.size → Tryz.prog.underlying t = some (.slice e) → 0 < Tryz.prog.cellsOf e := slices_full_of _ (by kernel_rfl)
def i64G : World → List Value → Prop := fun _ cs=>∃ n,cs = [.int .i64 n] ∧ i64 n
theorem opn_i64 : Opn Tryz.prog 3 i64G := (opn_int Tryz.underlying3).mono fun w cs ⟨n,h1,h2⟩=>⟨n,h1,bounds_i64 h2⟩
theorem opn_u8 : Opn Tryz.prog 5 (fun _ cs=>∃ n,cs = [.int .u8 n] ∧ 0 ≤ n ∧ n < 256) := (opn_int Tryz.underlying5).mono fun w cs ⟨n,h1,h2⟩=>⟨n,h1,(bounds_u8 h2).1,by have := (bounds_u8 h2).2;omega⟩
theorem opn_ring : Opn Tryz.prog 45 (fun _ cs=>∃ s r,cs = [.int .i64 s,.int .i64 r] ∧ i64 s ∧ i64 r) := by
 refine (opn_struct Tryz.underlying45).mono fun w cs ⟨hl,h⟩=>?_
 have hl : cs.length = 2 := hl
 match cs,hl with
 | [x,y],_=>
  obtain ⟨a,ha,ha2⟩ := h 0 _ rfl _ opn_i64
  obtain ⟨b,hb,hb2⟩ := h 1 _ rfl _ opn_i64
  have ha : [x] = [Value.int .i64 a] := ha
  have hb : [y] = [Value.int .i64 b] := hb
  exact ⟨a,b,by rw [List.singleton_inj] at ha hb;rw [ha,hb],ha2,hb2⟩
theorem bytes_of : ∀ (css : List (List Value)),(∀ c ∈ css,∃ n : Int,c = [.int .u8 n] ∧ 0 ≤ n ∧ n < 256) → ∃ l : List Int,css.flatten = bv l ∧ l.length = css.length ∧ Byt l
 | [],_=>⟨[],rfl,rfl,fun p hp=>by simp at hp⟩
 | c :: r,h=>by
  obtain ⟨n,rfl,hp⟩ := h c List.mem_cons_self
  obtain ⟨l,h1,h2,h3⟩ := bytes_of r fun c hc=>h c (List.mem_cons_of_mem _ hc)
  refine ⟨n :: l,by rw [List.flatten_cons,h1];rfl,by simp [h2],fun q hq=>?_⟩
  rcases List.mem_cons.1 hq with rfl | hq
  ·exact hp
  ·exact h3 q hq
theorem opn_bytes : Opn Tryz.prog 48 (fun w cs=>∃ (a : Option Addr) (c : Nat) (l : List Int),cs = [.slice a l.length c] ∧ Rd w a (bv l) ∧ Byt l ∧ (a = none → c = 0) ∧ l.length ≤ c ∧ l.length ≤ 140737488351232) := by
 refine (opn_slice Tryz.underlying48 (sz := 1) (by_ := 1) (by kernel_rfl) (by omega) (by kernel_rfl) opn_u8).mono ?_
 rintro w cs ⟨a,len,cap,css,rfl,rfl,hg,hr,hz,hc,hm⟩
 obtain ⟨l,h1,h2,h3⟩ := bytes_of css fun c hc=>(hg c hc).1
 rw [h1] at hr
 have hm : css.length * 1 ≤ 140737488351232 := hm
 exact ⟨a,cap,l,by rw [h2],hr,h3,hz,by omega,by omega⟩
def MsgI (m : Msg) : Prop := i64 m.kind ∧ i64 m.origin ∧ i64 m.life ∧ i64 m.id ∧ i64 m.part ∧ i64 m.parts ∧ i64 m.groups ∧ i64 m.stamp ∧ i64 m.rseq ∧ i64 m.rrep ∧ i64 m.kseq
theorem opn_bool4 : Opn Tryz.prog 4 (fun _ cs=>∃ b,cs = [.bool b]) := opn_bool Tryz.underlying4
theorem opn_key : Opn Tryz.prog 47 (fun _ cs=>∃ t s r q,cs = [.int .i64 t,.int .i64 s,.int .i64 r,.int .i64 q] ∧ i64 t ∧ i64 s ∧ i64 r ∧ i64 q) := by
 refine (opn_struct Tryz.underlying47).mono fun w cs ⟨hl,h⟩=>?_
 have hl : cs.length = 4 := hl
 match cs,hl with
 | [x,y,z,u],_=>
  obtain ⟨a,ha,ha2⟩ := h 0 _ rfl _ opn_i64
  obtain ⟨b,c,hb,hb2,hc2⟩ := h 1 _ rfl _ opn_ring
  obtain ⟨d,hd,hd2⟩ := h 2 _ rfl _ opn_i64
  have ha : [x] = [Value.int .i64 a] := ha
  have hb : [y,z] = [Value.int .i64 b,.int .i64 c] := hb
  have hd : [u] = [Value.int .i64 d] := hd
  simp only [List.cons.injEq,and_true] at ha hb hd
  exact ⟨a,b,c,d,by rw [ha,hb.1,hb.2,hd],ha2,hb2,hc2,hd2⟩
theorem opn_msg : Opn Tryz.prog 50 (fun w cs=>∃ (m : Msg) (a : Option Addr) (c : Nat),cs = m.cells a c ∧ Rd w a (bv m.body) ∧ Byt m.body ∧ (a = none → c = 0) ∧ m.body.length ≤ 140737488351232 ∧ MsgI m) := by
 refine (opn_struct Tryz.underlying50).mono fun w cs ⟨hl,h⟩=>?_
 have hl : cs.length = 13 := hl
 match cs,hl with
 | [y0,y1,y2,y3,y4,y5,y6,y7,y8,y9,y10,y11,y12],_=>
  obtain ⟨x0,h0,g0⟩ := h 0 _ rfl _ opn_i64
  obtain ⟨x1,h1,g1⟩ := h 1 _ rfl _ opn_i64
  obtain ⟨x2,h2,g2⟩ := h 2 _ rfl _ opn_i64
  obtain ⟨x3,h3,g3⟩ := h 3 _ rfl _ opn_i64
  obtain ⟨x4,h4,g4⟩ := h 4 _ rfl _ opn_i64
  obtain ⟨x5,h5,g5⟩ := h 5 _ rfl _ opn_i64
  obtain ⟨x6,h6,g6⟩ := h 6 _ rfl _ opn_i64
  obtain ⟨x7,h7⟩ := h 7 _ rfl _ opn_bool4
  obtain ⟨x8,x9,x10,x11,h8,g8,g9,g10,g11⟩ := h 8 _ rfl _ opn_key
  obtain ⟨a,c,l,h12,hr,hb,hz,hc,hm⟩ := h 9 _ rfl _ opn_bytes
  have h0 : [y0] = [Value.int .i64 x0] := h0
  have h1 : [y1] = [Value.int .i64 x1] := h1
  have h2 : [y2] = [Value.int .i64 x2] := h2
  have h3 : [y3] = [Value.int .i64 x3] := h3
  have h4 : [y4] = [Value.int .i64 x4] := h4
  have h5 : [y5] = [Value.int .i64 x5] := h5
  have h6 : [y6] = [Value.int .i64 x6] := h6
  have h7 : [y7] = [Value.bool x7] := h7
  have h8 : [y8,y9,y10,y11] = [Value.int .i64 x8,.int .i64 x9,.int .i64 x10,.int .i64 x11] := h8
  have h12 : [y12] = [Value.slice a l.length c] := h12
  simp only [List.cons.injEq,and_true] at h0 h1 h2 h3 h4 h5 h6 h7 h8 h12
  exact ⟨⟨x0,x1,x2,x3,x4,x5,x6,x7,x8,x9,x10,x11,l⟩,a,c,by rw [h0,h1,h2,h3,h4,h5,h6,h7,h8.1,h8.2.1,h8.2.2.1,h8.2.2.2,h12];rfl,hr,hb,hz,hm,g0,g1,g2,g3,g4,g5,g6,g8,g9,g10,g11⟩
end Go.Proofs.YtohbcfokihplbaaGreatDoor
namespace Go.Proofs.YtohbcfokihplbaaGreatDoor
open Go.Hb
theorem toNat_mod (y : Nat) (h : y < 128) : ((y : Int)).toNat % 128 = y := by simp;omega
theorem split128 (y i : Nat) : (y % 128) * 128 ^ i + (y / 128) * 128 ^ (i + 1) = y * 128 ^ i := by
 rw [Nat.pow_succ,← Nat.mul_assoc,Nat.mul_right_comm,← Nat.add_mul]
 congr 1
 omega
theorem decF_encF : ∀ (k m i acc y : Nat) (r : List Int),y < 128 ^ (k + 1) → k ≤ m → acc + y * 128 ^ i ≤ 9007199254740991 → (0 < i → 0 < y) →
  decF (k + 1) i acc (encF m y ++ r) = (acc + y * 128 ^ i,i + (encF m y).length,0)
 | k,m,i,acc,y,r,hy,hm,hs,hp=>by
  by_cases hlt : y < 128
  ·rw [encF_small m y hlt]
   simp only [List.cons_append,List.nil_append,decF,List.length_singleton]
   rw [if_pos (by omega),toNat_mod y hlt,if_neg (by simp only [not_or,not_and];exact ⟨fun h=>by have := hp h;omega,by omega⟩)]
  ·cases k with
   | zero=>simp at hy;omega
   | succ k=>
    cases m with
    | zero=>omega
    | succ m=>
     have hd : y / 128 < 128 ^ (k + 1) := by rw [Nat.pow_succ] at hy;omega
     have hsp := split128 y i
     have ih := decF_encF k m (i + 1) (acc + y % 128 * 128 ^ i) (y / 128) r hd (by omega) (by omega) (fun _=>by omega)
     rw [encF,if_neg hlt,List.cons_append]
     rw [decF]
     have e1 : (((y % 128 + 128 : Nat) : Int)).toNat % 128 = y % 128 := by rw [Int.toNat_natCast];omega
     rw [if_neg (by omega),e1,ih]
     simp only [List.length_cons,Prod.mk.injEq,and_true]
     omega
theorem dec_enc (x : Nat) (hx : x ≤ 9007199254740991) (r : List Int) : dec (enc x ++ r) = (x,(enc x).length,0) := by
 have h1 : (128 : Nat) ^ 8 = 72057594037927936 := by decide
 have := decF_encF 7 8 0 0 x r (by omega) (by omega) (by simpa using hx) (fun h=>by omega)
 simpa [dec,enc] using this
theorem decF_canon : ∀ (k m i acc : Nat) (l : List Int),Byt l → k ≤ m + 1 → (decF k i acc l).2.2 = 0 →
  ∃ y r,(decF k i acc l).1 = acc + y * 128 ^ i ∧ (0 < i → 0 < y) ∧ l = encF m y ++ r ∧ (decF k i acc l).2.1 = i + (encF m y).length
 | 0,m,i,acc,l,hb,hm,h=>by simp [decF] at h
 | k + 1,m,i,acc,[],hb,hm,h=>by simp [decF] at h
 | k + 1,m,i,acc,x :: r,hb,hm,h=>by
  have hx := hb x (List.mem_cons_self)
  rw [decF] at h ⊢
  by_cases hlt : x < 128
  ·rw [if_pos hlt] at h ⊢
   by_cases hbad : (0 < i ∧ x = 0) ∨ 9007199254740991 < acc + x.toNat % 128 * 128 ^ i
   ·rw [if_pos hbad] at h;cases h
   ·rw [if_neg hbad]
    simp only [not_or,not_and] at hbad
    have e : x.toNat % 128 = x.toNat := by omega
    refine ⟨x.toNat,r,by rw [e],fun hi=>by have := hbad.1 hi;omega,?_,?_⟩
    ·rw [encF_small m _ (by omega)];simp;omega
    ·rw [encF_small m _ (by omega)];rfl
  ·rw [if_neg hlt] at h ⊢
   cases m with
   | zero=>
    have : k = 0 := by omega
    subst this
    simp [decF] at h
   | succ m=>
    obtain ⟨y,r',h1,h2,h3,h4⟩ := decF_canon k m (i + 1) (acc + x.toNat % 128 * 128 ^ i) r (fun b hb'=>hb b (List.mem_cons_of_mem _ hb')) (by omega) h
    have hy := h2 (by omega)
    refine ⟨x.toNat % 128 + y * 128,r',?_,fun _=>by omega,?_,?_⟩
    ·rw [h1]
     have := split128 (x.toNat % 128 + y * 128) i
     rw [show (x.toNat % 128 + y * 128) % 128 = x.toNat % 128 by omega,show (x.toNat % 128 + y * 128) / 128 = y by omega] at this
     omega
    ·rw [encF,if_neg (by omega),show (x.toNat % 128 + y * 128) % 128 = x.toNat % 128 by omega,show (x.toNat % 128 + y * 128) / 128 = y by omega,List.cons_append,← h3]
     congr 1
     omega
    ·rw [h4,encF,if_neg (by omega),show (x.toNat % 128 + y * 128) / 128 = y by omega]
     simp only [List.length_cons];omega
theorem dec_canon {l : List Int} (hb : Byt l) (h : (dec l).2.2 = 0) : ∃ r,l = enc (dec l).1 ++ r ∧ (dec l).2.1 = (enc (dec l).1).length ∧ (dec l).1 ≤ 9007199254740991 := by
 obtain ⟨y,r,h1,_,h3,h4⟩ := decF_canon 8 8 0 0 l hb (by omega) h
 have e : (dec l).1 = y := by show (decF 8 0 0 l).1 = y;rw [h1];simp
 have hbd := (decF_bound 8 0 0 l).2 h
 refine ⟨r,by rw [e];exact h3,?_,hbd.2⟩
 rw [e]
 show (decF 8 0 0 l).2.1 = _
 rw [h4];simp [enc]
theorem decs_encs : ∀ (xs : List Int) (r : List Int),(∀ x ∈ xs,okN x) → decs xs.length (encs xs ++ r) = (xs,0,r)
 | [],r,_=>by simp [decs,encs]
 | x :: xs,r,h=>by
  have hx := h x List.mem_cons_self
  unfold okN at hx
  have he : encs (x :: xs) ++ r = enc x.toNat ++ (encs xs ++ r) := by simp [encs]
  have hd := dec_enc x.toNat (by omega) (encs xs ++ r)
  rw [he,List.length_cons,decs,hd,if_neg (by simp)]
  simp only [List.drop_left]
  rw [decs_encs xs r (fun y hy=>h y (List.mem_cons_of_mem _ hy))]
  simp;omega
theorem decs_canon : ∀ (n : Nat) (l : List Int),Byt l → (decs n l).2.1 = 0 → l = encs (decs n l).1 ++ (decs n l).2.2
 | 0,l,_,_=>by simp [decs,encs]
 | n + 1,l,hb,h=>by
  rw [decs] at h ⊢
  by_cases hd : (dec l).2.2 ≠ 0
  ·rw [if_pos hd] at h;exact absurd h hd
  ·rw [if_neg hd] at h ⊢
   obtain ⟨r,h1,h2,h3⟩ := dec_canon hb (by simpa using hd)
   have ih := decs_canon n (l.drop (dec l).2.1) (hb.drop _) h
   have hr : l.drop (dec l).2.1 = r := by rw [h2];have hx := List.drop_left (l₁ := enc (dec l).1) (l₂ := r);rwa [← h1] at hx
   rw [hr] at ih ⊢
   simp only [encs,List.flatMap_cons,Int.toNat_natCast,List.append_assoc] at ih ⊢
   rw [← ih];exact h1
theorem octs_enc {most : Int} {b r : List Int} (h1 : (b.length : Int) ≤ most) (h2 : b.length ≤ 9007199254740991) : octs most (enc b.length ++ b ++ r) = (b,0,r) := by
 have hd := dec_enc b.length h2 (b ++ r)
 rw [List.append_assoc]
 rw [octs_ok (by rw [hd]) (by rw [hd];exact h1) (by rw [hd];simp;omega),hd]
 simp only [List.drop_left,List.take_left,Prod.mk.injEq,true_and]
 rw [← List.append_assoc,List.drop_append,List.length_append,List.drop_of_length_le (by simp)]
 simp
def nums8 (m : Msg) : List Int := [m.kind,m.origin,m.life,m.id,m.part,m.parts,m.groups,b2i m.safe]
def nums4 (m : Msg) : List Int := [m.stamp,m.rseq,m.rrep,m.kseq]
theorem msgNums_parts (m : Msg) : msgNums m = nums8 m ++ nums4 m := rfl
theorem msgOf_nums (m : Msg) : msgOf (nums8 m) (nums4 m) m.body = m := by
 obtain ⟨x1,x2,x3,x4,x5,x6,x7,x8,x9,x10,x11,x12,x13⟩ := m
 cases x8 <;> rfl
theorem unpackW_bytes {ck : Msg → Int} {m : Msg} {r : List Int} (hok : ∀ x ∈ msgNums m,okN x) (hl : m.body.length ≤ 160) :
  unpackW ck (bytesM m ++ r) = if 0 < r.length ∨ ck m ≠ 0 then (zeroMsg,4) else (m,0) := by
 have e : bytesM m ++ r = encs (nums8 m) ++ (encs (nums4 m) ++ (enc m.body.length ++ m.body ++ r)) := by
  simp only [bytesM,msgNums_parts,encs,List.flatMap_append,List.append_assoc]
 have hok2 : (∀ x ∈ nums8 m,okN x) ∧ ∀ x ∈ nums4 m,okN x := ⟨fun x hx=>hok x (by rw [msgNums_parts];exact List.mem_append_left _ hx),fun x hx=>hok x (by rw [msgNums_parts];exact List.mem_append_right _ hx)⟩
 have h8 : decs 8 (bytesM m ++ r) = (nums8 m,0,encs (nums4 m) ++ (enc m.body.length ++ m.body ++ r)) := by rw [e];exact decs_encs (nums8 m) _ hok2.1
 have h4 : decs 4 (encs (nums4 m) ++ (enc m.body.length ++ m.body ++ r)) = (nums4 m,0,enc m.body.length ++ m.body ++ r) := decs_encs (nums4 m) _ hok2.2
 have ho : octs 160 (enc m.body.length ++ m.body ++ r) = (m.body,0,r) := octs_enc (by omega) (by omega)
 have h7 : ¬ 1 < (nums8 m).getD 7 0 := by show ¬ 1 < b2i m.safe;unfold b2i;split <;> omega
 unfold unpackW
 rw [h8]
 simp only
 rw [h4]
 simp only
 rw [ho]
 simp only [msgOf_nums,h7,if_false,ne_eq,not_true_eq_false]
theorem unpack_bytes {m : Msg} (h : check m = 0) : unpack (bytesM m) = (m,0) := by
 have := unpackW_bytes (ck := check) (r := []) (msgNums_ok h) (check_ok h).1
 rw [List.append_nil] at this
 rw [unpack_eq,this,if_neg (by simp [h])]
theorem plcNums_of {v : List Int} (h : v.length = 4) : plcNums (plcOf v) = v := by
 obtain ⟨a,b,c,d,rfl⟩ := four h
 rfl
theorem rows_canon : ∀ (n : Nat) (l : List Int),Byt l → (rows n l).2.1 = 0 → l = ((rows n l).1.flatMap fun p=>encs (plcNums p)) ++ (rows n l).2.2 ∧ (rows n l).1.length = n
 | 0,l,_,_=>by simp [rows]
 | n + 1,l,hb,h=>by
  rw [rows] at h ⊢
  by_cases hd : (decs 4 l).2.1 ≠ 0
  ·rw [if_pos hd] at h;exact absurd h hd
  ·rw [if_neg hd] at h ⊢
   have ih := rows_canon n (decs 4 l).2.2 (decs_rest_byt 4 hb) h
   have hc := decs_canon 4 l hb (by simpa using hd)
   have hl4 := (decs_len 4 l).2 (by simpa using hd)
   simp only [List.flatMap_cons,plcNums_of hl4,List.append_assoc,List.length_cons,ih.2,and_true]
   rw [← ih.1];exact hc
theorem charts_ok {ps : List Plc} (h : (charts ps).2 = 0) : ps.length ≤ 4 ∧ (∀ p ∈ ps,plcB p = true) ∧ charts ps = (plcsBytes ps,0) := by
 unfold charts at h ⊢
 by_cases h4 : 4 < ps.length
 ·rw [if_pos h4] at h;cases h
 rw [if_neg h4] at h ⊢
 by_cases hb : (ps.any fun p=>!plcB p) = true
 ·rw [if_pos hb] at h;cases h
 rw [if_neg hb] at h ⊢
 by_cases hi : incr (-1) ps = false
 ·rw [if_pos hi] at h;cases h
 rw [if_neg hi]
 exact ⟨by omega,any_false (by simpa using hb),rfl⟩
theorem places_canon {l : List Int} (hb : Byt l) (h : (places l).2 = 0) : charts (places l).1 = (l,0) := by
 unfold places at h ⊢
 by_cases h0 : (dec l).2.2 ≠ 0
 ·rw [if_pos h0] at h;exact absurd h h0
 rw [if_neg h0] at h ⊢
 by_cases h1 : 4 < (dec l).1
 ·rw [if_pos h1] at h;cases h
 rw [if_neg h1] at h ⊢
 by_cases h2 : (rows (dec l).1 (l.drop (dec l).2.1)).2.1 ≠ 0
 ·rw [if_pos h2] at h;exact absurd h h2
 rw [if_neg h2] at h ⊢
 by_cases h3 : (charts (rows (dec l).1 (l.drop (dec l).2.1)).1).2 ≠ 0 ∨ 0 < (rows (dec l).1 (l.drop (dec l).2.1)).2.2.length
 ·rw [if_pos h3] at h;cases h
 rw [if_neg h3]
 simp only [not_or,Nat.not_lt,ne_eq,Decidable.not_not] at h0 h2 h3
 obtain ⟨hc4,hcb,hc⟩ := charts_ok h3.1
 obtain ⟨r,d1,d2,d3⟩ := dec_canon hb h0
 have hr : l.drop (dec l).2.1 = r := by rw [d2];have hx := List.drop_left (l₁ := enc (dec l).1) (l₂ := r);rwa [← d1] at hx
 have rc := rows_canon (dec l).1 (l.drop (dec l).2.1) (hb.drop _) h2
 have hnil : (rows (dec l).1 (l.drop (dec l).2.1)).2.2 = [] := List.eq_nil_of_length_eq_zero (by omega)
 rw [hnil,List.append_nil] at rc
 simp only
 rw [hc]
 congr 1
 unfold plcsBytes
 rw [rc.2,← rc.1,hr]
 exact d1.symm
end Go.Proofs.YtohbcfokihplbaaGreatDoor
namespace Go.Proofs.YtohbcfokihplbaaGreatDoor
open Go.Hb
attribute [local irreducible] LR CW At Ev thn blk finK noG again CallsTo DW QL dnext
set_option maxRecDepth 100000
theorem pack_ok {m : Msg} (h : (pack m).2 = 0) : check m = 0 ∧ pack m = (bytesM m,0) := by
 unfold pack at h ⊢
 split
 ·rename_i hc;rw [if_pos hc] at h;exact absurd h hc
 ·rename_i hc;exact ⟨by simpa using hc,rfl⟩
theorem encF_byt : ∀ (m y : Nat),y < 128 ^ (m + 1) → Byt (encF m y)
 | 0,y,h=>fun b hb=>by simp [encF] at hb h;omega
 | m + 1,y,h=>by
  rw [encF]
  split
  ·intro b hb;simp at hb;omega
  ·intro b hb
   rcases List.mem_cons.1 hb with rfl | hb
   ·omega
   ·exact encF_byt m (y / 128) (by rw [Nat.pow_succ] at h;omega) b hb
theorem enc_byt {x : Nat} (h : x ≤ 9007199254740991) : Byt (enc x) := encF_byt 8 x (by have : (128 : Nat) ^ 9 = 9223372036854775808 := by decide
                                                                                       omega)
theorem Byt.append {l r : List Int} (h : Byt l) (h' : Byt r) : Byt (l ++ r) := fun b hb=>by
 rcases List.mem_append.1 hb with hb | hb
 ·exact h b hb
 ·exact h' b hb
theorem encs_byt {xs : List Int} (h : ∀ x ∈ xs,okN x) : Byt (encs xs) := by
 intro b hb
 obtain ⟨x,hx,hb⟩ := List.mem_flatMap.1 hb
 have := h x hx
 unfold okN at this
 exact enc_byt (by omega) b hb
theorem Byt.bytes {m : Msg} (hb : Byt m.body) (h : check m = 0) : Byt (bytesM m) :=
 ((encs_byt (msgNums_ok h)).append (enc_byt (by have := (check_ok h).1;omega))).append hb
theorem pack_snd (m : Msg) : (pack m).2 = check m := by
 unfold pack
 split
 ·rfl
 ·rename_i h;simp only [ne_eq,Decidable.not_not] at h;exact h.symm
structure Dat where
 rseq : Int
 rrep : Int
 seq : Int
 sender : Int
 stamp : Int
 msg : Msg
def Dat.cells (d : Dat) (a : Option Addr) (c : Nat) : List Value := .int .i64 d.rseq :: .int .i64 d.rrep :: .int .i64 d.seq :: .int .i64 d.sender :: .int .i64 d.stamp :: d.msg.cells a c
def Dat.val (d : Dat) (a : Option Addr) (c : Nat) : Value := .agg (d.cells a c).toArray
def zeroDat : Dat := ⟨0,0,0,0,0,zeroMsg⟩
def mayOld (d : Dat) : Bool := decide (¬ (d.rseq = 0 ∧ d.rrep = 0) ∧ ringE d.rseq d.rrep = 0 ∧ 1 ≤ d.seq ∧ d.seq ≤ 9007199254740991 ∧ 1 ≤ d.sender ∧ d.sender ≤ 8 ∧ 0 ≤ d.stamp ∧ d.stamp ≤ 9007199254740991)
def oldM (d : Dat) : Msg := ⟨5,d.sender,0,d.sender,0,0,0,false,d.stamp,d.rseq,d.rrep,d.seq,bytesM d.msg⟩
def old (d : Dat) : Msg × Int := if mayOld d = true ∧ check d.msg = 0 ∧ d.msg.kind ≠ 5 then (oldM d,0) else (zeroMsg,2)
def innerD (m : Msg) : Dat := ⟨m.rseq,m.rrep,m.kseq,m.id,m.stamp,(unpack m.body).1⟩
def inner (m : Msg) : Dat × Int := if check m = 0 ∧ m.kind = 5 then (innerD m,0) else (zeroDat,2)
theorem check_old {m : Msg} (h : check m = 0) (hk : m.kind = 5) : plainB m = true ∧ 1 ≤ m.id ∧ m.id ≤ 8 ∧ ¬ (m.rseq = 0 ∧ m.rrep = 0) ∧ 0 < m.kseq ∧ (unpack m.body).2 = 0 ∧ (unpack m.body).1.kind ≠ 5 := by
 have h2 := (check_ok h).2
 unfold mayB at h2
 simp only [Bool.and_eq_true] at h2
 have h3 := h2.2
 unfold kindB at h3
 rw [hk] at h3
 simp only [show ¬ ((5 : Int) = 1) by omega,show ¬ ((5 : Int) = 2) by omega,show ¬ ((5 : Int) = 3) by omega,show ¬ ((5 : Int) = 4) by omega,if_false,if_true] at h3
 unfold oldB at h3
 simp only [Bool.and_eq_true,decide_eq_true_eq] at h3
 exact ⟨h3.1,h3.2⟩
set_option maxHeartbeats 4000000 in
theorem c32 (d : Dat) (a : Option Addr) (c : Nat) (w : World) (hr : Rd w a (bv d.msg.body)) (hz : a = none → c = 0) (hm : d.msg.body.length ≤ 140737488355328) (hb : Byt d.msg.body) :
  CallsTo Tryz.prog 253 [d.val a c] w fun v w'=>∃ a2 c2,v = .tuple [(old d).1.val a2 c2,.int .i64 (old d).2].toArray ∧ NewSl w w' (.slice a2 (old d).1.body.length c2) 5 1 (old d).1.body.length (bv (old d).1.body) := by
 refine go_in (n := 64) (St.rd1 hr) Tryz.func253 rfl rfl ?_
 have nils : ∀ w',Grew w w' → NewSl w w' (.slice none 0 0) 5 1 0 (bv []) := fun w' hg=>⟨hg,World.ownsRow_nil _ _ _ _⟩
 repeat'(first|refine gz ?_|refine gy fun _=>?_|(apply kq;(·exact rfl);(·intro w1 h1;exact CallsTo.q (c81 _ _ w1) h1))|(apply kq;(·exact rfl);(·intro w1 h1;exact CallsTo.q (c59 _ _ _ w1) h1))|(refine gs ?_ ?_;all_goals(intro hc;try simp only[hcs]at hc;try exact abz)))
 all_goals (
  apply LR.call
  ·exact rfl
  intro w1 h1
  refine CallsTo.mono (show CallsTo Tryz.prog 314 [d.msg.val a c] w1 _ from c15 d.msg a c w1 (h1.rd_of memZ) hz hm hb) ?_
  rintro v w2 ⟨a1,c1,rfl,hn⟩
  refine LR.back (h1.newSl hn) ?_
  clear hn h1
  repeat'(first|refine gz ?_|(refine gs ?_ ?_;all_goals(intro hc;try simp only[hcs]at hc;try exact abz)))
  all_goals (
   first
   | (have e : old d = (zeroMsg,2) := by clear nils;unfold old;rw [if_neg (by simp_all [mayOld,withinB_iff,pack_snd] <;> (intros;omega))]
      (apply ret2c;(·exact rfl);(·exact inferInstance);(·exact rfl);(·exact memY);(·exact rfl);intro w' hS)
      rw [e]
      exact ⟨none,0,rfl,nils w' hS.toKeep⟩)
   | (rename (pack d.msg).2 = 0=>hp
      obtain ⟨hck,ep⟩ := pack_ok hp
      have e : old d = (oldM d,0) := by clear nils;unfold old;rw [if_pos (by simp_all [mayOld,withinB_iff])]
      (apply ret2c;(·exact rfl);(·exact inferInstance);(·exact rfl);(·exact memY);(·exact rfl);intro w' hS)
      rw [e]
      rw [ep] at hS
      refine ⟨a1,c1,?_,hS.toNew (mH _ _)⟩
      rw [ep]
      rfl)))
set_option maxHeartbeats 4000000 in
theorem c33 (m : Msg) (a : Option Addr) (c : Nat) (w : World) (hr : Rd w a (bv m.body)) (hz : a = none → c = 0) (hm : m.body.length ≤ 140737488355328) (hb : Byt m.body) :
  CallsTo Tryz.prog 175 [m.val a c] w fun v w'=>∃ a2 c2,v = .tuple [(inner m).1.val a2 c2,.int .i64 (inner m).2].toArray ∧ NewSl w w' (.slice a2 (inner m).1.msg.body.length c2) 5 1 (inner m).1.msg.body.length (bv (inner m).1.msg.body) := by
 refine go_in (n := 37) (St.rd1 hr) Tryz.func175 rfl rfl ?_
 have nils : ∀ w',Grew w w' → NewSl w w' (.slice none 0 0) 5 1 0 (bv []) := fun w' hg=>⟨hg,World.ownsRow_nil _ _ _ _⟩
 repeat'(first|refine gz ?_|refine gy fun _=>?_|(apply kq;(·exact rfl);(·intro w1 h1;have hq := CallsTo.q (d17 m a c w1 (h1.rd_of memZ) hz hm hb) h1;show CallsTo Tryz.prog 88 [m.val a c] w1 _;exact hq))|(refine gs ?_ ?_;all_goals(intro hc;try simp only[hcs]at hc;try exact abz)))
 rotate_right
 ·rename check m = 0=>hck
  rename m.kind = 5=>hk
  have hko := check_old hck hk
  have e : inner m = (innerD m,0) := by unfold inner;rw [if_pos ⟨hck,hk⟩]
  apply LR.call
  ·exact rfl
  intro w1 h1
  refine (d23 a c m.body w1 (h1.rd_of memZ) hz hm hb).mono ?_
  rintro v w2 ⟨a1,c1,rfl,hn⟩
  refine LR.back (h1.newSl hn) ?_
  clear hn h1
  repeat'(first|refine gz ?_|refine gy fun _=>?_|(refine gs ?_ ?_;all_goals(intro hc;try simp only[hcs]at hc;try exact abz)))
  (apply ret2c;(·exact rfl);(·exact inferInstance);(·exact rfl);(·exact memY);(·exact rfl);intro w' hS)
  rw [e]
  exact ⟨a1,c1,rfl,hS.toNew memZ⟩
 all_goals (
  (apply ret2c;(·exact rfl);(·exact inferInstance);(·exact rfl);(·exact memY);(·exact rfl);intro w' hS)
  have e : inner m = (zeroDat,2) := by unfold inner;rw [if_neg (by simp_all)]
  rw [e]
  exact ⟨none,0,rfl,nils w' hS.toKeep⟩)
end Go.Proofs.YtohbcfokihplbaaGreatDoor
namespace Go.Proofs.YtohbcfokihplbaaGreatDoor
open Go.Hb Go.ChangeShapes Go.WideShapes
attribute [local irreducible] LR CW At Ev thn blk finK noG again CallsTo DW QL dnext TW
set_option maxRecDepth 100000
theorem encF_lenle : ∀ (k m y : Nat),y < 128 ^ (k + 1) → (encF m y).length ≤ k + 1
 | k,0,y,_=>by simp [encF]
 | 0,m + 1,y,h=>by rw [encF_small _ _ (by omega)];simp
 | k + 1,m + 1,y,h=>by
  rw [encF]
  split
  ·simp
  ·have := encF_lenle k m (y / 128) (by rw [Nat.pow_succ] at h;omega)
   simp;omega
theorem enc_len1 {x : Nat} (h : x < 128) : (enc x).length ≤ 1 := encF_lenle 0 8 x (by omega)
theorem enc_len2 {x : Nat} (h : x < 16384) : (enc x).length ≤ 2 := encF_lenle 1 8 x (by omega)
theorem enc_len8 {x : Nat} (h : x ≤ 9007199254740991) : (enc x).length ≤ 8 := by
 have h8 : (128 : Nat) ^ 8 = 72057594037927936 := by decide
 exact encF_lenle 7 8 x (by omega)
theorem plcs_room {ps : List Plc} (h : ∀ p ∈ ps,plcB p = true) : (ps.flatMap fun p=>encs (plcNums p)).length ≤ 12 * ps.length := by
 induction ps with
 | nil=>simp
 | cons p r ih=>
  have ih := ih fun q hq=>h q (List.mem_cons_of_mem _ hq)
  have hp := h p List.mem_cons_self
  unfold plcB at hp
  simp only [decide_eq_true_eq] at hp
  have e1 : (enc p.ring.toNat).length ≤ 1 := enc_len1 (by omega)
  have e2 : (enc p.seq.toNat).length ≤ 8 := enc_len8 (by omega)
  have e3 : (enc p.rep.toNat).length ≤ 1 := enc_len1 (by omega)
  have e4 : (enc p.members.toNat).length ≤ 2 := enc_len2 (by omega)
  simp only [List.flatMap_cons,List.length_append,encs,plcNums,List.flatMap_nil,List.append_nil,List.length_cons] at ih ⊢
  omega
theorem room {m : Msg} (hb : Byt m.body) (h : check m = 0) (hk : m.kind ≠ 5) : (bytesM m).length ≤ 160 := by
 obtain ⟨h1,h2⟩ := check_ok h
 have hok := msgNums_ok h
 unfold mayB at h2
 simp only [withinB_iff,Bool.and_eq_true,decide_eq_true_eq] at h2
 obtain ⟨⟨⟨⟨⟨⟨h3,h4⟩,h5⟩,h6⟩,h7⟩,h8⟩,h9⟩ := h2
 have hkey : ringB m.rseq m.rrep = true := by
  unfold keyE keyB at h8
  split at h8
  ·rename_i hh;simp only [Bool.and_eq_true] at hh;exact hh.2
  ·cases h8
 have hrep : 0 ≤ m.rrep ∧ m.rrep ≤ 8 := by unfold ringB at hkey;rw [numB_iff] at hkey;simp at hkey;omega
 have hparts : 0 ≤ m.part ∧ m.part ≤ 5 ∧ 0 ≤ m.parts ∧ m.parts ≤ 5 ∧ m.body.length ≤ 49 := by
  have pl : plainB m = true → m.part = 0 ∧ m.parts = 0 := fun h=>by unfold plainB at h;simp at h;omega
  unfold kindB at h9
  repeat' split at h9
  ·unfold textB at h9;simp at h9;omega
  ·unfold emptyB at h9;simp only [Bool.and_eq_true,decide_eq_true_eq] at h9;have := pl h9.1;omega
  ·unfold wantB emptyB at h9;simp only [Bool.and_eq_true,decide_eq_true_eq] at h9;have := pl h9.1.1;omega
  ·unfold chartB at h9;simp only [Bool.and_eq_true,decide_eq_true_eq] at h9
   have := pl h9.1.1
   have hc := places_canon hb h9.2
   have h0 : (charts (places m.body).1).2 = 0 := by rw [hc]
   obtain ⟨c1,c2,c3⟩ := charts_ok h0
   rw [hc] at c3
   have hl : m.body = plcsBytes (places m.body).1 := congrArg Prod.fst c3
   have hr := plcs_room c2
   have he : (enc (places m.body).1.length).length ≤ 1 := enc_len1 (by omega)
   have : m.body.length = (enc (places m.body).1.length).length + ((places m.body).1.flatMap fun p=>encs (plcNums p)).length := by
    conv=>lhs;rw [hl]
    simp [plcsBytes]
   omega
  ·cases h9
 have n0 := hok m.kind (by simp [msgNums])
 have okl : ∀ x ∈ msgNums m,(enc x.toNat).length ≤ 8 := fun x hx=>enc_len8 (by have := hok x hx;unfold okN at this;omega)
 have e0 : (enc m.kind.toNat).length ≤ 1 := enc_len1 (by omega)
 have e1 : (enc m.origin.toNat).length ≤ 1 := enc_len1 (by omega)
 have e2 := okl m.life (by simp [msgNums])
 have e3 := okl m.id (by simp [msgNums])
 have e4 : (enc m.part.toNat).length ≤ 1 := enc_len1 (by omega)
 have e5 : (enc m.parts.toNat).length ≤ 1 := enc_len1 (by omega)
 have e6 : (enc m.groups.toNat).length ≤ 2 := enc_len2 (by omega)
 have e7 : (enc (b2i m.safe).toNat).length ≤ 1 := enc_len1 (by unfold b2i;split <;> simp)
 have e8 := okl m.stamp (by simp [msgNums])
 have e9 := okl m.rseq (by simp [msgNums])
 have e10 : (enc m.rrep.toNat).length ≤ 1 := enc_len1 (by omega)
 have e11 := okl m.kseq (by simp [msgNums])
 have e12 : (enc m.body.length).length ≤ 1 := enc_len1 (by omega)
 simp only [bytesM,encs,msgNums,List.flatMap_cons,List.flatMap_nil,List.append_nil,List.length_append]
 omega
theorem check_oldM {d : Dat} (hm : mayOld d = true) (hb : Byt d.msg.body) (hc : check d.msg = 0) (hk : d.msg.kind ≠ 5) : check (oldM d) = 0 := by
 unfold mayOld at hm
 simp only [decide_eq_true_eq] at hm
 obtain ⟨m1,m2,m3,m4,m5,m6,m7,m8⟩ := hm
 have hr := room hb hc hk
 have hu := unpack_bytes hc
 have hring : ringB d.rseq d.rrep = true := by unfold ringE at m2;split at m2;(·assumption);(·cases m2)
 unfold check checkM
 rw [if_neg (by show ¬ 160 < (bytesM d.msg).length;omega)]
 rw [if_pos ?_]
 unfold mayB
 simp only [withinB_iff,Bool.and_eq_true,decide_eq_true_eq]
 refine ⟨⟨⟨⟨⟨⟨by simp [oldM],by simp [oldM];omega⟩,by simp [oldM]⟩,by simp [oldM];omega⟩,by simp [oldM]⟩,?_⟩,?_⟩
 ·unfold keyE keyB
  rw [if_pos]
  simp only [oldM,numB_iff,hring,Bool.and_true,Bool.and_eq_true,decide_eq_true_eq]
  omega
 ·unfold kindB oldB plainB
  simp only [oldM,hu]
  simp [hk]
  refine ⟨by omega,by omega,?_,by omega⟩
  omega
theorem opn_dat : Opn Tryz.prog 52 (fun w cs=>∃ (d : Dat) (a : Option Addr) (c : Nat),cs = d.cells a c ∧ Rd w a (bv d.msg.body) ∧ Byt d.msg.body ∧ (a = none → c = 0) ∧ d.msg.body.length ≤ 140737488351232 ∧ (MsgI d.msg ∧ i64 d.rseq ∧ i64 d.rrep ∧ i64 d.seq ∧ i64 d.sender ∧ i64 d.stamp)) := by
 refine (opn_struct Tryz.underlying52).mono fun w cs ⟨hl,h⟩=>?_
 have hl : cs.length = 18 := hl
 match cs,hl with
 | y0 :: y1 :: y2 :: y3 :: y4 :: r,hl=>
  obtain ⟨x0,x1,h0,g0,g1⟩ := h 0 _ rfl _ opn_ring
  obtain ⟨x2,h2,g2⟩ := h 1 _ rfl _ opn_i64
  obtain ⟨x3,h3,g3⟩ := h 2 _ rfl _ opn_i64
  obtain ⟨x4,h4,g4⟩ := h 3 _ rfl _ opn_i64
  obtain ⟨m,a,c,h5,hr,hb,hz,hm,hi⟩ := h 4 _ rfl _ opn_msg
  have h0 : [y0,y1] = [Value.int .i64 x0,.int .i64 x1] := h0
  have h2 : [y2] = [Value.int .i64 x2] := h2
  have h3 : [y3] = [Value.int .i64 x3] := h3
  have h4 : [y4] = [Value.int .i64 x4] := h4
  have h5 : r.take 13 = m.cells a c := h5
  have h6 : r = m.cells a c := by rw [← h5,List.take_of_length_le];simp at hl;omega
  simp only [List.cons.injEq,and_true] at h0 h2 h3 h4
  exact ⟨⟨x0,x1,x2,x3,x4,m⟩,a,c,by rw [h0.1,h0.2,h2,h3,h4,h6];rfl,hr,hb,hz,hm,hi,g0,g1,g2,g3,g4⟩
end Go.Proofs.YtohbcfokihplbaaGreatDoor
namespace Go.Hb
theorem lst_foldl_comm (a : Array Bool) (i j : Nat) : (a.setIfInBounds i true).setIfInBounds j true = (a.setIfInBounds j true).setIfInBounds i true := by
 by_cases h : i = j
 ·subst h;rfl
 ·exact Array.setIfInBounds_comm _ _ h
theorem lst_perm {ops : List Oper} {l l' : List Nat} (h : l.Perm l') : lst ops l = lst ops l' := by
 unfold lst
 exact h.foldl_eq' (fun x _ y _ z=>lst_foldl_comm z x y) _
theorem lst_getD {ops : List Oper} : ∀ {l : List Nat} {j : Nat} (d : Bool),j < ops.length → (lst ops l).getD j d = l.contains j := by
 intro l
 have gen : ∀ (l : List Nat) (a : Array Bool) (j : Nat) (d : Bool),j < a.size → (l.foldl (fun l i=>l.setIfInBounds i true) a).getD j d = (l.contains j || a.getD j d) := by
  intro l
  induction l with
  | nil=>intro a j d _;simp
  | cons x r ih=>
   intro a j d hj
   rw [List.foldl_cons,ih _ _ _ (by simpa using hj)]
   by_cases hx : x = j
   ·subst hx;simp [hj]
   ·have e : (a.setIfInBounds x true).getD j d = a.getD j d := by simp [Array.getElem?_setIfInBounds_ne hx]
    have e2 : (j == x) = false := by simpa using fun h=>hx h.symm
    rw [e,List.contains_cons,e2,Bool.false_or]
 intro j d hj
 unfold lst
 rw [gen _ _ _ _ (by simpa using hj)]
 simp [hj]
theorem ready_more {ops : List Oper} {l : List Nat} {j : Nat} (h : j ∈ Region.ready .any ops.toArray (lst ops l)) : ∀ (l' : List Nat),(∀ x ∈ l',j ≠ x) → j ∈ Region.ready .any ops.toArray (lst ops (l ++ l')) := by
 intro l'
 induction l' generalizing l with
 | nil=>intro _;simpa using h
 | cons x r ih=>
  intro hx
  have := ready_mono (i := x) h (hx x List.mem_cons_self)
  rw [← lst_snoc] at this
  have h2 := ih this (fun y hy=>hx y (List.mem_cons_of_mem _ hy))
  simpa using h2
theorem St.pushL {w0 w w' : World} {F : Nat → Prop} {L A : List Asrt} (h : St w0 F L w) (hA : St w NoF A w') (he : ∀ x ∈ A,x.excl = true) : St w0 F (A ++ L) w' := by
 have h' := h.grew hA.toKeep
 have hnew : ∀ a ∈ A,∀ k,a.foot k → w.heap.size ≤ k := fun a ha k hk=>Nat.le_of_not_lt fun hlt=>hA.mine a ha (he a ha) k hk hlt
 refine ⟨h'.os,h'.tape,h'.output,h'.size,h'.keep,?_,?_,?_,?_,?_⟩
 ·intro a ha;rcases List.mem_append.1 ha with ha | ha
  ·exact hA.holds a ha
  ·exact h'.holds a ha
 ·intro a ha;rcases List.mem_append.1 ha with ha | ha
  ·exact hA.live a ha
  ·exact h'.live a ha
 ·intro a ha hx k hk hlt;rcases List.mem_append.1 ha with ha | ha
  ·have := hnew a ha k hk;have := h.size;omega
  ·exact h'.mine a ha hx k hk hlt
 ·refine List.pairwise_append.2 ⟨hA.dis,h'.dis,fun a ha b hb _ k hk hk2=>?_⟩
  have := hnew a ha k hk;have := h.live b hb k hk2;omega
 ·intro a ha;rcases List.mem_append.1 ha with ha | ha
  ·exact hA.dep a ha
  ·exact h'.dep a ha
structure PI (P : Program) (n : Nat) (ops : List Oper) where
 i : Nat
 d : Nat
 vs : List (Nat × Value)
 C : World → Prop
 val : Nat → Value
 A : Nat → List Asrt
 ok : ∀ (Q : Exit → Act → World → Prop) (h : Frm) (w : World) (a : Act) (K : Act → World → Prop),Has h vs → C w → Fits n a h → (∀ b w' a',St w NoF (A b) w' → Fits n a' (upd h d (val b)) → K a' w') → wpOp P ops.toArray Q i K a w
 ex : ∀ b,∀ x ∈ A b,x.excl = true
section
variable {P : Program} {n : Nat} {ops : List Oper} {Q : Post} {f : Frm} {C S : World → Prop}
def sF : List (PI P n ops × Option Nat) → Frm → Frm
 | [],f=>f
 | (p,some b) :: r,f=>upd (sF r f) p.d (p.val b)
 | (_,none) :: r,f=>sF r f
def sL : List (PI P n ops × Option Nat) → List Asrt
 | []=>[]
 | (p,some b) :: r=>p.A b ++ sL r
 | (_,none) :: r=>sL r
def sD : List (PI P n ops × Option Nat) → List Nat
 | []=>[]
 | (p,some _) :: r=>p.i :: sD r
 | (_,none) :: r=>sD r
def nD : List (PI P n ops × Option Nat) → List Nat
 | []=>[]
 | (_,some _) :: r=>nD r
 | (p,none) :: r=>p.d :: nD r
def nI : List (PI P n ops × Option Nat) → List Nat
 | []=>[]
 | (_,some _) :: r=>nI r
 | (p,none) :: r=>p.i :: nI r
variable {σ σ1 σ2 : List (PI P n ops × Option Nat)} {p : PI P n ops} {b : Nat}
theorem sL_set : (sL (σ1 ++ (p,some b) :: σ2)).Perm (p.A b ++ sL (σ1 ++ (p,none) :: σ2)) := by
 induction σ1 with
 | nil=>exact List.Perm.refl _
 | cons x r ih=>
  obtain ⟨q,o⟩ := x
  cases o with
  | none=>exact ih
  | some c=>
   show (q.A c ++ sL (r ++ (p,some b) :: σ2)).Perm (p.A b ++ (q.A c ++ sL (r ++ (p,none) :: σ2)))
   refine (ih.append_left _).trans ?_
   rw [← List.append_assoc,← List.append_assoc]
   exact List.perm_append_comm.append_right _
theorem sD_set : (sD (σ1 ++ (p,some b) :: σ2)).Perm (p.i :: sD (σ1 ++ (p,none) :: σ2)) := by
 induction σ1 with
 | nil=>exact List.Perm.refl _
 | cons x r ih=>
  obtain ⟨q,o⟩ := x
  cases o with
  | none=>exact ih
  | some c=>exact (ih.cons q.i).trans (List.Perm.swap _ _ _)
theorem sDnI : ∀ (σ : List (PI P n ops × Option Nat)),(sD σ ++ nI σ).Perm ((σ.map Prod.fst).map PI.i)
 | []=>List.Perm.refl _
 | (p,some b) :: r=>(sDnI r).cons p.i
 | (p,none) :: r=>by
  show (sD r ++ p.i :: nI r).Perm (p.i :: (r.map Prod.fst).map PI.i)
  exact List.perm_middle.trans ((sDnI r).cons p.i)
theorem sF_off : ∀ {σ : List (PI P n ops × Option Nat)} {t : Nat},t ∉ (σ.map Prod.fst).map PI.d → sF σ f t = f t
 | [],t,_=>rfl
 | (p,some b) :: r,t,h=>by
  simp only [List.map_cons,List.mem_cons,not_or] at h
  show upd _ _ _ t = _
  rw [upd_ne _ _ _ _ h.1,sF_off h.2]
 | (p,none) :: r,t,h=>by
  simp only [List.map_cons,List.mem_cons,not_or] at h
  exact sF_off (σ := r) h.2
theorem nD_sub : ∀ {σ : List (PI P n ops × Option Nat)} {t : Nat},t ∈ nD σ → t ∈ (σ.map Prod.fst).map PI.d
 | (p,some b) :: r,t,h=>by simp only [List.map_cons];exact List.mem_cons_of_mem _ (nD_sub (σ := r) h)
 | (p,none) :: r,t,h=>by
  simp only [List.map_cons]
  rcases List.mem_cons.1 h with rfl | h
  ·exact List.mem_cons_self
  ·exact List.mem_cons_of_mem _ (nD_sub (σ := r) h)
theorem sF_in {f f' : Frm} : ∀ {σ : List (PI P n ops × Option Nat)} {t : Nat},((σ.map Prod.fst).map PI.d).Nodup → t ∈ (σ.map Prod.fst).map PI.d → t ∉ nD σ → sF σ f t = sF σ f' t
 | (p,some b) :: r,t,hn,ht,h=>by
  simp only [List.map_cons,List.nodup_cons] at hn
  simp only [List.map_cons] at ht
  show upd _ _ _ t = upd _ _ _ t
  by_cases e : t = p.d
  ·subst e;rw [upd_same,upd_same]
  ·rw [upd_ne _ _ _ _ e,upd_ne _ _ _ _ e]
   rcases List.mem_cons.1 ht with ht | ht
   ·exact absurd ht e
   ·exact sF_in (σ := r) hn.2 ht h
 | (p,none) :: r,t,hn,ht,h=>by
  simp only [List.map_cons,List.nodup_cons] at hn
  simp only [List.map_cons] at ht
  have h : t ∉ p.d :: nD r := h
  simp only [List.mem_cons,not_or] at h
  rcases List.mem_cons.1 ht with ht | ht
  ·exact absurd ht h.1
  ·exact sF_in (σ := r) hn.2 ht h.2
theorem sF_set {f : Frm} : ∀ {σ1 : List (PI P n ops × Option Nat)},(((σ1 ++ (p,none) :: σ2).map Prod.fst).map PI.d).Nodup → sF (σ1 ++ (p,some b) :: σ2) f = upd (sF (σ1 ++ (p,none) :: σ2) f) p.d (p.val b)
 | [],_=>rfl
 | (q,none) :: r,hn=>by
  simp only [List.cons_append,List.map_cons,List.nodup_cons] at hn
  exact sF_set (σ1 := r) hn.2
 | (q,some c) :: r,hn=>by
  simp only [List.cons_append,List.map_cons,List.nodup_cons] at hn
  have hne : q.d ≠ p.d := fun e=>hn.1 (by rw [e];simp)
  show upd (sF (r ++ (p,some b) :: σ2) f) q.d (q.val c) = upd (upd (sF (r ++ (p,none) :: σ2) f) q.d (q.val c)) p.d (p.val b)
  rw [sF_set (σ1 := r) hn.2]
  funext t
  by_cases h1 : t = q.d
  ·subst h1;rw [upd_same,upd_ne _ _ _ _ hne,upd_same]
  ·rw [upd_ne _ _ _ _ h1]
   by_cases h2 : t = p.d
   ·subst h2;rw [upd_same,upd_same]
   ·rw [upd_ne _ _ _ _ h2,upd_ne _ _ _ _ h2,upd_ne _ _ _ _ h1]
theorem nD_set : ∀ {σ1 : List (PI P n ops × Option Nat)} {t : Nat},t ∈ nD (σ1 ++ (p,none) :: σ2) → t = p.d ∨ t ∈ nD (σ1 ++ (p,some b) :: σ2)
 | [],t,h=>List.mem_cons.1 h
 | (q,none) :: r,t,h=>by
  rcases List.mem_cons.1 h with rfl | h
  ·exact .inr List.mem_cons_self
  ·rcases nD_set (σ1 := r) h with h | h
   ·exact .inl h
   ·exact .inr (List.mem_cons_of_mem _ h)
 | (q,some c) :: r,t,h=>nD_set (σ1 := r) h
theorem nI_len : ∀ {σ1 : List (PI P n ops × Option Nat)},(nI (σ1 ++ (p,none) :: σ2)).length = (nI (σ1 ++ (p,some b) :: σ2)).length + 1
 | []=>rfl
 | (q,none) :: r=>by show (nI (r ++ _)).length + 1 = _;exact congrArg (·+ 1) (nI_len (σ1 := r))
 | (q,some c) :: r=>nI_len (σ1 := r)
theorem nI_find : ∀ {σ : List (PI P n ops × Option Nat)} {j : Nat},j ∈ nI σ → ∃ σ1 p σ2,σ = σ1 ++ (p,none) :: σ2 ∧ p.i = j
 | (p,none) :: r,j,h=>by
  rcases List.mem_cons.1 h with rfl | h
  ·exact ⟨[],p,r,rfl,rfl⟩
  ·obtain ⟨a,q,c,rfl,e⟩ := nI_find (σ := r) h
   exact ⟨(p,none) :: a,q,c,rfl,e⟩
 | (p,some b) :: r,j,h=>by
  obtain ⟨a,q,c,rfl,e⟩ := nI_find (σ := r) h
  exact ⟨(p,some b) :: a,q,c,rfl,e⟩
variable {w0 : World} {F : Nat → Prop} {L : List Asrt} {pend : List (PI P n ops)} {done : List Nat}
def PS (P : Program) (n : Nat) (ops : List Oper) (Q : Post) (done : List Nat) (S : World → Prop) (f : Frm) (w0 : World) (F : Nat → Prop) (L : List Asrt) (σ : List (PI P n ops × Option Nat)) : Prop :=
 ∀ w,St w0 F (L ++ sL σ) w → ∀ g,(∀ t,t ∉ nD σ → g t = sF σ f t) → ∀ a,Fits n a g →
  wpAnyH P .any ops.toArray (lift n (only fun f w=>Q .normal f w)) S (ops.length - (done.length + (sD σ).length)) (lst ops (done ++ sD σ)) a w
def DP (P : Program) (n : Nat) (ops : List Oper) (Q : Post) (pend : List (PI P n ops)) (done : List Nat) (S : World → Prop) (f : Frm) (w0 : World) (F : Nat → Prop) (L : List Asrt) : Prop :=
 ∀ σ,σ.map Prod.fst = pend → PS P n ops Q done S f w0 F L σ
def PAll (f : Frm) (w0 : World) (F : Nat → Prop) (L : List Asrt) : List (PI P n ops) → Prop
 | []=>True
 | p :: r=>Has f p.vs ∧ (∀ A w,St w0 F (L ++ A) w → p.C w) ∧ PAll f w0 F L r
theorem PAll.get : ∀ {pend : List (PI P n ops)},PAll f w0 F L pend → ∀ p ∈ pend,Has f p.vs ∧ ∀ A w,St w0 F (L ++ A) w → p.C w
 | q :: r,h,p,hp=>by
  rcases List.mem_cons.1 hp with rfl | hp
  ·exact ⟨h.1,h.2.1⟩
  ·exact PAll.get h.2.2 p hp
theorem has_same {f g : Frm} : ∀ {vs : List (Nat × Value)},Has f vs → (∀ q ∈ vs,g q.1 = f q.1) → Has g vs
 | [],_,_=>trivial
 | q :: r,h,hg=>⟨(hg q List.mem_cons_self).trans h.1,has_same h.2 fun x hx=>hg x (List.mem_cons_of_mem _ hx)⟩
def pOk (pend : List (PI P n ops)) : Bool :=
 decide (pend.map PI.i).Nodup && decide (pend.map PI.d).Nodup && pend.all fun p=>p.vs.all fun q=>!(pend.map PI.d).contains q.1
def pOkL (is ds : List Nat) (vss : List (List Nat)) : Bool := decide is.Nodup && decide ds.Nodup && vss.all fun l=>l.all fun q=>!ds.contains q
theorem pOk_of {is ds : List Nat} {vss : List (List Nat)} (h1 : pend.map PI.i = is) (h2 : pend.map PI.d = ds) (h3 : (pend.map fun p=>p.vs.map Prod.fst) = vss) (h : pOkL is ds vss = true) : pOk pend = true := by
 subst h1 h2 h3
 simpa [pOk,pOkL,List.all_map,Function.comp_def] using h
theorem PS.exec (hp : pOk pend = true) (hall : PAll f w0 F L pend) (hS : ∀ A w,St w0 F (L ++ A) w → S w) (he : σ1.map Prod.fst ++ p :: σ2.map Prod.fst = pend) (hlen : done.length + (sD (σ1 ++ (p,none) :: σ2)).length < ops.length)
  (ih : ∀ b,PS P n ops Q done S f w0 F L (σ1 ++ (p,some b) :: σ2)) {w : World} (hw : St w0 F (L ++ sL (σ1 ++ (p,none) :: σ2)) w) {g : Frm} (hg : ∀ t,t ∉ nD (σ1 ++ (p,none) :: σ2) → g t = sF (σ1 ++ (p,none) :: σ2) f t) {a : Act} (ha : Fits n a g) {fuel : Nat} (hf : ops.length - (done.length + (sD (σ1 ++ (p,none) :: σ2)).length) = fuel + 1) :
  wpOp P ops.toArray (lift n (only fun f w=>Q .normal f w)) p.i (fun a' w'=>S w' ∧ wpAnyH P .any ops.toArray (lift n (only fun f w=>Q .normal f w)) S fuel ((lst ops (done ++ sD (σ1 ++ (p,none) :: σ2))).setIfInBounds p.i true) a' w') a w := by
 have hpm : p ∈ pend := by rw [← he];simp
 obtain ⟨hh,hC⟩ := hall.get p hpm
 simp only [pOk,Bool.and_eq_true,decide_eq_true_eq,List.all_eq_true] at hp
 obtain ⟨⟨hn1,hn2⟩,hn3⟩ := hp
 have hmap : ∀ o,(σ1 ++ (p,o) :: σ2).map Prod.fst = pend := fun o=>by rw [List.map_append,List.map_cons];exact he
 have hd2 : (((σ1 ++ (p,none) :: σ2).map Prod.fst).map PI.d).Nodup := by rw [hmap];exact hn2
 refine p.ok _ g w a _ (has_same hh fun q hq=>?_) (hC _ _ hw) ha fun b w' a' hb ha'=>?_
 ·have h3 := hn3 p hpm q hq
  have h4 : q.1 ∉ ((σ1 ++ (p,none) :: σ2).map Prod.fst).map PI.d := by rw [hmap];simpa using h3
  rw [hg _ (fun hx=>h4 (nD_sub hx)),sF_off h4]
 ·have h1 : St w0 F (L ++ sL (σ1 ++ (p,some b) :: σ2)) w' := by
   refine (hw.pushL hb (p.ex b)).perm ?_
   refine List.Perm.trans ?_ (sL_set.symm.append_left L)
   rw [← List.append_assoc,← List.append_assoc]
   exact List.perm_append_comm.append_right _
  refine ⟨hS _ _ h1,?_⟩
  have h2 := ih b w' h1 (upd g p.d (p.val b)) (fun t ht=>?_) a' ha'
  ·have e1 : lst ops (done ++ sD (σ1 ++ (p,some b) :: σ2)) = (lst ops (done ++ sD (σ1 ++ (p,none) :: σ2))).setIfInBounds p.i true := by
    rw [← lst_snoc]
    refine lst_perm ?_
    rw [List.append_assoc]
    exact (sD_set.trans (List.perm_append_comm (l₁ := [p.i]))).append_left done
   have e2 : ops.length - (done.length + (sD (σ1 ++ (p,some b) :: σ2)).length) = fuel := by
    have := (sD_set (σ1 := σ1) (σ2 := σ2) (p := p) (b := b)).length_eq
    simp only [List.length_cons] at this
    omega
   rw [e1,e2] at h2
   exact h2
  ·rw [sF_set hd2]
   by_cases e : t = p.d
   ·subst e;rw [upd_same,upd_same]
   ·rw [upd_ne _ _ _ _ e,upd_ne _ _ _ _ e]
    refine hg t fun hx=>?_
    rcases nD_set (b := b) hx with h | h
    ·exact e h
    ·exact ht h
theorem DP.begin (pend : List (PI P n ops)) (h : DP P n ops Q pend done S f w0 F L) : DW P n ops Q done S f (St w0 F L) := by
 intro w hw a ha
 have key : ∀ (pd : List (PI P n ops)),sL (pd.map fun p=>(p,(none : Option Nat))) = [] ∧ sD (pd.map fun p=>(p,(none : Option Nat))) = [] ∧ ∀ f,sF (pd.map fun p=>(p,(none : Option Nat))) f = f := by
  intro pd
  induction pd with
  | nil=>exact ⟨rfl,rfl,fun _=>rfl⟩
  | cons q r ih=>exact ⟨ih.1,ih.2.1,ih.2.2⟩
 obtain ⟨k1,k2,k3⟩ := key pend
 have := h (pend.map fun p=>(p,none)) (by simp [List.map_map,Function.comp_def]) w (by rw [k1,List.append_nil];exact hw) f (fun t _=>by rw [k3]) a ha
 rw [k2,List.append_nil] at this
 exact this
theorem DP.nil (h : DW P n ops Q done S f (St w0 F L)) : DP P n ops Q [] done S f w0 F L := by
 intro σ hσ w hw g hg a ha
 have : σ = [] := List.map_eq_nil_iff.1 hσ
 subst this
 have e : g = f := funext fun t=>hg t (by simp [nD])
 subst e
 have := h w (by simpa [sL] using hw) a ha
 simpa [sD] using this
theorem DP.more (p : PI P n ops) (h : DP P n ops Q (p :: pend) done S f w0 F L) : DP P n ops Q pend done S f w0 F L := by
 intro σ hσ w hw g hg a ha
 refine h ((p,none) :: σ) (by simp [hσ]) w hw g (fun t ht=>hg t fun hx=>ht (List.mem_cons_of_mem _ hx)) a ha
theorem sD_le : ∀ (σ : List (PI P n ops × Option Nat)),(sD σ).length + (nI σ).length = σ.length
 | []=>rfl
 | (p,some b) :: r=>by have := sD_le r;simp only [sD,nI,List.length_cons];omega
 | (p,none) :: r=>by have := sD_le r;simp only [sD,nI,List.length_cons];omega
def pnext (P : Program) (n : Nat) (ops : List Oper) (Q : Post) (pend : List (PI P n ops)) (done : List Nat) (S : World → Prop) (w0 : World) (F : Nat → Prop) (g : Frm) (A : List Asrt) : Post :=
 only fun f' w'=>∃ (L' : List Asrt) (f'' : Frm),(∀ t,f' t = bif (pend.map PI.d).contains t then g t else f'' t) ∧ St w0 F (L' ++ A) w' ∧ (∀ A w,St w0 F (L' ++ A) w → S w) ∧ DP P n ops Q pend done S f'' w0 F L'
theorem wpOp_of_LR {R : Frm → World → Prop} {i : Nat} {o : Oper} (hi : ops[i]? = some o) {w : World} {a : Act} (ha : Fits n a f) (hC : C w) (h : LR false P n ops [o] (only R) f C) {K : Act → World → Prop} {Qx : Exit → Act → World → Prop}
  (hK : ∀ a' f' w',Fits n a' f' → R f' w' → K a' w') : wpOp P ops.toArray Qx i K a w := by
 have h1 := h w hC a ha
 have ho : ops.toArray[i]? = some o := by simpa using hi
 unfold wpOp
 simp only [ho]
 simp only [wpList] at h1
 have conv : ∀ a' w',lift n (only R) .normal a' w' → K a' w' := by
  intro a' w' hq
  obtain ⟨f',hf',_,hR⟩ := hq
  exact hK a' f' w' hf' hR
 split
 ·rename_i hwn
  rw [if_pos hwn] at h1
  rcases h1 with h1 | ⟨_,a',w',f',hf',he,_⟩
  ·refine .inl ?_
   have h2 := Oper.wp_mono conv h1
   unfold Oper.wp at h2 ⊢
   generalize (execOp a.eval o).run P w = r at *
   cases r with
   | ok nx w'=>
    cases nx <;> simp only [Oper.upon] at h2 ⊢
    case value=>exact h2
    case skip=>exact h2
    case defer=>exact h2
    case enter g args=>
     refine Calls.mono h2 fun e w'' he=>?_
     cases e with
     | returned u=>exact he
     | panicked c=>obtain ⟨_,_,he,_⟩ := he;cases he
     | outgrown=>obtain ⟨_,_,_,_,he,_⟩ := he;cases he
    case row=>exact h2
   | halt x w'=>
    cases x <;> simp only [Oper.upon] at h2 ⊢
    case panic=>obtain ⟨_,_,he,_⟩ := h2;cases he
  ·cases he
 ·rename_i hwn
  rw [if_neg hwn] at h1
  exact conv _ _ h1
theorem DP.loud (i : Nat) {o : Oper} (hi : ops[i]? = some o)
  (hr : (pOk pend && (Region.ready .any ops.toArray (lst ops done)).contains i && (Region.ready .any ops.toArray (lst ops (done ++ pend.map PI.i))).all (fun j=>Nat.beq j i) && !(pend.map PI.i).contains i && Nat.blt (done.length + pend.length) ops.length) = true)
  (hall : PAll f w0 F L pend) (hS : ∀ A w,St w0 F (L ++ A) w → S w)
  (h : ∀ g A LA,LA = L ++ A → LR false P n ops [o] (pnext P n ops Q pend (done ++ [i]) S w0 F g A) (mix (pend.map PI.d) g f) (St w0 F LA)) : DP P n ops Q pend done S f w0 F L := by
 simp only [Bool.and_eq_true] at hr
 obtain ⟨⟨⟨⟨hp,hri⟩,hra⟩,hni⟩,hl⟩ := hr
 have hri : i ∈ Region.ready .any ops.toArray (lst ops done) := by simpa using hri
 have hni : i ∉ pend.map PI.i := by
  intro hx
  have : (pend.map PI.i).contains i = true := List.elem_eq_true_of_mem hx
  rw [this] at hni;cases hni
 have hl := blt_lt hl
 have hp' := hp
 simp only [pOk,Bool.and_eq_true,decide_eq_true_eq,List.all_eq_true] at hp'
 obtain ⟨⟨hn1,hn2⟩,hn3⟩ := hp'
 suffices key : ∀ m σ,(nI σ).length = m → σ.map Prod.fst = pend → PS P n ops Q done S f w0 F L σ from fun σ hσ=>key _ σ rfl hσ
 intro m
 induction m with
 | zero | succ m ih=>
  intro σ hm hσ w hw g hg a ha
  have hlen : (sD σ).length + (nI σ).length = pend.length := by rw [sD_le,← hσ];simp
  have hdn := sDnI σ
  rw [hσ] at hdn
  obtain ⟨fuel,hfuel⟩ : ∃ fuel,ops.length - (done.length + (sD σ).length) = fuel + 1 := ⟨ops.length - (done.length + (sD σ).length) - 1,by omega⟩
  rw [hfuel]
  have hsD : ∀ x ∈ sD σ,x ∈ pend.map PI.i := fun x hx=>hdn.mem_iff.1 (List.mem_append_left _ hx)
  have hir : i ∈ Region.ready .any ops.toArray (lst ops (done ++ sD σ)) := ready_more hri _ fun x hx e=>hni (e ▸ hsD x hx)
  refine ⟨fun h0=>(by rw [h0] at hir;cases hir),fun j hj=>?_⟩
  by_cases hjp : j ∈ nI σ
  ·first
   | (rw [List.eq_nil_of_length_eq_zero hm] at hjp;cases hjp;done)
   | (obtain ⟨σ1,p,σ2,rfl,rfl⟩ := nI_find hjp
      refine PS.exec hp hall hS (by rw [← hσ,List.map_append,List.map_cons]) (by omega) (fun b=>ih _ ?_ ?_) hw hg ha hfuel
      ·have := nI_len (σ1 := σ1) (σ2 := σ2) (p := p) (b := b);omega
      ·rw [← hσ];simp)
  ·have hjr : j ∈ Region.ready .any ops.toArray (lst ops (done ++ pend.map PI.i)) := by
    have h1 := ready_more hj (nI σ) (fun x hx e=>hjp (e ▸ hx))
    rwa [lst_perm (l' := done ++ pend.map PI.i) (by rw [List.append_assoc];exact hdn.append_left done)] at h1
   have hji : j = i := Nat.eq_of_beq_eq_true (List.all_eq_true.1 hra j hjr)
   subst hji
   have hmix : mix (pend.map PI.d) g f = g := by
    funext t
    simp only [mix]
    cases hc : (pend.map PI.d).contains t with
    | true=>rfl
    | false=>
     have ht : t ∉ (σ.map Prod.fst).map PI.d := by
      rw [hσ];intro hx;have hx' : (pend.map PI.d).contains t = true := List.elem_eq_true_of_mem hx;rw [hx'] at hc;cases hc
     rw [cond_false,hg t (fun hx=>ht (nD_sub hx)),sF_off ht]
   have hLR := h g (sL σ) _ rfl
   rw [hmix] at hLR
   refine wpOp_of_LR hi ha hw hLR fun a' f' w' hf' ⟨L',f'',h1,h2,h3,h4⟩=>⟨h3 _ _ h2,?_⟩
   have h5 := h4 σ hσ w' h2 f' (fun t ht=>?_) a' hf'
   ·have e1 : lst ops (done ++ [j] ++ sD σ) = (lst ops (done ++ sD σ)).setIfInBounds j true := by
     rw [← lst_snoc]
     refine lst_perm ?_
     rw [List.append_assoc,List.append_assoc]
     exact List.perm_append_comm.append_left done
    have e2 : ops.length - ((done ++ [j]).length + (sD σ).length) = fuel := by simp only [List.length_append,List.length_cons,List.length_nil];omega
    rw [e1,e2] at h5
    exact h5
   ·rw [h1 t]
    cases hc : (pend.map PI.d).contains t with
    | true=>
     have ht2 : t ∈ (σ.map Prod.fst).map PI.d := by rw [hσ];simpa using hc
     rw [cond_true,hg t ht]
     exact sF_in (by rw [hσ];exact hn2) ht2 ht
    | false=>
     have ht2 : t ∉ (σ.map Prod.fst).map PI.d := by
      rw [hσ];intro hx;have hx' : (pend.map PI.d).contains t = true := List.elem_eq_true_of_mem hx;rw [hx'] at hc;cases hc
     rw [cond_false,sF_off ht2]
theorem DP.settle {r : List (PI P n ops)}
  (hr : (pOk (p :: r) && (Region.ready .any ops.toArray (lst ops done)).contains p.i && (Region.ready .any ops.toArray (lst ops (done ++ r.map PI.i))).all (fun j=>Nat.beq j p.i) && Nat.blt (done.length + r.length) ops.length) = true)
  (hall : PAll f w0 F L (p :: r)) (hS : ∀ A w,St w0 F (L ++ A) w → S w)
  (h : ∀ b,DP P n ops Q r (done ++ [p.i]) S (upd f p.d (p.val b)) w0 F (p.A b ++ L)) : DP P n ops Q (p :: r) done S f w0 F L := by
 simp only [Bool.and_eq_true] at hr
 obtain ⟨⟨⟨hp,hri⟩,hra⟩,hl⟩ := hr
 have hri : p.i ∈ Region.ready .any ops.toArray (lst ops done) := by simpa using hri
 have hl := blt_lt hl
 have hp' := hp
 simp only [pOk,Bool.and_eq_true,decide_eq_true_eq,List.all_eq_true] at hp'
 obtain ⟨⟨hn1,hn2⟩,hn3⟩ := hp'
 have hn1' := List.nodup_cons.1 (show (p.i :: r.map PI.i).Nodup from hn1)
 have hn2' := List.nodup_cons.1 (show (p.d :: r.map PI.d).Nodup from hn2)
 suffices key : ∀ m σ,(nI σ).length = m → σ.map Prod.fst = p :: r → PS P n ops Q done S f w0 F L σ from fun σ hσ=>key _ σ rfl hσ
 intro m
 induction m with
 | zero | succ m ih=>
  intro σ hm hσ w hw g hg a ha
  match σ,hσ,hm,hw,hg with
  | (q,some b) :: τ,hσ,hm,hw,hg=>
   simp only [List.map_cons,List.cons.injEq] at hσ
   obtain ⟨rfl,hτ⟩ := hσ
   have h5 := h b τ hτ w (hw.perm (by
    show (L ++ (q.A b ++ sL τ)).Perm (q.A b ++ L ++ sL τ)
    rw [← List.append_assoc]
    exact List.perm_append_comm.append_right _)) g (fun t ht=>by
     rw [hg t ht]
     show upd (sF τ f) q.d (q.val b) t = _
     by_cases e : t = q.d
     ·subst e
      rw [upd_same,sF_off (by rw [hτ];exact hn2'.1),upd_same]
     ·rw [upd_ne _ _ _ _ e]
      by_cases ht2 : t ∈ (τ.map Prod.fst).map PI.d
      ·exact sF_in (by rw [hτ];exact hn2'.2) ht2 ht
      ·rw [sF_off ht2,sF_off ht2,upd_ne _ _ _ _ e]) a ha
   have e1 : lst ops (done ++ [q.i] ++ sD τ) = lst ops (done ++ sD ((q,some b) :: τ)) := by rw [List.append_assoc];rfl
   have e2 : (done ++ [q.i]).length + (sD τ).length = done.length + (sD ((q,some b) :: τ)).length := by simp [sD];omega
   rw [e1,e2] at h5
   exact h5
  | (q,none) :: τ,hσ,hm,hw,hg=>
   simp only [List.map_cons,List.cons.injEq] at hσ
   obtain ⟨rfl,hτ⟩ := hσ
   first
   | (simp only [nI,List.length_cons,Nat.add_one_ne_zero] at hm;done)
   | (
   have hlen : (sD τ).length + (nI τ).length = r.length := by rw [sD_le,← hτ];simp
   have hdn := sDnI τ
   rw [hτ] at hdn
   have hsd : sD ((q,none) :: τ) = sD τ := rfl
   obtain ⟨fuel,hfuel⟩ : ∃ fuel,ops.length - (done.length + (sD ((q,none) :: τ)).length) = fuel + 1 := ⟨ops.length - (done.length + (sD τ).length) - 1,by rw [hsd];omega⟩
   rw [hfuel]
   have hsD : ∀ x ∈ sD τ,x ∈ r.map PI.i := fun x hx=>hdn.mem_iff.1 (List.mem_append_left _ hx)
   have hir : q.i ∈ Region.ready .any ops.toArray (lst ops (done ++ sD τ)) := ready_more hri _ fun x hx e=>hn1'.1 (e ▸ hsD x hx)
   rw [hsd]
   refine ⟨fun h0=>(by rw [h0] at hir;cases hir),fun j hj=>?_⟩
   have hjn : j ∈ nI ((q,none) :: τ) := by
    by_cases hjp : j ∈ nI τ
    ·exact List.mem_cons_of_mem _ hjp
    ·have hjr : j ∈ Region.ready .any ops.toArray (lst ops (done ++ r.map PI.i)) := by
      have h1 := ready_more hj (nI τ) (fun x hx e=>hjp (e ▸ hx))
      rwa [lst_perm (l' := done ++ r.map PI.i) (by rw [List.append_assoc];exact hdn.append_left done)] at h1
     have hji : j = q.i := Nat.eq_of_beq_eq_true (List.all_eq_true.1 hra j hjr)
     rw [hji];exact List.mem_cons_self
   obtain ⟨σ1,p',σ2,e,rfl⟩ := nI_find hjn
   have hm' : σ1.map Prod.fst ++ p' :: σ2.map Prod.fst = q :: r := by
    have := congrArg (List.map Prod.fst) e
    rw [List.map_append,List.map_cons,List.map_cons,hτ] at this
    exact this.symm
   rw [← hsd]
   rw [e] at hw hg hm hfuel ⊢
   refine PS.exec hp hall hS hm' (by rw [← e,hsd];omega) (fun b=>ih _ ?_ ?_) hw hg ha hfuel
   ·have := nI_len (σ1 := σ1) (σ2 := σ2) (p := p') (b := b);omega
   ·rw [← hm'];simp)
variable {is ds : List Nat} {vss : List (List Nat)}
theorem DP.go (i : Nat) (is ds : List Nat) (vss : List (List Nat)) {o : Oper} (hi : ops[i]? = some o) (h1 : pend.map PI.i = is) (h2 : pend.map PI.d = ds) (h3 : (pend.map fun p=>p.vs.map Prod.fst) = vss)
  (hr : (pOkL is ds vss && (Region.ready .any ops.toArray (lst ops done)).contains i && (Region.ready .any ops.toArray (lst ops (done ++ is))).all (fun j=>Nat.beq j i) && !is.contains i && Nat.blt (done.length + is.length) ops.length) = true)
  (hall : PAll f w0 F L pend) (hS : ∀ A w,St w0 F (L ++ A) w → S w)
  (h : ∀ g A LA,LA = L ++ A → LR false P n ops [o] (pnext P n ops Q pend (done ++ [i]) S w0 F g A) (mix ds g f) (St w0 F LA)) : DP P n ops Q pend done S f w0 F L := by
 simp only [Bool.and_eq_true] at hr
 have hp := pOk_of h1 h2 h3 hr.1.1.1.1
 have hl : is.length = pend.length := by rw [← h1];simp
 subst h1 h2
 exact DP.loud i hi (by simp only [Bool.and_eq_true];exact ⟨⟨⟨⟨hp,hr.1.1.1.2⟩,hr.1.1.2⟩,hr.1.2⟩,by rw [← hl];exact hr.2⟩) hall hS h
theorem DP.take (i d : Nat) (val : Nat → Value) (A : Nat → List Asrt) (is ds : List Nat) (vss : List (List Nat)) {r : List (PI P n ops)} (hp1 : p.i = i) (hpd : p.d = d) (hpv : p.val = val) (hpA : p.A = A) (h1 : r.map PI.i = is) (h2 : (p :: r).map PI.d = ds) (h3 : ((p :: r).map fun p=>p.vs.map Prod.fst) = vss)
  (hr : (pOkL (i :: is) ds vss && (Region.ready .any ops.toArray (lst ops done)).contains i && (Region.ready .any ops.toArray (lst ops (done ++ is))).all (fun j=>Nat.beq j i) && Nat.blt (done.length + is.length) ops.length) = true)
  (hall : PAll f w0 F L (p :: r)) (hS : ∀ A w,St w0 F (L ++ A) w → S w)
  (h : ∀ b,DP P n ops Q r (done ++ [i]) S (upd f d (val b)) w0 F (A b ++ L)) : DP P n ops Q (p :: r) done S f w0 F L := by
 simp only [Bool.and_eq_true] at hr
 have hp := pOk_of (pend := p :: r) (is := i :: is) (by rw [List.map_cons,h1,hp1]) h2 h3 hr.1.1.1
 have hl : is.length = r.length := by rw [← h1];simp
 subst h1 hp1 hpd hpv hpA
 exact DP.settle (by simp only [Bool.and_eq_true];exact ⟨⟨⟨hp,hr.1.1.2⟩,hr.1.2⟩,by rw [← hl];exact hr.2⟩) hall hS h
theorem lst_sub {l e : List Nat} {j : Nat} (hj : j < ops.length) (h : (lst ops l).getD j true = true) : (lst ops (l ++ e)).getD j true = true := by
 rw [lst_getD _ hj] at h ⊢
 simp only [List.contains_iff_mem] at h ⊢
 exact List.mem_append_left _ h
theorem free_more {l e : List Nat} {i : Nat} (h : Region.free .any ops.toArray (lst ops l) i = true) : Region.free .any ops.toArray (lst ops (l ++ e)) i = true := by
 unfold Region.free at h ⊢
 split
 ·rename_i h0;rw [h0] at h;exact h
 ·rename_i oi h0
  rw [h0] at h
  simp only [List.all_eq_true,List.mem_range] at h ⊢
  intro j hj
  have hj' : j < ops.length := by simpa using hj
  have := h j hj
  simp only [Bool.or_eq_true] at this ⊢
  rcases this with (h1 | h1) | h1
  ·exact .inl (.inl h1)
  ·exact .inl (.inr (lst_sub hj' h1))
  ·exact .inr h1
theorem headB_more : ∀ {H l e : List Nat},headB ops.toArray (lst ops l) H = true → (∀ x ∈ e,x ∉ H) → headB ops.toArray (lst ops (l ++ e)) H = true
 | [],_,_,_,_=>rfl
 | i :: r,l,e,h,he=>by
  simp only [headB,Bool.and_eq_true] at h ⊢
  obtain ⟨⟨h1,h2⟩,h3⟩ := h
  refine ⟨⟨?_,free_more h2⟩,?_⟩
  ·have : i ∈ Region.ready .any ops.toArray (lst ops l) := by simpa using h1
   have := ready_more this e (fun x hx e2=>he x hx (e2 ▸ List.mem_cons_self))
   simpa using this
  ·rw [← lst_snoc] at h3 ⊢
   have := headB_more (H := r) (e := e) h3 (fun x hx hr=>he x hx (List.mem_cons_of_mem _ hr))
   rw [lst_perm (l' := l ++ e ++ [i])] at this
   ·exact this
   ·rw [List.append_assoc,List.append_assoc]
    exact List.perm_append_comm.append_left l
theorem quiet_go {K : Frm → Prop} {w : World} {R : Frm → World → Prop} : ∀ (H l : List Nat) (fr : Frm) (a : Act) (fuel : Nat),headB ops.toArray (lst ops l) H = true → Region.noSelect ops.toArray = true → QL P n ops S K H fr → Fits n a fr → S w →
  (∀ fr' a',K fr' → Fits n a' fr' → wpAnyH P .any ops.toArray (lift n (only R)) S fuel (lst ops (l ++ H)) a' w) → wpAnyH P .any ops.toArray (lift n (only R)) S (fuel + H.length) (lst ops l) a w
 | [],l,fr,a,fuel,_,_,hq,ha,_,hk=>by
  have := hk fr a hq ha
  simpa using this
 | i :: r,l,fr,a,fuel,hB,hs,hq,ha,hS,hk=>by
  simp only [headB,Bool.and_eq_true] at hB
  obtain ⟨⟨h1,h2⟩,h3⟩ := hB
  obtain ⟨o,v,ho,hd,hy,hq'⟩ := hq
  have ih := quiet_go (R := R) r (l ++ [i]) _ _ fuel (by rw [lst_snoc];exact h3) hs hq' (ha.putO o.dst v hd) hS (fun fr' a' hK hf=>by
   have := hk fr' a' hK hf
   rw [List.append_assoc];exact this)
  rw [lst_snoc] at ih
  have e : fuel + (i :: r).length = (fuel + r.length) + 1 := by simp only [List.length_cons];omega
  rw [e]
  exact wpAnyH_take (by simpa using ho) hs h2 h1 (fun c a w hq=>by obtain ⟨_,_,he,_⟩ := hq;cases he) (hy a ha) hS ih
def pq (P : Program) (n : Nat) (ops : List Oper) (Q : Post) (pend : List (PI P n ops)) (done : List Nat) (S : World → Prop) (w0 : World) (F : Nat → Prop) (L : List Asrt) (ds : List Nat) (g : Frm) : Frm → Prop :=
 fun f'=>∃ f'',(∀ t,f' t = bif ds.contains t then g t else f'' t) ∧ DP P n ops Q pend done S f'' w0 F L
theorem DP.quiet (H is ds : List Nat) (h1 : pend.map PI.i = is) (h2 : pend.map PI.d = ds)
  (hr : (decide ds.Nodup && headB ops.toArray (lst ops done) H && Region.noSelect ops.toArray && Nat.ble (done.length + H.length + is.length) ops.length && is.all (fun i=>!H.contains i)) = true)
  (hS : ∀ A w,St w0 F (L ++ A) w → S w) (h : ∀ g,QL P n ops S (pq P n ops Q pend (done ++ H) S w0 F L ds g) H (mix ds g f)) : DP P n ops Q pend done S f w0 F L := by
 simp only [Bool.and_eq_true,decide_eq_true_eq] at hr
 obtain ⟨⟨⟨⟨hn2,hB⟩,hs⟩,hl⟩,hd⟩ := hr
 have hl := Nat.le_of_ble_eq_true hl
 have hlen : is.length = pend.length := by rw [← h1];simp
 subst h1 h2
 intro σ hσ w hw g hg a ha
 have hmix : mix (pend.map PI.d) g f = g := by
  funext t
  simp only [mix]
  cases hc : (pend.map PI.d).contains t with
  | true=>rfl
  | false=>
   have ht : t ∉ (σ.map Prod.fst).map PI.d := by
    rw [hσ];intro hx;have hx' : (pend.map PI.d).contains t = true := List.elem_eq_true_of_mem hx;rw [hx'] at hc;cases hc
   rw [cond_false,hg t (fun hx=>ht (nD_sub hx)),sF_off ht]
 have hq := h g
 rw [hmix] at hq
 have hdn := sDnI σ
 rw [hσ] at hdn
 have hsD : ∀ x ∈ sD σ,x ∈ pend.map PI.i := fun x hx=>hdn.mem_iff.1 (List.mem_append_left _ hx)
 have hle : (sD σ).length ≤ pend.length := by have := sD_le σ;rw [← hσ,List.length_map];omega
 have e : ops.length - (done.length + (sD σ).length) = (ops.length - ((done ++ H).length + (sD σ).length)) + H.length := by simp only [List.length_append];omega
 rw [e]
 refine quiet_go H (done ++ sD σ) g a _ (headB_more hB fun x hx hxH=>?_) hs hq ha (hS _ _ hw) fun fr' a' hK hf=>?_
 ·have := List.all_eq_true.1 hd x (hsD x hx)
  have h2 : H.contains x = true := List.elem_eq_true_of_mem hxH
  rw [h2] at this;cases this
 ·obtain ⟨f'',h5,h6⟩ := hK
  have := h6 σ hσ w hw fr' (fun t ht=>?_) a' hf
  ·rw [lst_perm (l' := done ++ sD σ ++ H)] at this
   ·exact this
   ·rw [List.append_assoc,List.append_assoc]
    exact List.perm_append_comm.append_left done
  ·rw [h5 t]
   cases hc : (pend.map PI.d).contains t with
   | true=>
    have ht2 : t ∈ (σ.map Prod.fst).map PI.d := by rw [hσ];simpa using hc
    rw [cond_true,hg t ht]
    exact sF_in (by rw [hσ];exact hn2) ht2 ht
   | false=>
    have ht2 : t ∉ (σ.map Prod.fst).map PI.d := by
     rw [hσ];intro hx;have hx' : (pend.map PI.d).contains t = true := List.elem_eq_true_of_mem hx;rw [hx'] at hc;cases hc
    rw [cond_false,sF_off ht2]
inductive MixR (ds : List Nat) (g : Frm) : Frm → Frm → Prop
 | base (f : Frm) : MixR ds g (mix ds g f) f
 | upd {f' f0 : Frm} {d : Nat} {v : Value} (h : MixR ds g f' f0) (hd : ds.contains d = false) : MixR ds g (Hb.upd f' d v) (Hb.upd f0 d v)
theorem MixR.eq {g f' f0 : Frm} (h : MixR ds g f' f0) : ∀ t,f' t = bif ds.contains t then g t else f0 t := by
 induction h with
 | base f=>exact fun t=>rfl
 | @upd f' f0 d v h hd ih=>
  intro t
  by_cases e : t = d
  ·subst e;rw [hd,cond_false,upd_same,upd_same]
  ·rw [upd_ne _ _ _ _ e,ih t,upd_ne _ _ _ _ e]
inductive Tl (A : List Asrt) : List Asrt → List Asrt → Prop
 | nil : Tl A A []
 | cons {x : Asrt} {l l' : List Asrt} (h : Tl A l l') : Tl A (x :: l) (x :: l')
theorem Tl.eq {A l l' : List Asrt} (h : Tl A l l') : l = l' ++ A := by
 induction h with
 | nil=>rfl
 | cons h ih=>rw [ih];rfl
theorem pq_done {g f' f0 : Frm} (hm : MixR ds g f' f0) (h : DP P n ops Q pend done S f0 w0 F L) : pq P n ops Q pend done S w0 F L ds g f' := ⟨_,hm.eq,h⟩
theorem At.pdone {g f' f0 : Frm} {A LA L' : List Asrt} (h2 : pend.map PI.d = ds) (hm : MixR ds g f' f0) (hL : Tl A LA L') (hS : ∀ A w,St w0 F (L' ++ A) w → S w)
  (h : DP P n ops Q pend done S f0 w0 F L') : At (pnext P n ops Q pend done S w0 F g A) .normal f' (St w0 F LA) := by
 subst h2
 intro w hw
 exact ⟨rfl,L',_,hm.eq,by rw [← hL.eq];exact hw,hS,h⟩
theorem upd_updL {h : Frm} {vs : List (Nat × Value)} (hh : Has h vs) : updL h vs = h := updL_has hh fun _ _=>rfl
def PI.lr (i d : Nat) (vs : List (Nat × Value)) (val : Nat → Value) (A : Nat → List Asrt) {o : Oper} (hi : ops[i]? = some o) (ex : ∀ b,∀ x ∈ A b,x.excl = true)
  (h : ∀ h w,LR false P n ops [o] (only fun f' w'=>∃ b,f' = upd (updL h vs) d (val b) ∧ St w NoF (A b) w') (updL h vs) (St w NoF [])) : PI P n ops where
 i := i
 d := d
 vs := vs
 C := fun _=>True
 val := val
 A := A
 ok := fun Q fr w a K hh _ ha hk=>by
  have := h fr w
  rw [upd_updL hh] at this
  exact wpOp_of_LR hi ha (St.refl w NoF) this fun a' f' w' hf' ⟨b,e,hs⟩=>hk b w' a' hs (by rw [← e];exact hf')
 ex := ex
theorem At.made {d b : Nat} {h : Frm} {val : Nat → Value} {A : Nat → List Asrt} {w : World} {f' : Frm} (hf : f' = upd h d (val b)) : At (only fun f' w'=>∃ b,f' = upd h d (val b) ∧ St w NoF (A b) w') .normal f' (St w NoF (A b)) := fun _ hw=>⟨rfl,b,hf,hw⟩
def PI.call (i d : Nat) (vs : List (Nat × Value)) (C : World → Prop) (v : Value) {g : FuncId} {xs : List Operand} {args : List Value} {ts : Array TypeId} {T : TypeId} {pp : String} {af : Array Edge} [own : Own P g]
  (hi : ops[i]? = some ⟨some d,.call ⟨.value (.func g),xs.toArray,ts⟩,T,pp,af,none⟩) (hd : Nat.blt d n = true) (hx : ∀ h,xs.map (updL h vs).ev = args)
  (h : ∀ w,C w → CallsTo P g args w fun u w'=>u = v ∧ Grew w w') : PI P n ops where
 i := i
 d := d
 vs := vs
 C := C
 val := fun _=>v
 A := fun _=>[]
 ok := fun Q fr w a K hh hC ha hk=>by
  refine wpOp_of_LR (C := fun u=>u = w) hi ha rfl (R := fun f' w'=>f' = upd fr d v ∧ Grew w w') (LR.call hd fun w1 e=>?_) fun a' f' w' hf' ⟨e,hs⟩=>hk 0 w' a' hs (by rw [← e];exact hf')
  subst e
  have hx' := hx fr
  rw [upd_updL hh] at hx'
  rw [hx']
  refine (h w1 hC).mono ?_
  rintro u w' ⟨rfl,hg⟩
  refine LW.sub (D := fun u=>u = w') ?_ (fun _ e=>e)
  exact LR.nil (m := false) fun w2 e=>by subst e;exact ⟨rfl,rfl,hg⟩
 ex := fun _ x hx=>by cases hx
theorem St.nilsl {w : World} {L : List Asrt} (E sz : Nat) (h : St w0 F L w) : St w0 F (osl (.slice none 0 0) E sz 0 [] :: L) w := h.newSl ⟨Grew.refl _,World.ownsRow_nil _ _ _ _⟩
theorem St.one' {w w' : World} {L L' : List Asrt} {a a' : Asrt} (h : St w0 F L w) (st : Step a a' w w') (he : a.excl = true) (hd : a'.dep) (hs : Sel L a a' L') : St w0 F L' w' := h.did hs he st hd
end
section
variable {α : Type} {f : α → List Value} {n : Nat}
theorem rows_get (hf : ∀ x,(f x).length = n) : ∀ (l : List α) (i j : Nat) (v : Value) (h : i < l.length),(f l[i])[j]? = some v → (l.flatMap f)[i * n + j]? = some v
 | x :: r,0,j,v,h,hj=>by
  have hlt : j < (f x).length := (List.getElem?_eq_some_iff.1 hj).1
  rw [List.flatMap_cons,Nat.zero_mul,Nat.zero_add,List.getElem?_append_left hlt]
  exact hj
 | x :: r,i + 1,j,v,h,hj=>by
  have ih := rows_get hf r i j v (by simpa using h) hj
  rw [List.flatMap_cons,List.getElem?_append_right (by rw [hf];rw [Nat.add_mul];omega),hf,show (i + 1) * n + j - n = i * n + j by rw [Nat.add_mul];omega]
  exact ih
theorem rows_len (hf : ∀ x,(f x).length = n) : ∀ (l : List α),(l.flatMap f).length = l.length * n
 | []=>by simp
 | x :: r=>by rw [List.flatMap_cons,List.length_append,hf,rows_len hf r,List.length_cons,Nat.add_mul];omega
theorem rd_row (hf : ∀ x,(f x).length = n) {w : World} {b o : Nat} {l : List α} (h : Rd w (some ⟨b,o,none⟩) (l.flatMap f)) {i q : Nat} (hi : i < l.length) (hq : q = i * n) : ∀ j v,(f l[i])[j]? = some v → w.cell? ((⟨b,o + q,none⟩ : Addr).add j) = some v := by
 intro j v hj
 subst hq
 rw [addr_add,Nat.add_assoc]
 exact h.cell (rows_get hf l i j v hi hj)
theorem row_cell (hf : ∀ x,(f x).length = n) {w : World} {b o q i : Nat} {l : List α} {v : Value} (h : Rd w (some ⟨b,o,none⟩) (l.flatMap f)) (hi : i < l.length) (j : Nat) (hj : (f l[i])[j]? = some v) (hq : q = o + i * n + j) : w.cell? ⟨b,q,none⟩ = some v := by
 subst hq
 rw [Nat.add_assoc]
 exact h.cell (rows_get hf l i j v hi hj)
theorem rows_ne (hf : ∀ x,(f x).length = n) (hn : 0 < n) {l : List α} {i : Nat} (h : i < l.length) : l.flatMap f ≠ [] := fun e=>by
 have := rows_len hf l
 rw [e] at this
 have h2 : 1 * n ≤ l.length * n := Nat.mul_le_mul_right _ (by omega)
 simp only [List.length_nil] at this
 omega
theorem rows_of {R : α → Prop} : ∀ (css : List (List Value)),(∀ c ∈ css,∃ x,c = f x ∧ R x) → ∃ l : List α,css.flatten = l.flatMap f ∧ l.length = css.length ∧ ∀ x ∈ l,R x
 | [],_=>⟨[],rfl,rfl,fun p hp=>by simp at hp⟩
 | c :: r,h=>by
  obtain ⟨x,rfl,hp⟩ := h c List.mem_cons_self
  obtain ⟨l,h1,h2,h3⟩ := rows_of r fun c hc=>h c (List.mem_cons_of_mem _ hc)
  refine ⟨x :: l,by rw [List.flatten_cons,h1];rfl,by simp [h2],fun q hq=>?_⟩
  rcases List.mem_cons.1 hq with rfl | hq
  ·exact hp
  ·exact h3 q hq
end
section
variable {w0 w : World} {L : List Asrt} {x : Asrt} {a : Option Addr} {xs : List Value}
theorem St.oldRd (h : St w0 NoF L w) (hr : Rd w0 a xs) : Rd w a xs :=
 Rd.dep a xs w0 w (fun k hk=>h.keep k (hr.live k hk) (fun hf=>hf)) hr
theorem St.oldRdF {F : Nat → Prop} (h : St w0 F L w) (hr : Rd w0 a xs) (hF : ∀ k,rdFoot a xs k → ¬ F k) : Rd w a xs :=
 Rd.dep a xs w0 w (fun k hk=>h.keep k (hr.live k hk) (hF k hk)) hr
theorem DW.castL {P : Program} {n : Nat} {ops : List Oper} {Q : Post} {done : List Nat} {S : World → Prop} {f : Frm} {w0 : World} {F : Nat → Prop} {L L' : List Asrt} (e : L = L') (h : DW P n ops Q done S f (St w0 F L')) : DW P n ops Q done S f (St w0 F L) := e ▸ h
end
section
variable {α : Type} {f : α → Asrt} {w0 w : World} {F : Nat → Prop} {R : List Asrt} {x : α} {l : List α}
def bunF (f : α → Asrt) (l : List α) : Nat → Prop := fun k=>∃ x ∈ l,(f x).foot k
def bun (f : α → Asrt) (l : List α) : Asrt := .ex (bunF f l) (fun w=>(∀ x ∈ l,(f x).holds w) ∧ (l.Pairwise fun x y=>∀ k,(f x).foot k → ¬ (f y).foot k) ∧ ∀ k,bunF f l k → k < w.heap.size)
theorem bun_dep (hd : ∀ x,(f x).dep) (l : List α) : (bun f l).dep := by
 intro w w' hk ⟨h1,h2,h3⟩
 refine ⟨fun x hx=>hd x w w' (fun k hf=>hk k ⟨x,hx,hf⟩) (h1 x hx),h2,fun k hf=>lt_of_same (hk k hf) (h3 k hf)⟩
theorem St.bun_nil (hd : ∀ x,(f x).dep) (h : St w0 F R w) : St w0 F (bun f [] :: R) w :=
 h.push (Grew.refl w) ⟨fun _ h=>(by cases h),List.Pairwise.nil,fun k ⟨_,hx,_⟩=>(by cases hx)⟩ (fun k ⟨_,hx,_⟩=>(by cases hx)) (bun_dep hd [])
theorem St.bun_snoc (hd : ∀ x,(f x).dep) (he : ∀ x,(f x).excl = true) (h : St w0 F (f x :: bun f l :: R) w) : St w0 F (bun f (l ++ [x]) :: R) w := by
 have hb : (bun f l).holds w := h.g1
 obtain ⟨b1,b2,b3⟩ := hb
 have hdis := (List.pairwise_cons.1 h.dis).1 (bun f l) (by simp) (by simp [he])
 refine h.merge (he x) rfl ⟨?_,?_,?_⟩ ?_ (bun_dep hd _)
 ·intro y hy
  rcases List.mem_append.1 hy with hy | hy
  ·exact b1 y hy
  ·have : y = x := by simpa using hy
   subst this;exact h.g0
 ·refine List.pairwise_append.2 ⟨b2,List.pairwise_singleton _ _,fun a ha b hb k hk hk2=>?_⟩
  have : b = x := by simpa using hb
  subst this
  exact hdis k hk2 ⟨a,ha,hk⟩
 ·rintro k ⟨y,hy,hk⟩
  rcases List.mem_append.1 hy with hy | hy
  ·exact b3 k ⟨y,hy,hk⟩
  ·have : y = x := by simpa using hy
   subst this;exact h.live _ (mH _ _) k hk
 ·rintro k ⟨y,hy,hk⟩
  rcases List.mem_append.1 hy with hy | hy
  ·exact .inr ⟨y,hy,hk⟩
  ·have : y = x := by simpa using hy
   subst this;exact .inl hk
theorem St.bun_head (hd : ∀ x,(f x).dep) (h : St w0 F (bun f (x :: l) :: R) w) : St w0 F (f x :: bun f l :: R) w := by
 have hb : (bun f (x :: l)).holds w := h.g0
 obtain ⟨b1,b2,b3⟩ := hb
 obtain ⟨b4,b5⟩ := List.pairwise_cons.1 b2
 refine h.split rfl (b1 x List.mem_cons_self) ⟨fun y hy=>b1 y (List.mem_cons_of_mem _ hy),b5,fun k ⟨y,hy,hk⟩=>b3 k ⟨y,List.mem_cons_of_mem _ hy,hk⟩⟩ (fun k hk=>⟨x,List.mem_cons_self,hk⟩) (fun k ⟨y,hy,hk⟩=>⟨y,List.mem_cons_of_mem _ hy,hk⟩) (fun k hk ⟨y,hy,hk2⟩=>b4 y hy k hk hk2) (hd x) (bun_dep hd l)
end
def Finds {κ : Type} (P : Program) (kt : TypeId) (enc : κ → Value) (l : List (κ × Value)) (es : List MapEntry) (a : κ) (w : World) : Prop :=
 ((Instr.findKey kt (enc a) es).run P w = .ok none w ∧ ∀ p ∈ l,p.1 ≠ a) ∨ ∃ j u,(Instr.findKey kt (enc a) es).run P w = .ok (some (j,u)) w ∧ l[j]? = some (a,u)
class KMap (P : Program) (T : TypeId) {κ : Type} (enc : κ → Value) (ok : κ → Prop) (z : outParam Value) : Prop where
 ex : ∃ kt et,P.underlying T = some (.map kt et) ∧ (∀ em a w,ok a → (Instr.checkKey em 10000 kt (enc a)).run P w = .ok () w) ∧
  (∀ (l : List (κ × Value)) (es : List MapEntry) a w,es.map (fun e=>(e.key,e.val)) = l.map (fun p=>(enc p.1,p.2)) → (∀ p ∈ l,ok p.1) → ok a → Finds P kt enc l es a w) ∧ ∀ w,(zeroValue et).run P w = .ok z w
def kmH {κ : Type} (enc : κ → Value) (b : Nat) (l : List (κ × Value)) (w : World) : Prop := ∃ es clock,w.heap[b]? = some (.map es clock) ∧ es.toList.map (fun e=>(e.key,e.val)) = l.map (fun p=>(enc p.1,p.2))
section
variable {κ : Type} {enc : κ → Value} {ok : κ → Prop}
variable {P : Program} {f : Frm} {T T' : TypeId} {x y z : Operand} {v zv : Value} {w0 : World} {F : Nat → Prop} {L L' : List Asrt}
variable {C : World → Prop} {n : Nat} {ops rest : List Oper} {Q : Post} {p : String} {af : Array Edge} {d : Nat}
theorem Ev.lookup_no {b : Nat} {l : List (κ × Value)} {a : κ} [h : KMap P T enc ok zv] (hx : f.ev x = .map (some b)) (hy : f.ev y = enc a) (hm : ∀ w,C w → kmH enc b l w) (hl : ∀ p ∈ l,ok p.1) (ha : ok a) (hno : ∀ p ∈ l,p.1 ≠ a) :
  Ev P C f (.lookup T x y true) T' (.tuple [zv,.bool false].toArray) := fun w hw d p af g=>by
 obtain ⟨kt,et,ht,K,hf,hz⟩ := h.ex
 obtain ⟨es,clock,hb,he⟩ : kmH enc b l w := hm w hw
 have hlx := fun em=>K em a w ha
 rcases hf l es.toList a w he hl ha with ⟨h1,_⟩ | ⟨j,u,h1,h2⟩
 ·simp [execOp,hx,hy,Instr.lookup,run_underlying ht,MapKept.run_getObj_map hb,hlx,h1,hz,Result.andThen]
 ·exact absurd rfl (hno _ (List.mem_of_getElem? h2))
theorem Ev.lookup_yes {b : Nat} {l : List (κ × Value)} {a : κ} {u : Value} [h : KMap P T enc ok zv] (hx : f.ev x = .map (some b)) (hy : f.ev y = enc a) (hm : ∀ w,C w → kmH enc b l w) (hl : ∀ p ∈ l,ok p.1) (hd : (l.map Prod.fst).Nodup) (ha : (a,u) ∈ l) :
  Ev P C f (.lookup T x y true) T' (.tuple [u,.bool true].toArray) := fun w hw d p af g=>by
 obtain ⟨kt,et,ht,K,hf,hz⟩ := h.ex
 obtain ⟨es,clock,hb,he⟩ : kmH enc b l w := hm w hw
 have hlx := fun em=>K em a w (hl _ ha)
 rcases hf l es.toList a w he hl (hl _ ha) with ⟨h1,h2⟩ | ⟨j,u',h1,h2⟩
 ·exact absurd rfl (h2 _ ha)
 ·have hu : u' = u := by
   obtain ⟨i,hi⟩ := List.getElem?_of_mem ha
   have e1 : (l.map Prod.fst)[i]? = some a := by rw [List.getElem?_map,hi];rfl
   have e2 : (l.map Prod.fst)[j]? = some a := by rw [List.getElem?_map,h2];rfl
   have hi2 := (List.getElem?_eq_some_iff.1 e1).1
   have := (List.getElem?_inj hi2 hd).1 (e1.trans e2.symm)
   subst this
   rw [hi] at h2
   simpa using h2.symm
  subst hu
  simp [execOp,hx,hy,Instr.lookup,run_underlying ht,MapKept.run_getObj_map hb,hlx,h1,Result.andThen]
end
end Go.Hb
