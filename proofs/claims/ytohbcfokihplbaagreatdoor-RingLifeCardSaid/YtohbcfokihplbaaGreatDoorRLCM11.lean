/-
  A node of a ring: it goes over to another configuration, and stays orderly: the plain law. Conditions: none; nothing here is the program.
-/
import Derived.Test.YtohbcfokihplbaaGreatDoorRLCM10
set_option linter.unusedSimpArgs false
set_option linter.unusedVariables false
namespace Go.Proofs.YtohbcfokihplbaaGreatDoor
open Go.Hb
attribute [local irreducible] LR CW At Ev thn blk finK noG again CallsTo DW QL dnext TW DP
set_option maxRecDepth 100000
structure MOk (m : Msg) : Prop where
 st : 0 ≤ m.stamp ∧ m.stamp ≤ maxN
 len : m.body.length ≤ 140737488351232
def stN (S : Rg) (t : Tk) (m : Msg) (more : Int) : Int := if fromZ m then max (max t.stamp S.clock) m.stamp + more else max (max t.stamp S.clock) m.stamp
def datN (S : Rg) (t : Tk) (m : Msg) (more : Int) : Dat := ⟨t.r1,t.r2,t.seq + 1,S.node,stN S t m more,m⟩
def tkN (S : Rg) (t : Tk) (m : Msg) (more : Int) : Tk := { t with seq := t.seq + 1,stamp := stN S t m more }
def stepn (S : Rg) (t : Tk) (m : Msg) (r : List Msg) : Rg := ({ ({ S with wq := r } : Rg).raise (stN S t m 1) with now := S.now.put (datN S t m 1) } : Rg).send (dataP (datN S t m 1))
def stepx (S : Rg) (t : Tk) (m : Msg) (r : List Msg) : Rg := ({ ({ S with again := some r } : Rg).raise (stN S t m 0) with next := S.next.put (datN S t m 0) } : Rg).send (dataP (datN S t m 0))
theorem fill_n {S : Rg} {t : Tk} {m : Msg} {r : List Msg} (n : Nat) (hs : S.state = 3) (hq : S.wq = m :: r) (h1 : ¬ t.seq = maxN) (h2 : ¬ max t.stamp S.clock = maxN) : Rg.fill (n + 1) S t = Rg.fill n (stepn S t m r) (tkN S t m 1) := by
 conv=>lhs;unfold Rg.fill
 have hm : S.more = 1 := by unfold Rg.more;rw [if_pos hs]
 have ht : S.take1 = some (m,{ S with wq := r }) := by unfold Rg.take1;rw [if_pos hs,hq]
 rw [if_neg (by rw [decide_eq_false h1,decide_eq_false h2];simp),ht,hm]
 have hs2 : ¬ S.state = 2 := by rw [hs];decide
 unfold stepn tkN datN stN Rg.setWay Rg.way
 dsimp only
 rw [if_neg (show ¬ (({ S with wq := r } : Rg).raise _).state = 2 from hs2),if_neg (show ¬ (({ S with wq := r } : Rg).raise _).state = 2 from hs2)]
 rfl
theorem fill_n0 {S : Rg} {t : Tk} (n : Nat) (hs : S.state = 3) (hq : S.wq = []) : Rg.fill n S t = (S,t) := by
 cases n with
 | zero=>rfl
 | succ n=>
  unfold Rg.fill
  have ht : S.take1 = none := by unfold Rg.take1;rw [if_pos hs,hq]
  rw [ht]
  split <;> rfl
theorem fill_stop {S : Rg} {t : Tk} (n : Nat) (h : t.seq = maxN ∨ (0 < S.more ∧ max t.stamp S.clock = maxN)) : Rg.fill n S t = (S,t) := by
 cases n with
 | zero=>rfl
 | succ n=>
  unfold Rg.fill
  rw [if_pos]
  rw [Bool.or_eq_true,Bool.and_eq_true]
  simp only [decide_eq_true_eq]
  exact h
theorem fill_x {S : Rg} {t : Tk} {m : Msg} {r : List Msg} (n : Nat) (hs : S.state = 2) (hq : S.again = some (m :: r)) (h1 : ¬ t.seq = maxN) : Rg.fill (n + 1) S t = Rg.fill n (stepx S t m r) (tkN S t m 0) := by
 conv=>lhs;unfold Rg.fill
 have hs3 : ¬ S.state = 3 := by rw [hs];decide
 have hm : S.more = 0 := by unfold Rg.more;rw [if_neg hs3]
 have ht : S.take1 = some (m,{ S with again := some r }) := by unfold Rg.take1;rw [if_neg hs3,hq]
 rw [if_neg (by rw [decide_eq_false h1,hm];simp),ht,hm]
 unfold stepx tkN datN stN Rg.setWay Rg.way
 dsimp only
 rw [if_pos (show (({ S with again := some r } : Rg).raise _).state = 2 from hs),if_pos (show (({ S with again := some r } : Rg).raise _).state = 2 from hs)]
 rfl
theorem fill_x0 {S : Rg} {t : Tk} (n : Nat) (hs : S.state = 2) (hq : S.again = some []) : Rg.fill n S t = (S,t) := by
 cases n with
 | zero=>rfl
 | succ n=>
  unfold Rg.fill
  have hs3 : ¬ S.state = 3 := by rw [hs];decide
  have ht : S.take1 = none := by unfold Rg.take1;rw [if_neg hs3,hq]
  rw [ht]
  split <;> rfl
structure FOk (S : Rg) (t : Tk) (D : List Dat) (L : List Msg) : Prop where
 sq : 0 ≤ t.seq ∧ t.seq ≤ maxN
 sp : 0 ≤ t.stamp ∧ t.stamp ≤ maxN
 ck : 0 ≤ S.clock ∧ S.clock ≤ maxN
 ms : ∀ m ∈ L,MOk m
 D : WOk D
theorem put_dat {w : Way} {D : List Dat} {h : Int} {d : Dat} (hw : w.dat = some (D,h)) : (w.put d).dat = some (wpD D d,wpH D h d) := by
 unfold Way.put
 dsimp only
 rw [hw]
 rfl
theorem way_D {w : Way} {D : List Dat} {h : Int} (hw : w.dat = some (D,h)) : w.D = D ∧ w.high = h ∧ w.aru = aruF D := by
 unfold Way.aru Way.D Way.high
 rw [hw]
 exact ⟨rfl,rfl,rfl⟩
theorem FOk.step {S : Rg} {t : Tk} {D : List Dat} {m : Msg} {r : List Msg} {more : Int} (h : FOk S t D (m :: r)) (hm : more = 0 ∨ (more = 1 ∧ ¬ max t.stamp S.clock = maxN)) (h1 : ¬ t.seq = maxN) :
  0 ≤ stN S t m more ∧ stN S t m more ≤ maxN := by
 have k1 := h.sp
 have k2 := h.ck
 have k3 := (h.ms m (List.mem_cons_self ..)).st
 unfold stN fromZ
 split
 ·rename_i hz
  rw [decide_eq_true_eq] at hz
  rw [hz.1]
  unfold maxN at *
  omega
 ·unfold maxN at *
  omega
theorem allow_bd (n s a : Int) : 0 ≤ allow n s a ∧ allow n s a ≤ 4 := by
 unfold allow
 omega
structure Fil where
 i : Nat
 S : Rg
 t : Tk
 Z : RA
section
variable {w0 : World} {F : Nat → Prop} {R : List Asrt}
set_option maxHeartbeats 8000000 in
theorem r179n (b bt : Nat) (Z : RA) (S : Rg) (t : Tk) (a : Option Addr) (c : Nat) (w : World) (h : St w0 F (.own bt (.cells (t.cells a c).toArray 54 (0,0)) :: rgL b Z S R) w) (hZ : RepA Z S) (hs : S.state = 3) (hf : FOk S t S.now.D S.wq) (ha : 0 ≤ t.aru ∧ t.aru ≤ maxN) (hwl : S.wq.length ≤ 1000000) (ho : S.op.length ≤ 900000) :
  CallsTo Tryz.prog 179 [.pointer (some ⟨b,0,none⟩),.pointer (some ⟨b,6,none⟩),.pointer (some ⟨bt,0,none⟩)] w fun v w'=>∃ Z',RepA Z' (Rg.fill (allow S.wq.length t.seq t.aru).toNat S t).1 ∧ St w0 F (.own bt (.cells ((Rg.fill (allow S.wq.length t.seq t.aru).toNat S t).2.cells a c).toArray 54 (0,0)) :: rgL b Z' (Rg.fill (allow S.wq.length t.seq t.aru).toNat S t).1 R) w' := by
 have hsq := hf.sq
 have hal := allow_bd (S.wq.length : Int) t.seq t.aru
 refine go_inS (n := 118) h Tryz.func179 rfl rfl ?_
 repeat'(first|refine gz ?_|refine gy fun _=>?_|(apply LR.call;(·exact rfl);(intro w1 h1;refine CallsTo.mono (r239n b Z S w1 (rg_mid [_] h1) hZ hs) ?_;rintro v w2 ⟨rfl,hw2⟩;refine LR.back (C := St w0 F (.own bt (.cells (t.cells a c).toArray 54 (0,0)) :: rgL b Z S R)) (front hw2 14 rfl rfl) ?_;clear hw2 h1))|(apply kq;(·exact rfl);(·intro w1 h1;exact CallsTo.q (show CallsTo Tryz.prog 240 [.int .i64 (S.wq.length : Int),.int .i64 t.seq,.int .i64 t.aru] w1 _ from r240 (S.wq.length : Int) t.seq t.aru w1 ⟨by omega,by omega⟩ hsq ha) h1))|fail)
 rename_i b6
 obtain ⟨N,hN⟩ : ∃ N,(allow S.wq.length t.seq t.aru).toNat = N := ⟨_,rfl⟩
 have hNi : allow (S.wq.length : Int) t.seq t.aru = (N : Int) := by omega
 rw [hN,hNi]
 have hN4 : N ≤ 4 := by omega
 generalize hRR : Rg.fill N S t = RR at *
 apply CW.loop [7,8,9,10,24,25,26,27,28,29,30,31,32,33,34,35,36,37,38,39,40,41,42,43,44,45,46,47,48,49,50,51,52,53,54,55,56,57,58,59,60,61,62,63,64,65,66,67,68,69,70,71,72,73,74,75,76,77,78,79,80,81,82,83,84,85,86,87,88,89,90,91,92,93,94,95,96,97,98,99,100,101,102,103,104,105,106,107,108,109,110,111,112,113,114,115,116,117] (fun s : Fil=>s.i ≤ N ∧ Rg.fill (N - s.i) s.S s.t = RR ∧ RepA s.Z s.S ∧ FOk s.S s.t s.S.now.D s.S.wq ∧ s.S.state = 3 ∧ s.Z.bq = Z.bq ∧ s.S.op.length ≤ 900000 + s.i) (fun s=>[(24,.int .i64 (s.i : Int))])
  (fun s=>St w0 F (.own b6 (.cells (srcV (S.wq.length : Int) 305 Z.bq 1).toArray 272 (0,0)) :: .own bt (.cells (s.t.cells a c).toArray 54 (0,0)) :: rgL b s.Z s.S R)) (fun s=>N - s.i)
 ·exact fun w' hw'=>⟨⟨0,S,t,Z⟩,⟨Nat.zero_le _,hRR,hZ,hf,hs,rfl,ho⟩,⟨rfl,trivial⟩,hw'⟩
 clear hZ hf hs ho hRR hwl h hsq ha hal hNi hN
 rintro ⟨i,S,t,Z1⟩ g ⟨hi,hfl,hZ,hf,hs,hbq,ho⟩
 simp only at hi hfl hZ hf hs hbq ho ⊢
 rw [← hbq]
 have hop := hZ.op_len
 have eD := now_D hZ
 have f1 := hf.sq
 have f2 := hf.sp
 have f3 := hf.ck
 by_cases hlt : i < N
 rotate_left
 ·have hie : i = N := by omega
  subst hie
  rw [Nat.sub_self] at hfl
  have e : RR = (S,t) := hfl.symm
  rw [e]
  repeat'(first|refine gz ?_|(refine gs ?_ ?_;all_goals(intro hc;try simp only[hcs]at hc;try exact abz)))
  apply end0
  ·exact rfl
  intro w' hS
  exact ⟨Z1,hZ,hS.sub subN⟩
 have hNi : N - i = (N - (i + 1)) + 1 := by omega
 by_cases hstop : t.seq = maxN ∨ max t.stamp S.clock = maxN
 ·have e : RR = (S,t) := by
   rw [← hfl]
   exact fill_stop _ (hstop.imp id fun h9=>⟨by unfold Rg.more;rw [if_pos hs];decide,h9⟩)
  rw [e]
  unfold maxN at hstop
  repeat'(first|refine gz ?_|(apply LR.ev;(·apply Ev.maxm;(·exact rfl);(·exact rfl));(·exact rfl))|(refine gs ?_ ?_;all_goals(intro hc;try simp only[hcs]at hc;try exact abz)))
  all_goals (
   first
    | (exfalso;omega)
    | (exfalso;rcases hstop with h9 | h9 <;> contradiction)
    | (apply ret0
       ·exact rfl
       intro w' hS
       exact ⟨Z1,hZ,hS.sub subN⟩))
 have hst1 : ¬ t.seq = 9007199254740991 := fun e=>hstop (.inl e)
 have hst2 : ¬ max t.stamp S.clock = 9007199254740991 := fun e=>hstop (.inr e)
 cases hqL : Z1.qL with
 | nil=>
  have hwq : S.wq = [] := by rw [← hZ.ql,hqL];rfl
  have e : RR = (S,t) := by rw [← hfl];exact fill_n0 _ hs hwq
  rw [e]
  repeat'(first|refine gz ?_|refine gy fun _=>?_|(apply LR.ev;(·apply Ev.maxm;(·exact rfl);(·exact rfl));(·exact rfl))|(apply LR.call_pre (g := 305) (pre := [.pointer (some ⟨Z1.bq,0,none⟩)]);(·exact rfl);(·exact rfl);(intro w1 h1;refine CallsTo.mono (show CallsTo Tryz.prog 305 [.pointer (some ⟨Z1.bq,0,none⟩)] w1 _ from c44e Z1.bq Z1.fq Z1.slots w1 (by have := q_rd (h1.holds (qO Z1.bq Z1.fq Z1.slots Z1.qL) memZ);rw [hqL] at this;exact this)) ?_;rintro v w2 ⟨rfl,hg⟩;refine LR.back (h1.grew hg) ?_;clear hg h1))|(refine gs ?_ ?_;all_goals(intro hc;try simp only[hcs]at hc;try exact abz)))
  apply ret0
  ·exact rfl
  intro w' hS
  exact ⟨Z1,hZ,hS.sub subN⟩
 | cons x r=>
  have hwq : S.wq = x.m :: r.map MsgA.m := by rw [← hZ.ql,hqL];rfl
  have hms := hf.ms
  rw [hwq] at hms
  have hmx := hms x.m (List.mem_cons_self ..)
  have hfs : FOk S t S.now.D (x.m :: r.map MsgA.m) := ⟨f1,f2,f3,hms,hf.D⟩
  have hstb := hfs.step (more := 1) (.inr ⟨rfl,fun e=>hstop (.inr e)⟩) (fun e=>hstop (.inl e))
  have hx1 := hmx.st
  have hes : WOk (dats Z1.es) := by rw [← eD];exact hf.D
  rw [hNi,fill_n _ hs hwq (fun e=>hstop (.inl e)) (fun e=>hstop (.inr e))] at hfl
  have hsteq : stN S t x.m 1 = if fromZ x.m then max (max t.stamp S.clock) x.m.stamp + 1 else max (max t.stamp S.clock) x.m.stamp := rfl
  obtain ⟨st,hst⟩ : ∃ st,stN S t x.m 1 = st := ⟨_,rfl⟩
  rw [hst] at hstb hsteq
  unfold maxN at f1 f2 f3 hx1 hstb
  repeat'(first|(apply Go.Hb.kK;(iterate 4 exact rfl);intro bs)|refine gz ?_|refine gy fun _=>?_|(apply LR.ev;(·first | exact Ev.max3 rfl rfl rfl | exact Ev.maxm rfl rfl);(·exact rfl))|(apply addX;(iterate 2 exact rfl);(iterate 2(first|omega));exact rfl)|(apply LR.call_pre (g := 305) (pre := [.pointer (some ⟨Z1.bq,0,none⟩)]);(·exact rfl);(·exact rfl);(intro w1 h1;refine CallsTo.mono (show CallsTo Tryz.prog 305 [.pointer (some ⟨Z1.bq,0,none⟩)] w1 _ from q_take Z1.bq Z1.fq Z1.slots r x w1 (by rw [← hqL];exact h1.holds (qO Z1.bq Z1.fq Z1.slots Z1.qL) memZ) (by rw [← hqL];exact hZ.q)) ?_;rintro v w2 ⟨rfl,sl,hq2,st2⟩;rw [← hqL] at st2;refine LR.back (St.did1 (a := qO Z1.bq Z1.fq Z1.slots Z1.qL) (a' := qO Z1.bq ((Z1.fq + 1) % 32) sl r) h1 selZ rfl rfl rfl st2) ?_;clear st2 h1))|(refine gs ?_ ?_;all_goals(intro hc;try simp only[hcs]at hc;try exact abz)))
  all_goals (
   first
    | rw [show max (max t.stamp S.clock) x.m.stamp + 1 = st from by rw [hsteq,if_pos (by unfold fromZ;rw [decide_eq_true_eq];assumption)]]
    | rw [show max (max t.stamp S.clock) x.m.stamp = st from by rw [hsteq,if_neg (by unfold fromZ;rw [decide_eq_true_eq];assumption)]])
  all_goals (
   subst hst
   apply LR.call
   ·exact rfl
   intro w1 h1
   have j : St w0 F (rgL b { Z1 with fq := (Z1.fq + 1) % 32,slots := sl,qL := r } { S with wq := r.map MsgA.m } (_ :: _ :: _ :: _ :: _ :: R)) w1 := rg_mid [_,_,_,_,_] h1
   refine CallsTo.mono (r57 b _ { S with wq := r.map MsgA.m } bs 0 1 [stN S t x.m 1] w1 j (fun w' hw'=>hw'.rd_of_blk (mH _ _)) (by simp)) ?_
   intro v w2 hw2
   refine LR.back (C := St w0 F (rgL b { Z1 with fq := (Z1.fq + 1) % 32,slots := sl,qL := r } (({ S with wq := r.map MsgA.m } : Rg).raise (stN S t x.m 1)) (_ :: _ :: _ :: _ :: _ :: R))) hw2 ?_
   clear hw2 j h1
   repeat'(first|(apply CW.reg_sinkC 16;(·exact rfl);(·decide +kernel))|refine gz ?_)
   all_goals (
    apply DW.quiet [0,1,2,3,4,5,6,7,8,9,10,11,12,13,14]
    ·decide +kernel
    ·exact stZ
    repeat'(first|refine gq ?_|apply QL.nil)
    all_goals (show DW _ _ _ _ _ _ _ _))
   all_goals (
    apply DW.loud 15
    ·exact rfl
    ·decide +kernel
    repeat'(first|refine gw ?_|refine gy fun _=>?_)
    all_goals (refine ats ?_))
   all_goals (apply DW.done;(·decide +kernel))
   all_goals apply At.sink
   repeat'(first|(apply CW.reg_sinkC 5;(·exact rfl);(·decide +kernel))|refine gz ?_)
   all_goals (
    apply DW.quiet [0,1,2,3,4]
    ·decide +kernel
    ·exact stZ
    repeat'(first|refine gq ?_|apply QL.nil)
    all_goals (show DW _ _ _ _ _ _ _ _))
   all_goals (apply DW.done;(·decide +kernel))
   all_goals apply At.sink
   apply LR.call
   ·exact rfl
   intro w1 h1
   have hap := St.apart (x := wO Z1.bw Z1.bm Z1.es S.now.aru S.now.high) (y := x.body) (h1.sub (L' := [wO Z1.bw Z1.bm Z1.es S.now.aru S.now.high,x.body]) subN) memZ rfl
   have hbo := h1.holds x.body memZ
   have hbo2 : w1.ownsRow 0 5 1 (.slice x.a x.m.body.length x.c) x.m.body.length (bv x.m.body) := hbo
   refine CallsTo.mono (show CallsTo Tryz.prog 123 [.pointer (some ⟨Z1.bw,0,none⟩),(datN S t x.m 1).val x.a x.c] w1 _ from t29 Z1.bw Z1.bm Z1.es S.now.aru S.now.high (datN S t x.m 1) x.a x.c w1 (h1.holds (wO Z1.bw Z1.bm Z1.es S.now.aru S.now.high) memZ) hes (by have h9 := aruF_is hes;rw [← eD] at h9 ⊢;exact h9) (ownsRow_rd hbo2) (body_nz (x := ⟨datN S t x.m 1,x.a,x.c⟩) hbo) (fun k hk hk2=>hap k hk2 (St.osl_foot hk)) hmx.len) ?_
   rintro v w2 ⟨es2,ar2,rfl,he2,har,st3⟩
   refine LR.back (h1.did (a := wO Z1.bw Z1.bm Z1.es S.now.aru S.now.high) selZ rfl st3 (wO_dep _ _ _ _ _)) ?_
   clear st3 h1 hbo2 hbo hap
   repeat'(first|(apply Go.Hb.kK;(iterate 4 exact rfl);intro bs2)|refine gz ?_)
   apply LR.call
   ·exact rfl
   intro w1 h1
   have hDn := wpD_ok (d := datN S t x.m 1) hes hmx.len
   have ear : ar2 = aruF (wpD (dats Z1.es) (datN S t x.m 1)) := har.uniq (aruF_is hDn)
   have hpd := put_dat (d := datN S t x.m 1) hZ.nd
   obtain ⟨eDn,eh,ea⟩ := way_D hpd
   rw [ear,← ea,← eh] at h1
   have hZ3 : RepA { Z1 with fq := (Z1.fq + 1) % 32,slots := sl,qL := r,es := es2 } { ({ S with wq := r.map MsgA.m } : Rg).raise (stN S t x.m 1) with now := S.now.put (datN S t x.m 1) } :=
    ⟨hq2,rfl,by show (S.now.put (datN S t x.m 1)).dat = some (dats es2,(S.now.put (datN S t x.m 1)).high);rw [hpd,he2,eh],hZ.gp,hZ.np,hZ.ap,hZ.pk,hZ.ev⟩
   have j : St w0 F (rgL b { Z1 with fq := (Z1.fq + 1) % 32,slots := sl,qL := r,es := es2 } { ({ S with wq := r.map MsgA.m } : Rg).raise (stN S t x.m 1) with now := S.now.put (datN S t x.m 1) } (_ :: _ :: _ :: _ :: _ :: _ :: _ :: R)) w1 := rg_mid [_,_] h1
   have j2 := front j 18 rfl rfl
   refine CallsTo.mono (r118 b _ _ (some ⟨bs2,0,none⟩) 1 ⟨dataP (datN S t x.m 1),datAd x.a x.c⟩ w1 (St.pkD ⟨dataP (datN S t x.m 1),datAd x.a x.c⟩ j2 ⟨rfl,rfl,rfl⟩ ⟨rfl,rfl,rfl⟩) (fun w' hw'=>hw'.rd_of_blk (mH _ _)) (by simp) (by show Z1.pk.length ≤ _;omega)) ?_
   rintro v w2 ⟨pa,pc,hw2⟩
   refine LR.back hw2 ?_
   clear hw2 j2 j h1
   have hZ4 := hZ3.sent pa pc ⟨dataP (datN S t x.m 1),datAd x.a x.c⟩
   repeat'(first|refine gz ?_|(apply addX;(iterate 2 exact rfl);(iterate 2(first|omega));exact rfl))
   refine At.again (⟨i + 1,stepn S t x.m (r.map MsgA.m),tkN S t x.m 1,_⟩ : Fil) ⟨by show i + 1 ≤ N;omega,hfl,hZ4,⟨?_,?_,?_,fun m hm=>hms m (List.mem_cons_of_mem _ hm),?_⟩,hs,rfl,?_⟩ ?_ ⟨rfl,trivial⟩ (fun w' hw'=>?_) (by show N - (i + 1) < N - i;omega)
   ·show 0 ≤ t.seq + 1 ∧ t.seq + 1 ≤ maxN
    unfold maxN
    omega
   ·exact hstb
   ·show 0 ≤ max S.clock (stN S t x.m 1) ∧ max S.clock (stN S t x.m 1) ≤ maxN
    unfold maxN
    omega
   ·show WOk (S.now.put (datN S t x.m 1)).D
    rw [eDn]
    exact hDn
   ·show (S.op ++ [_]).length ≤ 900000 + (i + 1)
    rw [List.length_append]
    show S.op.length + 1 ≤ _
    omega
   ·exact outZ
   ·exact (front (front hw' 19 rfl rfl) 19 rfl rfl).sub subN)
structure FilX where
 i : Nat
 S : Rg
 t : Tk
 Y : RA
 p : Nat × Nat × List DaA
 q : Nat × Option Addr × Nat × List MsA
set_option maxHeartbeats 8000000 in
theorem r179x (b bt : Nat) (Y : RA) (p : Nat × Nat × List DaA) (q : Nat × Option Addr × Nat × List MsA) (S : Rg) (t : Tk) (a : Option Addr) (c : Nat) (w : World) (h : St w0 F (.own bt (.cells (t.cells a c).toArray 54 (0,0)) :: rgL b { Y with np := some p,ap := some q } S R) w) (hZ : RepA { Y with np := some p,ap := some q } S) (hs : S.state = 2) (hf : FOk S t (dats p.2.2) (q.2.2.2.map MsA.m)) (ha : 0 ≤ t.aru ∧ t.aru ≤ maxN) (hwl : q.2.2.2.length ≤ 1000000) (ho : S.op.length ≤ 900000) :
  CallsTo Tryz.prog 179 [.pointer (some ⟨b,0,none⟩),.pointer (some ⟨b,19,none⟩),.pointer (some ⟨bt,0,none⟩)] w fun v w'=>∃ Z',RepA Z' (Rg.fill (allow q.2.2.2.length t.seq t.aru).toNat S t).1 ∧ St w0 F (.own bt (.cells ((Rg.fill (allow q.2.2.2.length t.seq t.aru).toNat S t).2.cells a c).toArray 54 (0,0)) :: rgL b Z' (Rg.fill (allow q.2.2.2.length t.seq t.aru).toNat S t).1 R) w' := by
 have hsq := hf.sq
 have hal := allow_bd (q.2.2.2.length : Int) t.seq t.aru
 refine go_inS (n := 118) h Tryz.func179 rfl rfl ?_
 repeat'(first|refine gz ?_|refine gy fun _=>?_|(apply LR.call;(·exact rfl);(intro w1 h1;refine CallsTo.mono (r239x b { Y with np := some p } q S w1 (rg_mid [_] h1) hs) ?_;rintro v w2 ⟨rfl,hw2⟩;refine LR.back (C := St w0 F (.own bt (.cells (t.cells a c).toArray 54 (0,0)) :: rgL b { Y with np := some p,ap := some q } S R)) (front hw2 14 rfl rfl) ?_;clear hw2 h1))|(apply kq;(·exact rfl);(·intro w1 h1;exact CallsTo.q (show CallsTo Tryz.prog 240 [.int .i64 (q.2.2.2.length : Int),.int .i64 t.seq,.int .i64 t.aru] w1 _ from r240 (q.2.2.2.length : Int) t.seq t.aru w1 ⟨by omega,by omega⟩ hsq ha) h1))|fail)
 rename_i b6
 obtain ⟨N,hN⟩ : ∃ N,(allow q.2.2.2.length t.seq t.aru).toNat = N := ⟨_,rfl⟩
 have hNi : allow (q.2.2.2.length : Int) t.seq t.aru = (N : Int) := by omega
 rw [hN,hNi]
 have hN4 : N ≤ 4 := by omega
 generalize hRR : Rg.fill N S t = RR at *
 apply CW.loop [7,8,9,10,24,25,26,27,28,29,30,31,32,33,34,35,36,37,38,39,40,41,42,43,44,45,46,47,48,49,50,51,52,53,54,55,56,57,58,59,60,61,62,63,64,65,66,67,68,69,70,71,72,73,74,75,76,77,78,79,80,81,82,83,84,85,86,87,88,89,90,91,92,93,94,95,96,97,98,99,100,101,102,103,104,105,106,107,108,109,110,111,112,113,114,115,116,117] (fun s : FilX=>s.i ≤ N ∧ Rg.fill (N - s.i) s.S s.t = RR ∧ RepA { s.Y with np := some s.p,ap := some s.q } s.S ∧ FOk s.S s.t (dats s.p.2.2) (s.q.2.2.2.map MsA.m) ∧ s.S.state = 2 ∧ s.q.1 = q.1 ∧ s.S.op.length ≤ 900000 + s.i) (fun s=>[(24,.int .i64 (s.i : Int))])
  (fun s=>St w0 F (.own b6 (.cells (srcV (q.2.2.2.length : Int) 306 q.1 0).toArray 272 (0,0)) :: .own bt (.cells (s.t.cells a c).toArray 54 (0,0)) :: rgL b { s.Y with np := some s.p,ap := some s.q } s.S R)) (fun s=>N - s.i)
 ·exact fun w' hw'=>⟨⟨0,S,t,Y,p,q⟩,⟨Nat.zero_le _,hRR,hZ,hf,hs,rfl,ho⟩,⟨rfl,trivial⟩,hw'⟩
 clear hZ hf hs ho hRR hwl h hsq ha hal hNi hN
 rintro ⟨i,S,t,Y1,p1,⟨br,ar,cr,ms⟩⟩ g ⟨hi,hfl,hZ,hf,hs,hbq,ho⟩
 simp only at hi hfl hZ hf hs hbq ho ⊢
 rw [← hbq]
 have hop : Y1.pk.length = S.op.length := hZ.op_len
 have hnd : S.next.dat = some (dats p1.2.2,S.next.high) := hZ.np
 have f1 := hf.sq
 have f2 := hf.sp
 have f3 := hf.ck
 by_cases hlt : i < N
 rotate_left
 ·have hie : i = N := by omega
  subst hie
  rw [Nat.sub_self] at hfl
  have e : RR = (S,t) := hfl.symm
  rw [e]
  repeat'(first|refine gz ?_|(refine gs ?_ ?_;all_goals(intro hc;try simp only[hcs]at hc;try exact abz)))
  apply end0
  ·exact rfl
  intro w' hS
  exact ⟨_,hZ,hS.sub subN⟩
 have hNi : N - i = (N - (i + 1)) + 1 := by omega
 by_cases hstop : t.seq = maxN
 ·have e : RR = (S,t) := by
   rw [← hfl]
   exact fill_stop _ (.inl hstop)
  rw [e]
  unfold maxN at hstop
  repeat'(first|refine gz ?_|(refine gs ?_ ?_;all_goals(intro hc;try simp only[hcs]at hc;try exact abz)))
  all_goals (
   first
    | (exfalso;omega)
    | (exfalso;contradiction)
    | (apply ret0
       ·exact rfl
       intro w' hS
       exact ⟨_,hZ,hS.sub subN⟩))
 have hst1 : ¬ t.seq = 9007199254740991 := hstop
 cases ms with
 | nil=>
  have hwq : S.again = some [] := hZ.ap
  have e : RR = (S,t) := by rw [← hfl];exact fill_x0 _ hs hwq
  rw [e]
  repeat'(first|refine gz ?_|refine gy fun _=>?_|(apply LR.call_pre (g := 306) (pre := [.pointer (some ⟨br,0,none⟩)]);(·exact rfl);(·exact rfl);(intro w1 h1;refine CallsTo.mono (show CallsTo Tryz.prog 306 [.pointer (some ⟨br,0,none⟩)] w1 _ from g41e br ar cr w1 (ga_rd (h1.holds (gO br ar cr []) memZ))) ?_;rintro v w2 ⟨rfl,hg⟩;refine LR.back (h1.grew hg) ?_;clear hg h1))|(refine gs ?_ ?_;all_goals(intro hc;try simp only[hcs]at hc;try exact abz)))
  apply ret0
  ·exact rfl
  intro w' hS
  exact ⟨_,hZ,hS.sub subN⟩
 | cons x r=>
  have hwq : S.again = some (x.m :: r.map MsA.m) := hZ.ap
  have hms : ∀ m ∈ x.m :: r.map MsA.m,MOk m := hf.ms
  have hmx := hms x.m (List.mem_cons_self ..)
  have hfs : FOk S t (dats p1.2.2) (x.m :: r.map MsA.m) := ⟨f1,f2,f3,hms,hf.D⟩
  have hstb := hfs.step (more := 0) (.inl rfl) hstop
  have hx1 := hmx.st
  have hes : WOk (dats p1.2.2) := hf.D
  rw [hNi,fill_x _ hs hwq hstop] at hfl
  have hsteq : stN S t x.m 0 = if fromZ x.m then max (max t.stamp S.clock) x.m.stamp + 0 else max (max t.stamp S.clock) x.m.stamp := rfl
  obtain ⟨st,hst⟩ : ∃ st,stN S t x.m 0 = st := ⟨_,rfl⟩
  rw [hst] at hstb hsteq
  unfold maxN at f1 f2 f3 hx1 hstb
  repeat'(first|(apply Go.Hb.kK;(iterate 4 exact rfl);intro bs)|refine gz ?_|refine gy fun _=>?_|(apply LR.ev;(·first | exact Ev.max3 rfl rfl rfl );(·exact rfl))|(apply addX;(iterate 2 exact rfl);(iterate 2(first|omega));exact rfl)|(apply LR.call_pre (g := 306) (pre := [.pointer (some ⟨br,0,none⟩)]);(·exact rfl);(·exact rfl);(intro w1 h1;refine CallsTo.mono (show CallsTo Tryz.prog 306 [.pointer (some ⟨br,0,none⟩)] w1 _ from g41 br ar cr x r w1 (h1.holds (gO br ar cr (x :: r)) memZ) (by have := hmx.len;omega)) ?_;rintro v w2 ⟨a1,c1,xa,xc,rfl,st2⟩;refine LR.back (St.did1 (a := gO br ar cr (x :: r)) (a' := gO br a1 c1 r) h1 selZ rfl rfl rfl st2) ?_;clear st2 h1))|(refine gs ?_ ?_;all_goals(intro hc;try simp only[hcs]at hc;try exact abz)))
  all_goals (
   first
    | rw [show max (max t.stamp S.clock) x.m.stamp + 0 = st from by rw [hsteq,if_pos (by unfold fromZ;rw [decide_eq_true_eq];assumption)]]
    | rw [show max (max t.stamp S.clock) x.m.stamp = st from by rw [hsteq,if_neg (by unfold fromZ;rw [decide_eq_true_eq];assumption)]])
  all_goals (
   subst hst
   apply LR.call
   ·exact rfl
   intro w1 h1
   have j : St w0 F (rgL b { Y1 with np := some p1,ap := some (br,a1,c1,r) } { S with again := some (r.map MsA.m) } (_ :: _ :: _ :: _ :: _ :: R)) w1 := rg_mid [_,_,_,_,_] h1
   refine CallsTo.mono (r57 b _ { S with again := some (r.map MsA.m) } bs 0 1 [stN S t x.m 0] w1 j (fun w' hw'=>hw'.rd_of_blk (mH _ _)) (by simp)) ?_
   intro v w2 hw2
   refine LR.back (C := St w0 F (rgL b { Y1 with np := some p1,ap := some (br,a1,c1,r) } (({ S with again := some (r.map MsA.m) } : Rg).raise (stN S t x.m 0)) (_ :: _ :: _ :: _ :: _ :: R))) hw2 ?_
   clear hw2 j h1
   repeat'(first|(apply CW.reg_sinkC 16;(·exact rfl);(·decide +kernel))|refine gz ?_)
   all_goals (
    apply DW.quiet [0,1,2,3,4,5,6,7,8,9,10,11,12,13,14]
    ·decide +kernel
    ·exact stZ
    repeat'(first|refine gq ?_|apply QL.nil)
    all_goals (show DW _ _ _ _ _ _ _ _))
   all_goals (
    apply DW.loud 15
    ·exact rfl
    ·decide +kernel
    repeat'(first|refine gw ?_|refine gy fun _=>?_)
    all_goals (refine ats ?_))
   all_goals (apply DW.done;(·decide +kernel))
   all_goals apply At.sink
   repeat'(first|(apply CW.reg_sinkC 5;(·exact rfl);(·decide +kernel))|refine gz ?_)
   all_goals (
    apply DW.quiet [0,1,2,3,4]
    ·decide +kernel
    ·exact stZ
    repeat'(first|refine gq ?_|apply QL.nil)
    all_goals (show DW _ _ _ _ _ _ _ _))
   all_goals (apply DW.done;(·decide +kernel))
   all_goals apply At.sink
   apply LR.call
   ·exact rfl
   intro w1 h1
   have hap := St.apart (x := wO p1.1 p1.2.1 p1.2.2 S.next.aru S.next.high) (y := (MsA.body ⟨x.m,xa,xc⟩)) (h1.sub (L' := [wO p1.1 p1.2.1 p1.2.2 S.next.aru S.next.high,(MsA.body ⟨x.m,xa,xc⟩)]) subN) memZ rfl
   have hbo := h1.holds (MsA.body ⟨x.m,xa,xc⟩) memZ
   have hbo2 : w1.ownsRow 0 5 1 (.slice xa x.m.body.length xc) x.m.body.length (bv x.m.body) := hbo
   refine CallsTo.mono (show CallsTo Tryz.prog 123 [.pointer (some ⟨p1.1,0,none⟩),(datN S t x.m 0).val xa xc] w1 _ from t29 p1.1 p1.2.1 p1.2.2 S.next.aru S.next.high (datN S t x.m 0) xa xc w1 (h1.holds (wO p1.1 p1.2.1 p1.2.2 S.next.aru S.next.high) memZ) hes (by have h9 := aruF_is hes;rw [(way_D hnd).2.2];exact h9) (ownsRow_rd hbo2) (body_nz (x := ⟨datN S t x.m 0,xa,xc⟩) hbo) (fun k hk hk2=>hap k hk2 (St.osl_foot hk)) hmx.len) ?_
   rintro v w2 ⟨es2,ar2,rfl,he2,har,st3⟩
   refine LR.back (h1.did (a := wO p1.1 p1.2.1 p1.2.2 S.next.aru S.next.high) selZ rfl st3 (wO_dep _ _ _ _ _)) ?_
   clear st3 h1 hbo2 hbo hap
   repeat'(first|(apply Go.Hb.kK;(iterate 4 exact rfl);intro bs2)|refine gz ?_)
   apply LR.call
   ·exact rfl
   intro w1 h1
   have hDn := wpD_ok (d := datN S t x.m 0) hes hmx.len
   have ear : ar2 = aruF (wpD (dats p1.2.2) (datN S t x.m 0)) := har.uniq (aruF_is hDn)
   have hpd := put_dat (d := datN S t x.m 0) hnd
   obtain ⟨eDn,eh,ea⟩ := way_D hpd
   rw [ear,← ea,← eh] at h1
   have hZ3 : RepA { Y1 with np := some (p1.1,p1.2.1,es2),ap := some (br,a1,c1,r) } { ({ S with again := some (r.map MsA.m) } : Rg).raise (stN S t x.m 0) with next := S.next.put (datN S t x.m 0) } :=
    ⟨hZ.q,hZ.ql,hZ.nd,hZ.gp,by show (S.next.put (datN S t x.m 0)).dat = some (dats es2,(S.next.put (datN S t x.m 0)).high);rw [hpd,he2,eh],rfl,hZ.pk,hZ.ev⟩
   have j : St w0 F (rgL b { Y1 with np := some (p1.1,p1.2.1,es2),ap := some (br,a1,c1,r) } { ({ S with again := some (r.map MsA.m) } : Rg).raise (stN S t x.m 0) with next := S.next.put (datN S t x.m 0) } (_ :: _ :: _ :: _ :: _ :: _ :: _ :: R)) w1 := rg_mid [_,_] h1
   have j2 := front j 18 rfl rfl
   refine CallsTo.mono (r118 b _ _ (some ⟨bs2,0,none⟩) 1 ⟨dataP (datN S t x.m 0),datAd xa xc⟩ w1 (St.pkD ⟨dataP (datN S t x.m 0),datAd xa xc⟩ j2 ⟨rfl,rfl,rfl⟩ ⟨rfl,rfl,rfl⟩) (fun w' hw'=>hw'.rd_of_blk (mH _ _)) (by simp) (by show Y1.pk.length ≤ _;omega)) ?_
   rintro v w2 ⟨pa,pc,hw2⟩
   refine LR.back hw2 ?_
   clear hw2 j2 j h1
   have hZ4 := hZ3.sent pa pc ⟨dataP (datN S t x.m 0),datAd xa xc⟩
   repeat'(first|refine gz ?_|(apply addX;(iterate 2 exact rfl);(iterate 2(first|omega));exact rfl))
   refine At.again (⟨i + 1,stepx S t x.m (r.map MsA.m),tkN S t x.m 0,{ Y1 with pa := pa,pc := pc,pk := Y1.pk ++ [⟨dataP (datN S t x.m 0),datAd xa xc⟩] },(p1.1,p1.2.1,es2),(br,a1,c1,r)⟩ : FilX) ⟨by show i + 1 ≤ N;omega,hfl,hZ4,⟨?_,?_,?_,fun m hm=>hms m (List.mem_cons_of_mem _ hm),?_⟩,hs,rfl,?_⟩ ?_ ⟨rfl,trivial⟩ (fun w' hw'=>?_) (by show N - (i + 1) < N - i;omega)
   ·show 0 ≤ t.seq + 1 ∧ t.seq + 1 ≤ maxN
    unfold maxN
    omega
   ·exact hstb
   ·show 0 ≤ max S.clock (stN S t x.m 0) ∧ max S.clock (stN S t x.m 0) ≤ maxN
    unfold maxN
    omega
   ·show WOk (dats es2)
    rw [he2]
    exact hDn
   ·show (S.op ++ [_]).length ≤ 900000 + (i + 1)
    rw [List.length_append]
    show S.op.length + 1 ≤ _
    omega
   ·exact outZ
   ·exact (front (front hw' 19 rfl rfl) 19 rfl rfl).sub subN)
end
end Go.Proofs.YtohbcfokihplbaaGreatDoor
namespace Go.Proofs.YtohbcfokihplbaaGreatDoor
open Go.Hb
set_option maxRecDepth 100000
structure WayOk (w : Way) : Prop where
 dat : w.dat = some (w.D,w.high)
 ok : WOk w.D
 hi : 0 ≤ w.high ∧ w.high ≤ maxN
 le : ∀ d ∈ w.D,d.seq ≤ w.high
 mem : crewOk w.cfg.mem = true
theorem WayOk.isAru {w : Way} (h : WayOk w) : IsAru w.D w.aru := aruF_is h.ok
theorem WayOk.aru {w : Way} (h : WayOk w) : 0 ≤ w.aru ∧ w.aru ≤ w.high := by
 have h1 := h.isAru
 refine ⟨h1.1.1,?_⟩
 rcases Int.lt_or_le 0 w.aru with h2 | h2
 ·have h3 := h1.1.2 w.aru (by omega) (Int.le_refl _)
  obtain ⟨d,hd,e⟩ := has_iff.1 h3
  have := h.le d hd
  omega
 ·have := h.hi
  omega
theorem WayOk.came {w : Way} (h : WayOk w) (t : Tk) : WayOk (w.came t) := by
 have e1 := came_D (w := w) (t := t)
 have e2 := came_high (t := t) h.dat
 have hh := h.hi
 refine ⟨?_,?_,?_,?_,h.mem⟩
 ·rw [e1,e2]
  unfold Way.came
  dsimp only
  rw [h.dat]
  rfl
 ·rw [e1];exact h.ok
 ·rw [e2]
  unfold seeH maxN at *
  split <;> omega
 ·rw [e1,e2]
  intro d hd
  have := h.le d hd
  unfold seeH
  split <;> omega
theorem WayOk.put {w : Way} (h : WayOk w) (d : Dat) (hl : d.msg.body.length ≤ 140737488351232) : WayOk (w.put d) ∧ (w.put d).D = wpD w.D d ∧ (w.put d).D.length ≤ w.D.length + 1 ∧ (w.put d).cfg = w.cfg := by
 have hp := put_dat (d := d) h.dat
 obtain ⟨e1,e2,_⟩ := way_D hp
 have hh := h.hi
 refine ⟨⟨by rw [e1,e2];exact hp,by rw [e1];exact wpD_ok h.ok hl,?_,?_,h.mem⟩,e1,?_,rfl⟩
 ·rw [e2]
  unfold wpH
  split
  ·rename_i hn
   unfold wpNew wpOk at hn
   simp only [Bool.and_eq_true,decide_eq_true_eq] at hn
   obtain ⟨⟨_,h2,h3⟩,_⟩ := hn
   unfold maxN at *
   omega
  ·exact hh
 ·rw [e1,e2]
  intro x hx
  unfold wpD wpH at *
  split at hx
  ·rename_i hn
   rw [if_pos hn]
   rcases List.mem_append.1 hx with hx | hx
   ·have := h.le x hx;omega
   ·rw [List.mem_singleton] at hx;subst hx;omega
  ·rename_i hn
   rw [if_neg hn]
   exact h.le x hx
 ·rw [e1]
  unfold wpD
  split
  ·rw [List.length_append];exact Nat.le_refl _
  ·omega
theorem fill_ind_n {P : Rg → Tk → Prop} (h : ∀ S t m r,S.state = 3 → S.wq = m :: r → ¬ t.seq = maxN → ¬ max t.stamp S.clock = maxN → P S t → P (stepn S t m r) (tkN S t m 1)) : ∀ (n : Nat) (S : Rg) (t : Tk),S.state = 3 → P S t → P (Rg.fill n S t).1 (Rg.fill n S t).2
 | 0,S,t,_,hp=>hp
 | n + 1,S,t,hs,hp=>by
  by_cases h1 : t.seq = maxN
  ·rw [fill_stop _ (.inl h1)];exact hp
  by_cases h2 : max t.stamp S.clock = maxN
  ·rw [fill_stop _ (.inr ⟨by unfold Rg.more;rw [if_pos hs];decide,h2⟩)];exact hp
  cases hq : S.wq with
  | nil=>rw [fill_n0 _ hs hq];exact hp
  | cons m r=>
   rw [fill_n n hs hq h1 h2]
   exact fill_ind_n h n _ _ hs (h S t m r hs hq h1 h2 hp)
theorem fill_ind_x {P : Rg → Tk → Prop} (h : ∀ S t m r,S.state = 2 → S.again = some (m :: r) → ¬ t.seq = maxN → P S t → P (stepx S t m r) (tkN S t m 0)) : ∀ (n : Nat) (S : Rg) (t : Tk) (l : List Msg),S.state = 2 → S.again = some l → P S t → P (Rg.fill n S t).1 (Rg.fill n S t).2
 | 0,S,t,_,_,_,hp=>hp
 | n + 1,S,t,l,hs,hq,hp=>by
  by_cases h1 : t.seq = maxN
  ·rw [fill_stop _ (.inl h1)];exact hp
  cases l with
  | nil=>rw [fill_x0 _ hs hq];exact hp
  | cons m r=>
   rw [fill_x n hs hq h1]
   exact fill_ind_x h n _ _ r hs rfl (h S t m r hs hq h1 hp)
structure Kept (S S' : Rg) (t t' : Tk) : Prop where
 node : S'.node = S.node
 ctr : S'.counter = S.counter
 state : S'.state = S.state
 tm : S'.tm = S.tm
 done : S'.done = S.done
 g : S'.g = S.g
 own : S'.own = S.own
 kin : S'.kin = S.kin
 begun : S'.begun = S.begun
 last : S'.last = S.last
 oc : S'.oc = S.oc
 oe : S'.oe = S.oe
 ncfg : S'.now.cfg = S.now.cfg ∧ S'.now.hop = S.now.hop ∧ S'.now.left = S.now.left ∧ S'.now.safe = S.now.safe
 xcfg : S'.next.cfg = S.next.cfg ∧ S'.next.hop = S.next.hop ∧ S'.next.left = S.next.left ∧ S'.next.safe = S.next.safe
 ask : t'.ask = t.ask
 idle : t'.idle = t.idle
 aru : t'.aru = t.aru
 ring : t'.r1 = t.r1 ∧ t'.r2 = t.r2 ∧ t'.hop = t.hop ∧ t'.low = t.low
theorem Kept.refl (S : Rg) (t : Tk) : Kept S S t t := ⟨rfl,rfl,rfl,rfl,rfl,rfl,rfl,rfl,rfl,rfl,rfl,rfl,⟨rfl,rfl,rfl,rfl⟩,⟨rfl,rfl,rfl,rfl⟩,rfl,rfl,rfl,⟨rfl,rfl,rfl,rfl⟩⟩
theorem Kept.n {S0 S : Rg} {t0 t : Tk} (h : Kept S0 S t0 t) (m : Msg) (r : List Msg) : Kept S0 (stepn S t m r) t0 (tkN S t m 1) :=
 ⟨h.node,h.ctr,h.state,h.tm,h.done,h.g,h.own,h.kin,h.begun,h.last,h.oc,h.oe,h.ncfg,h.xcfg,h.ask,h.idle,h.aru,h.ring⟩
theorem Kept.x {S0 S : Rg} {t0 t : Tk} (h : Kept S0 S t0 t) (m : Msg) (r : List Msg) : Kept S0 (stepx S t m r) t0 (tkN S t m 0) :=
 ⟨h.node,h.ctr,h.state,h.tm,h.done,h.g,h.own,h.kin,h.begun,h.last,h.oc,h.oe,h.ncfg,h.xcfg,h.ask,h.idle,h.aru,h.ring⟩
structure FN (S0 : Rg) (t0 : Tk) (S : Rg) (t : Tk) : Prop where
 k : Kept S0 S t0 t
 sq : 0 ≤ t.seq ∧ t.seq ≤ maxN
 sp : 0 ≤ t.stamp ∧ t.stamp ≤ maxN
 ck : S0.clock ≤ S.clock ∧ S.clock ≤ maxN
 ms : ∀ m ∈ S.wq,MOk m
 now : WayOk S.now
 nx : S.next = S0.next ∧ S.again = S0.again
 len : S.now.D.length + S.wq.length ≤ S0.now.D.length + S0.wq.length
 op : S.op.length + S.wq.length ≤ S0.op.length + S0.wq.length
theorem fill_n_keeps {S : Rg} {t : Tk} (n : Nat) (hs : S.state = 3) (h0 : 0 ≤ S.clock) (h : FN S t S t) : FN S t (Rg.fill n S t).1 (Rg.fill n S t).2 := by
 refine fill_ind_n (P := fun X y=>FN S t X y) ?_ n S t hs h
 intro X y m r hxs hq h1 h2 hp
 have hms := hp.ms
 rw [hq] at hms
 have hm := hms m (List.mem_cons_self ..)
 have hb := (FOk.step (D := X.now.D) ⟨hp.sq,hp.sp,⟨by have := hp.ck;omega,hp.ck.2⟩,hms,hp.now.ok⟩ (more := 1) (.inr ⟨rfl,h2⟩) h1)
 have hpt := hp.now.put (datN X y m 1) hm.len
 have hlen := hp.len
 have hop := hp.op
 rw [hq] at hlen hop
 simp only [List.length_cons] at hlen hop
 have q1 := hp.sq
 have q2 := hp.ck
 refine ⟨hp.k.n m r,?_,hb,?_,fun x hx=>hms x (List.mem_cons_of_mem _ hx),hpt.1,hp.nx,?_,?_⟩
 ·show 0 ≤ y.seq + 1 ∧ y.seq + 1 ≤ maxN
  unfold maxN at *
  omega
 ·show S.clock ≤ max X.clock (stN X y m 1) ∧ max X.clock (stN X y m 1) ≤ maxN
  omega
 ·show (X.now.put (datN X y m 1)).D.length + r.length ≤ _
  have := hpt.2.2.1
  omega
 ·show (X.op ++ [_]).length + r.length ≤ _
  rw [List.length_append]
  show X.op.length + 1 + r.length ≤ _
  omega
structure FX (S0 : Rg) (t0 : Tk) (l0 : List Msg) (S : Rg) (t : Tk) : Prop where
 k : Kept S0 S t0 t
 sq : 0 ≤ t.seq ∧ t.seq ≤ maxN
 sp : 0 ≤ t.stamp ∧ t.stamp ≤ maxN
 ck : S0.clock ≤ S.clock ∧ S.clock ≤ maxN
 next : WayOk S.next
 nw : S.now = S0.now ∧ S.wq = S0.wq
 ms : ∃ l,S.again = some l ∧ (∀ m ∈ l,MOk m) ∧ S.next.D.length + l.length ≤ S0.next.D.length + l0.length ∧ S.op.length + l.length ≤ S0.op.length + l0.length ∧ l.length ≤ l0.length
theorem fill_x_keeps {S : Rg} {t : Tk} {l : List Msg} (n : Nat) (hs : S.state = 2) (h0 : 0 ≤ S.clock) (hl : S.again = some l) (h : FX S t l S t) : FX S t l (Rg.fill n S t).1 (Rg.fill n S t).2 := by
 refine fill_ind_x (P := fun X y=>FX S t l X y) ?_ n S t l hs hl h
 intro X y m r hxs hq h1 hp
 obtain ⟨l1,e1,hms,hlen,hop,hll⟩ := hp.ms
 rw [hq] at e1
 cases e1
 have hm := hms m (List.mem_cons_self ..)
 have hb := (FOk.step (D := X.next.D) ⟨hp.sq,hp.sp,⟨by have := hp.ck;omega,hp.ck.2⟩,hms,hp.next.ok⟩ (more := 0) (.inl rfl) h1)
 have hpt := hp.next.put (datN X y m 0) hm.len
 simp only [List.length_cons] at hlen hop hll
 have q1 := hp.sq
 have q2 := hp.ck
 refine ⟨hp.k.x m r,?_,hb,?_,hpt.1,hp.nw,⟨r,rfl,fun x hx=>hms x (List.mem_cons_of_mem _ hx),?_,?_,by omega⟩⟩
 ·show 0 ≤ y.seq + 1 ∧ y.seq + 1 ≤ maxN
  unfold maxN at *
  omega
 ·show S.clock ≤ max X.clock (stN X y m 0) ∧ max X.clock (stN X y m 0) ≤ maxN
  omega
 ·show (X.next.put (datN X y m 0)).D.length + r.length ≤ _
  have := hpt.2.2.1
  omega
 ·show (X.op ++ [_]).length + r.length ≤ _
  rw [List.length_append]
  show X.op.length + 1 + r.length ≤ _
  omega
def Rg.visitA (S : Rg) (t0 : Tk) : Rg := (S.setWay (S.way.came t0)).raise t0.stamp
def Rg.visitD (S7 : Rg) : Rg :=
 let S8 : Rg := { S7.resend with tm := (S7.tm.set 0 40).set 3 12 }
 if S8.state = 3 ∧ leastC S8.way.cfg.mem = S8.node then S8.send (beaP S8.way.cfg S8.node) else S8
def Rg.visitC (S5 : Rg) (t6 : Tk) : Rg :=
 let S6 := if S5.state = 3 then S5.deliver else S5
 Rg.visitD { S6 with last := tokP (nextC S6.way.cfg.mem S6.node) t6 }
def Rg.visitB2 (S4 : Rg) (t5 : Tk) : Rg :=
 let t6 := visitT t5 S4.node S4.way.aru (gapsT S4.way.D S4.way.high 16)
 (S4.setWay { S4.way with left := t6.aru }).visitC t6
def quietT (S4 : Rg) (t0 t4 : Tk) : Bool := decide (t4.seq = t0.seq) && decide ((S4.again.getD []).length = 0) && decide (S4.way.aru = t4.seq)
def Rg.visitB (S2 : Rg) (t0 : Tk) : Rg :=
 let r3 := S2.answer t0
 let r4 := r3.1.fill (allow r3.1.leftS r3.2.seq r3.2.aru).toNat r3.2
 r4.1.visitB2 (if r4.1.state = 2 then idleT r4.2 (quietT r4.1 t0 r4.2) else r4.2)
theorem visit_eq (S : Rg) (t0 : Tk) : S.visit t0 = (if (S.visitA t0).state = 2 ∧ cntC (S.visitA t0).way.cfg.mem ≤ t0.idle then (S.visitA t0).install else S.visitA t0).visitB t0 := rfl
theorem answer_eq (S : Rg) (t : Tk) : S.answer t = (S.sends (ansL S.way.D t.ask),ansQ S.way.D t) := rfl
structure Orv where
 now : Cfg
 trans : Cfg
 seq : Int
def zst : Orv := ⟨zeroCfg,zeroCfg,0⟩
def ordMsg (first : Bool) (o : Orv) (d : Dat) : Bool := !first && decide (d.rseq = o.now.rs ∧ d.rrep = o.now.rr) && decide (o.seq < d.seq) && !decide (d.msg.kind = 5)
def ordTr (node : Int) (first : Bool) (o : Orv) (c : Cfg) : Bool := !first && !o.trans.trans && decide (c.os = o.now.rs ∧ c.or_ = o.now.rr) && hasC c.mem node && decide (andI .i64 c.mem o.now.mem = c.mem)
def ordCf (node : Int) (first : Bool) (o : Orv) (c : Cfg) : Bool := hasC c.mem node && (first || (o.trans.trans && decide (c.rs = o.trans.rs ∧ c.rr = o.trans.rr) && decide (0 < ringsI c.rs c.rr o.now.rs o.now.rr) && decide (andI .i64 o.trans.mem c.mem = o.trans.mem)))
def ordStep (node : Int) (first : Bool) (o : Orv) (e : EvD) : Option Orv :=
 if e.kind = 2 then (if ordMsg first o e.dat then some { o with seq := e.dat.seq } else none)
 else if e.cfg.trans then (if ordTr node first o e.cfg then some { o with trans := e.cfg } else none)
 else if ordCf node first o e.cfg then some ⟨e.cfg,zeroCfg,0⟩ else none
def ordRun (node : Int) : List EvD → Orv → Option Orv
 | [],o=>some o
 | e :: r,o=>(ordStep node false o e).bind (ordRun node r)
def ordF (node : Int) : List EvD → Option Orv
 | []=>some zst
 | e :: r=>(ordStep node true zst e).bind (ordRun node r)
theorem ordRun_app (node : Int) : ∀ (l r : List EvD) (o : Orv),ordRun node (l ++ r) o = (ordRun node l o).bind (ordRun node r)
 | [],_,_=>rfl
 | e :: l,r,o=>by
  show (ordStep node false o e).bind (ordRun node (l ++ r)) = ((ordStep node false o e).bind (ordRun node l)).bind (ordRun node r)
  cases ordStep node false o e with
  | none=>rfl
  | some o'=>exact ordRun_app node l r o'
theorem ordF_app (node : Int) {l : List EvD} (r : List EvD) (h : l ≠ []) : ordF node (l ++ r) = (ordF node l).bind (ordRun node r) := by
 cases l with
 | nil=>exact absurd rfl h
 | cons e l=>
  show (ordStep node true zst e).bind (ordRun node (l ++ r)) = ((ordStep node true zst e).bind (ordRun node l)).bind (ordRun node r)
  cases ordStep node true zst e with
  | none=>rfl
  | some o'=>exact ordRun_app node l r o'
theorem ord_tell {node : Int} {o : Orv} {d : Dat} (h1 : d.rseq = o.now.rs) (h2 : d.rrep = o.now.rr) (h3 : o.seq < d.seq) : ∃ q,ordRun node (tellD d) o = some { o with seq := q } ∧ q ≤ d.seq := by
 unfold tellD
 split
 ·exact ⟨o.seq,rfl,by omega⟩
 ·rename_i hk
  refine ⟨d.seq,?_,Int.le_refl _⟩
  show (ordStep node false o (msgE d)).bind (ordRun node []) = _
  have : ordMsg false o d = true := by
   unfold ordMsg
   rw [decide_eq_true (show d.rseq = o.now.rs ∧ d.rrep = o.now.rr from ⟨h1,h2⟩),decide_eq_true h3,decide_eq_false hk]
   rfl
  unfold ordStep
  rw [show (msgE d).kind = 2 from rfl,if_pos rfl,show (msgE d).dat = d from rfl,if_pos this]
  rfl
theorem ord_prog {node safe kin : Int} {t : Cfg} (ht : t.trans = true) : ∀ (L : List Dat) (at_ : Int) (p g : Bool) (o : Orv),o.seq ≤ at_ → (∀ d ∈ L,at_ < d.seq) → (L.map Dat.seq).Pairwise (·< ·) → (∀ d ∈ L,d.rseq = o.now.rs ∧ d.rrep = o.now.rr) →
  (p = true → o.trans = t) → (p = false → ordTr node false o t = true) →
  ∃ q,ordRun node (progT safe kin (cfgE t) at_ p g L) o = some ⟨o.now,t,q⟩
 | [],at_,p,g,o,h0,h1,h2,h3,h4,h5=>by
  cases p with
  | true=>exact ⟨o.seq,by show some o = _;rw [← h4 rfl]⟩
  | false=>
   refine ⟨o.seq,?_⟩
   show (ordStep node false o (cfgE t)).bind (ordRun node []) = _
   unfold ordStep
   rw [if_neg (show ¬ (cfgE t).kind = 2 from (by decide : ¬ (1 : Int) = 2)),show (cfgE t).cfg = t from rfl,if_pos ht,if_pos (h5 rfl)]
   rfl
 | d :: r,at_,p,g,o,h0,h1,h2,h3,h4,h5=>by
  rw [List.map_cons,List.pairwise_cons] at h2
  have hd := h1 d (List.mem_cons_self ..)
  unfold progT
  simp only
  generalize (g || !decide (d.seq = at_ + 1)) = g'
  generalize hcut : (!p && (g' || (d.msg.safe && decide (safe < d.seq)))) = cut
    -- behind the configuration, if it is told here
  obtain ⟨o1,ho1,hn1,hs1,hp1,hf1⟩ : ∃ o1,ordRun node (if cut then [cfgE t] else []) o = some o1 ∧ o1.now = o.now ∧ o1.seq = o.seq ∧ ((p || cut) = true → o1.trans = t) ∧ ((p || cut) = false → o1 = o) := by
   cases cut with
   | false=>
    refine ⟨o,rfl,rfl,rfl,fun h=>h4 (by simpa using h),fun _=>rfl⟩
   | true=>
    have hp : p = false := by cases p with | false=>rfl | true=>simp at hcut
    refine ⟨{ o with trans := t },?_,rfl,rfl,fun _=>rfl,fun h=>by simp at h⟩
    show (ordStep node false o (cfgE t)).bind (ordRun node []) = _
    unfold ordStep
    rw [if_neg (show ¬ (cfgE t).kind = 2 from (by decide : ¬ (1 : Int) = 2)),show (cfgE t).cfg = t from rfl,if_pos ht,if_pos (h5 hp)]
    rfl
  obtain ⟨q2,ho2,hq2⟩ : ∃ q2,ordRun node (if !g' || hasC kin d.sender then tellD d else []) o1 = some { o1 with seq := q2 } ∧ q2 ≤ d.seq := by
   obtain ⟨e1,e2⟩ := h3 d (List.mem_cons_self ..)
   split
   ·exact ord_tell (by rw [hn1];exact e1) (by rw [hn1];exact e2) (by rw [hs1];omega)
   ·exact ⟨o1.seq,rfl,by rw [hs1];omega⟩
  obtain ⟨q3,ho3⟩ := ord_prog (node := node) (safe := safe) (kin := kin) ht r d.seq (p || cut) g' { o1 with seq := q2 } hq2 (fun x hx=>h2.1 _ (List.mem_map_of_mem hx)) h2.2 (fun x hx=>by rw [show ({ o1 with seq := q2 } : Orv).now = o.now from hn1];exact h3 x (List.mem_cons_of_mem _ hx)) hp1
   (fun hpc=>by
    have := hf1 hpc
    subst this
    have hp : p = false := by cases p with | false=>rfl | true=>simp at hpc
    exact h5 hp)
  refine ⟨q3,?_⟩
  rw [List.append_assoc,ordRun_app,ho1,Option.bind_some,ordRun_app,ho2,Option.bind_some,ho3,show ({ o1 with seq := q2 } : Orv).now = o.now from hn1]
theorem ringE_facts {s r : Int} (h : ringE s r = 0) (h0 : ¬ (s = 0 ∧ r = 0)) : 1 ≤ s ∧ s ≤ maxN ∧ 1 ≤ r ∧ r ≤ 8 := by
 unfold ringE at h
 split at h
 ·rename_i hb
  unfold ringB numB at hb
  simp only [Bool.or_eq_true,Bool.and_eq_true,decide_eq_true_eq] at hb
  unfold maxN
  omega
 ·cases h
theorem liveR_facts {s r : Int} (h : liveR s r = true) : 1 ≤ s ∧ s ≤ maxN ∧ 1 ≤ r ∧ r ≤ 8 := by
 unfold liveR at h
 rw [decide_eq_true_eq] at h
 exact ringE_facts h.2 h.1
theorem liveR_of {s r : Int} (h1 : 1 ≤ s ∧ s ≤ maxN) (h2 : 1 ≤ r ∧ r ≤ 8) : liveR s r = true := by
 unfold liveR ringE ringB numB
 unfold maxN at h1
 rw [decide_eq_true_eq]
 refine ⟨by omega,?_⟩
 rw [if_pos]
 simp only [Bool.or_eq_true,Bool.and_eq_true,decide_eq_true_eq]
 omega
theorem rings_pos {a b c d : Int} (h : c < a) : 0 < ringsI a b c d := by
 unfold ringsI orL cmpI
 rw [if_neg (show ¬ a < c by omega),if_pos h]
 simp
def MQ (m : Msg) : Prop := MOk m ∧ Byt m.body
structure DOk (r1 r2 clk : Int) (D : List Dat) : Prop where
 ring : ∀ d ∈ D,d.rseq = r1 ∧ d.rrep = r2
 st : ∀ d ∈ D,d.stamp ≤ clk
 byt : ∀ d ∈ D,Byt d.msg.body
theorem DOk.up {r1 r2 a b : Int} {D : List Dat} (h : DOk r1 r2 a D) (hab : a ≤ b) : DOk r1 r2 b D :=
 ⟨h.ring,fun d hd=>Int.le_trans (h.st d hd) hab,h.byt⟩
theorem DOk.wp {r1 r2 a : Int} {D : List Dat} {d : Dat} (h : DOk r1 r2 a D) (h1 : d.rseq = r1 ∧ d.rrep = r2) (h2 : d.stamp ≤ a) (h3 : Byt d.msg.body) : DOk r1 r2 a (wpD D d) := by
 have key : ∀ x ∈ wpD D d,x ∈ D ∨ x = d := fun x hx=>by
  unfold wpD at hx
  split at hx
  ·rcases List.mem_append.1 hx with hx | hx
   ·exact .inl hx
   ·exact .inr (List.mem_singleton.1 hx)
  ·exact .inl hx
 refine ⟨fun x hx=>?_,fun x hx=>?_,fun x hx=>?_⟩
 ·rcases key x hx with hx | rfl
  ·exact h.ring x hx
  ·exact h1
 ·rcases key x hx with hx | rfl
  ·exact h.st x hx
  ·exact h2
 ·rcases key x hx with hx | rfl
  ·exact h.byt x hx
  ·exact h3
theorem DOk.nil {r1 r2 a : Int} : DOk r1 r2 a [] := ⟨fun _ h=>(by cases h),fun _ h=>(by cases h),fun _ h=>(by cases h)⟩
structure CfgOk (node : Int) (c : Cfg) : Prop where
 plain : c = plainCfg c.rs c.rr c.mem c.stamp
 mem : crewOk c.mem = true
 has : hasC c.mem node = true
 live : liveR c.rs c.rr = true
 st : 0 ≤ c.stamp ∧ c.stamp ≤ maxN
structure ToldOk (ctr clk : Int) (e : EvD) : Prop where
 c : e.kind = 1 → e.cfg.rs ≤ ctr
 d : e.kind = 2 → e.dat.stamp ≤ clk
theorem ToldOk.up {a b a' b' : Int} {e : EvD} (h : ToldOk a b e) (h1 : a ≤ a') (h2 : b ≤ b') : ToldOk a' b' e :=
 ⟨fun hk=>Int.le_trans (h.c hk) h1,fun hk=>Int.le_trans (h.d hk) h2⟩
theorem ToldOk.msg {a b : Int} {d : Dat} (h : d.stamp ≤ b) : ToldOk a b (msgE d) := ⟨fun h=>(by cases h),fun _=>h⟩
theorem ToldOk.cfg {a b : Int} {c : Cfg} (h : c.rs ≤ a) : ToldOk a b (cfgE c) := ⟨fun _=>h,fun h=>(by cases h)⟩
structure KinOk (node kin a b : Int) : Prop where
 ok : crewOk kin = true
 has : hasC kin node = true
 l : withinC kin a = true
 r : withinC kin b = true
structure One (node : Int) (S : Rg) : Prop where
 c : CfgOk node S.next.cfg
 lt : S.now.cfg.rs < S.next.cfg.rs
 le : S.next.cfg.rs ≤ S.counter
 own : S.own.node = node ∧ S.own.o1 = S.now.cfg.rs ∧ S.own.o2 = S.now.cfg.rr
structure Two (node : Int) (n : Nat) (S : Rg) : Prop where
 w : WayOk S.next
 c : CfgOk node S.next.cfg
 lt : S.now.cfg.rs < S.next.cfg.rs
 le : S.next.cfg.rs ≤ S.counter
 d : DOk S.next.cfg.rs S.next.cfg.rr S.clock S.next.D
 len : S.next.D.length ≤ n
 kin : KinOk node S.kin S.now.cfg.mem S.next.cfg.mem
 ag : ∃ l,S.again = some l ∧ (∀ m ∈ l,MQ m) ∧ l.length ≤ n
structure Core (node : Int) (E : List EvD) (kept lo : Int) (n : Nat) (S : Rg) : Prop where
 nd : S.node = node
 nr : 1 ≤ node ∧ node ≤ 8
 clk : 0 ≤ S.clock ∧ S.clock ≤ maxN
 lw : lo ≤ S.clock
 ctr : 0 ≤ S.counter ∧ S.counter ≤ maxN
 kp : 0 ≤ kept
 ke : (S.oc = 0 ∧ S.counter = kept) ∨ (S.oc = S.counter ∧ kept < S.counter)
 wn : WayOk S.now
 cn : CfgOk node S.now.cfg
 cr : S.now.cfg.rs ≤ S.counter
 dn : DOk S.now.cfg.rs S.now.cfg.rr S.clock S.now.D
 ne : E ++ S.oe ≠ []
 ord : ∃ q,ordF node (E ++ S.oe) = some ⟨S.now.cfg,zeroCfg,q⟩ ∧ q ≤ S.done
 done : 0 ≤ S.done ∧ S.done ≤ maxN
 told : ∀ e ∈ S.oe,ToldOk S.counter S.clock e
 wq : ∀ m ∈ S.wq,MQ m
 wl : S.wq.length ≤ 32
 len : S.now.D.length ≤ n
structure Inv (node : Int) (E : List EvD) (kept lo : Int) (n o : Nat) (S : Rg) : Prop where
 c : Core node E kept lo n S
 tm : ∀ k,0 ≤ S.tm.get k ∧ S.tm.get k ≤ 10000
 g : ∃ G,S.g = some G ∧ GOk G ∧ G.node = node
 st : 0 ≤ S.state ∧ S.state ≤ 3
 one : S.state = 1 → One node S
 two : S.state = 2 → Two node n S
 op : S.op.length ≤ o
 oe : S.oe.length ≤ o
 last : S.last.d.msg.body = [] ∧ S.last.c.ents = [] ∧ S.last.t.ask.length ≤ 1000
section
variable {node : Int} {E : List EvD} {kept lo : Int} {n o : Nat} {S : Rg}
theorem Inv.up (h : Inv node E kept lo n o S) {n' o' : Nat} (hn : n ≤ n') (ho : o ≤ o') : Inv node E kept lo n' o' S :=
 { h with
  c := { h.c with len := Nat.le_trans h.c.len hn }
  two := fun hs=>let t := h.two hs;{ t with len := Nat.le_trans t.len hn,ag := let ⟨l,a,b,c⟩ := t.ag;⟨l,a,b,Nat.le_trans c hn⟩ }
  op := Nat.le_trans h.op ho
  oe := Nat.le_trans h.oe ho }
theorem Inv.nodeR (h : Inv node E kept lo n o S) : 1 ≤ S.node ∧ S.node ≤ 8 := by rw [h.c.nd];exact h.c.nr
theorem Inv.numB (h : Inv node E kept lo n o S) : Go.Proofs.YtohbcfokihplbaaGreatDoor.numB S.counter = true := by
 have := h.c.ctr
 unfold Go.Proofs.YtohbcfokihplbaaGreatDoor.numB
 unfold maxN at this
 simp only [Bool.and_eq_true,decide_eq_true_eq]
 exact this
theorem Inv.ops (h : Inv node E kept lo n o S) {l : List Pkt} {o' : Nat} (hl : l.length ≤ o') (ho : o ≤ o') : Inv node E kept lo n o' { S with op := l } :=
 ⟨⟨h.c.nd,h.c.nr,h.c.clk,h.c.lw,h.c.ctr,h.c.kp,h.c.ke,h.c.wn,h.c.cn,h.c.cr,h.c.dn,h.c.ne,h.c.ord,h.c.done,h.c.told,h.c.wq,h.c.wl,h.c.len⟩,
  h.tm,h.g,h.st,fun hs=>let t := h.one hs;⟨t.c,t.lt,t.le,t.own⟩,fun hs=>let t := h.two hs;⟨t.w,t.c,t.lt,t.le,t.d,t.len,t.kin,t.ag⟩,hl,Nat.le_trans h.oe ho,h.last⟩
theorem Inv.send (h : Inv node E kept lo n o S) (p : Pkt) : Inv node E kept lo n (o + 1) (S.send p) :=
 h.ops (by rw [List.length_append];exact Nat.add_le_add_right h.op 1) (by omega)
theorem Inv.sends (h : Inv node E kept lo n o S) (l : List Pkt) : Inv node E kept lo n (o + l.length) (S.sends l) :=
 h.ops (by rw [List.length_append];exact Nat.add_le_add_right h.op _) (by omega)
theorem Inv.join (h : Inv node E kept lo n o S) : Inv node E kept lo n (o + 1) S.join := h.send _
theorem Inv.resend (h : Inv node E kept lo n o S) : Inv node E kept lo n (o + 1) S.resend := h.send _
theorem Inv.hand (h : Inv node E kept lo n o S) (x : Cmt × Int) : Inv node E kept lo n (o + 1) (S.hand x) := by
 unfold Rg.hand
 split
 ·exact h.send _
 ·exact h.up (Nat.le_refl _) (by omega)
theorem Inv.tms (h : Inv node E kept lo n o S) {t : Tm} (ht : ∀ k,0 ≤ t.get k ∧ t.get k ≤ 10000) : Inv node E kept lo n o { S with tm := t } :=
 ⟨⟨h.c.nd,h.c.nr,h.c.clk,h.c.lw,h.c.ctr,h.c.kp,h.c.ke,h.c.wn,h.c.cn,h.c.cr,h.c.dn,h.c.ne,h.c.ord,h.c.done,h.c.told,h.c.wq,h.c.wl,h.c.len⟩,
  ht,h.g,h.st,fun hs=>let t := h.one hs;⟨t.c,t.lt,t.le,t.own⟩,fun hs=>let t := h.two hs;⟨t.w,t.c,t.lt,t.le,t.d,t.len,t.kin,t.ag⟩,h.op,h.oe,h.last⟩
theorem tm_of_bd {t : Tm} (h0 : 0 ≤ t.a ∧ t.a ≤ 10000) (h1 : 0 ≤ t.b ∧ t.b ≤ 10000) (h2 : 0 ≤ t.c ∧ t.c ≤ 10000) (h3 : 0 ≤ t.d ∧ t.d ≤ 10000) : ∀ k,0 ≤ t.get k ∧ t.get k ≤ 10000 := by
 intro k
 unfold Tm.get
 repeat' split
 all_goals omega
theorem tm_bd {t : Tm} (ht : ∀ k,0 ≤ t.get k ∧ t.get k ≤ 10000) : (0 ≤ t.a ∧ t.a ≤ 10000) ∧ (0 ≤ t.b ∧ t.b ≤ 10000) ∧ (0 ≤ t.c ∧ t.c ≤ 10000) ∧ (0 ≤ t.d ∧ t.d ≤ 10000) := ⟨ht 0,ht 1,ht 2,ht 3⟩
theorem tm_set_bd {t : Tm} (ht : ∀ k,0 ≤ t.get k ∧ t.get k ≤ 10000) {k v : Int} (hv : 0 ≤ v ∧ v ≤ 10000) : ∀ j,0 ≤ (t.set k v).get j ∧ (t.set k v).get j ≤ 10000 := by
 obtain ⟨h0,h1,h2,h3⟩ := tm_bd ht
 unfold Tm.set
 (repeat' split) <;> exact tm_of_bd (by first | exact hv | exact h0) (by first | exact hv | exact h1) (by first | exact hv | exact h2) (by first | exact hv | exact h3)
theorem Inv.raise (h : Inv node E kept lo n o S) {x : Int} (hx : x ≤ maxN) : Inv node E kept lo n o (S.raise x) := by
 have hc : S.clock ≤ max S.clock x := Int.le_max_left ..
 have hm : max S.clock x ≤ maxN := Int.max_le.2 ⟨h.c.clk.2,hx⟩
 exact ⟨⟨h.c.nd,h.c.nr,⟨Int.le_trans h.c.clk.1 hc,hm⟩,Int.le_trans h.c.lw hc,h.c.ctr,h.c.kp,h.c.ke,h.c.wn,h.c.cn,h.c.cr,h.c.dn.up hc,h.c.ne,h.c.ord,h.c.done,fun e he=>(h.c.told e he).up (Int.le_refl _) hc,h.c.wq,h.c.wl,h.c.len⟩,
  h.tm,h.g,h.st,fun hs=>let t := h.one hs;⟨t.c,t.lt,t.le,t.own⟩,fun hs=>let t := h.two hs;⟨t.w,t.c,t.lt,t.le,t.d.up hc,t.len,t.kin,t.ag⟩,h.op,h.oe,h.last⟩
theorem Inv.nows (h : Inv node E kept lo n o S) {w : Way} {n' : Nat} (hn : n ≤ n') (hw : WayOk w) (hc : w.cfg = S.now.cfg) (hd : DOk S.now.cfg.rs S.now.cfg.rr S.clock w.D) (hl : w.D.length ≤ n') : Inv node E kept lo n' o { S with now := w } := by
 refine ⟨⟨h.c.nd,h.c.nr,h.c.clk,h.c.lw,h.c.ctr,h.c.kp,h.c.ke,hw,?_,?_,?_,h.c.ne,?_,h.c.done,h.c.told,h.c.wq,h.c.wl,hl⟩,h.tm,h.g,h.st,fun hs=>?_,fun hs=>?_,h.op,h.oe,h.last⟩
 ·show CfgOk node w.cfg
  rw [hc];exact h.c.cn
 ·show w.cfg.rs ≤ _
  rw [hc];exact h.c.cr
 ·show DOk w.cfg.rs w.cfg.rr _ _
  rw [hc];exact hd
 ·show ∃ q,_ = some (⟨w.cfg,_,_⟩ : Orv) ∧ _
  rw [hc];exact h.c.ord
 ·have t := h.one hs
  refine ⟨t.c,?_,t.le,?_⟩
  ·show w.cfg.rs < _
   rw [hc];exact t.lt
  ·show _ ∧ _ = w.cfg.rs ∧ _ = w.cfg.rr
   rw [hc];exact t.own
 ·have t := (h.up hn (Nat.le_refl _)).two hs
  refine ⟨t.w,t.c,?_,t.le,t.d,t.len,?_,t.ag⟩
  ·show w.cfg.rs < _
   rw [hc];exact t.lt
  ·show KinOk _ _ w.cfg.mem _
   rw [hc];exact t.kin
theorem Inv.nexts (h : Inv node E kept lo n o S) {w : Way} {n' : Nat} (hs : S.state = 2) (hn : n ≤ n') (hw : WayOk w) (hc : w.cfg = S.next.cfg) (hd : DOk S.next.cfg.rs S.next.cfg.rr S.clock w.D) (hl : w.D.length ≤ n') : Inv node E kept lo n' o { S with next := w } := by
 have h' := h.up hn (Nat.le_refl o)
 refine ⟨⟨h'.c.nd,h'.c.nr,h'.c.clk,h'.c.lw,h'.c.ctr,h'.c.kp,h'.c.ke,h'.c.wn,h'.c.cn,h'.c.cr,h'.c.dn,h'.c.ne,h'.c.ord,h'.c.done,h'.c.told,h'.c.wq,h'.c.wl,h'.c.len⟩,h'.tm,h'.g,h'.st,fun hs1=>?_,fun _=>?_,h'.op,h'.oe,h'.last⟩
 ·exact absurd (show S.state = 1 from hs1) (by omega)
 ·have t := h'.two hs
  refine ⟨hw,?_,?_,?_,?_,hl,?_,t.ag⟩
  ·show CfgOk node w.cfg
   rw [hc];exact t.c
  ·show _ < w.cfg.rs
   rw [hc];exact t.lt
  ·show w.cfg.rs ≤ _
   rw [hc];exact t.le
  ·show DOk w.cfg.rs w.cfg.rr _ _
   rw [hc];exact hd
  ·show KinOk _ _ _ w.cfg.mem
   rw [hc];exact t.kin
theorem Core.inv (h : Core node E kept lo n S) (tm : ∀ k,0 ≤ S.tm.get k ∧ S.tm.get k ≤ 10000) (g : ∃ G,S.g = some G ∧ GOk G ∧ G.node = node) (st : S.state = 0 ∨ S.state = 3) (op : S.op.length ≤ o) (oe : S.oe.length ≤ o) (last : S.last.d.msg.body = [] ∧ S.last.c.ents = [] ∧ S.last.t.ask.length ≤ 1000) : Inv node E kept lo n o S :=
 ⟨h,tm,g,by omega,fun h=>by omega,fun h=>by omega,op,oe,last⟩
theorem newG_gok {nd c : Int} (h1 : 1 ≤ nd ∧ nd ≤ 8) (h2 : 0 ≤ c ∧ c ≤ maxN) : GOk (newG nd c) := ⟨⟨List.nodup_nil,fun _ h=>(by cases h),h1⟩,h2⟩
theorem Core.gather (h : Core node E kept lo n S) (op : S.op.length ≤ o) (oe : S.oe.length ≤ o) (last : S.last.d.msg.body = [] ∧ S.last.c.ents = [] ∧ S.last.t.ask.length ≤ 1000) : Inv node E kept lo n (o + 1) S.gather := by
 refine Inv.join (S := { ({ S with next := noWay,again := none,begun := false } : Rg).become 0 ⟨0,4,20,0⟩ with g := some (newG S.node S.counter) }) (o := o) ?_
 refine Core.inv ⟨h.nd,h.nr,h.clk,h.lw,h.ctr,h.kp,h.ke,h.wn,h.cn,h.cr,h.dn,h.ne,h.ord,h.done,h.told,h.wq,h.wl,h.len⟩ ?_ ⟨_,rfl,newG_gok (by rw [h.nd];exact h.nr) h.ctr,h.nd⟩ (.inl rfl) op oe last
 exact tm_of_bd (t := ⟨0,4,20,0⟩) (by decide) (by decide) (by decide) (by decide)
theorem Inv.gather (h : Inv node E kept lo n o S) : Inv node E kept lo n (o + 1) S.gather := h.c.gather h.op h.oe h.last
theorem Inv.enter (h : Inv node E kept lo n o S) {r1 r2 mem : Int} (hr : S.counter < r1) (hl : liveR r1 r2 = true) (hm : crewOk mem = true) (hh : hasC mem node = true) : Inv node E kept lo n o (S.enter r1 r2 mem) := by
 have hf := liveR_facts hl
 have hcr := h.c.cr
 have hc0 := h.c.ctr
 have hke : kept ≤ S.counter := by
  rcases h.c.ke with h1 | h1 <;> omega
 refine ⟨⟨h.c.nd,h.c.nr,h.c.clk,h.c.lw,⟨?_,hf.2.1⟩,h.c.kp,.inr ⟨rfl,?_⟩,h.c.wn,h.c.cn,?_,h.c.dn,h.c.ne,h.c.ord,h.c.done,fun e he=>(h.c.told e he).up ?_ (Int.le_refl _),h.c.wq,h.c.wl,h.c.len⟩,?_,h.g,by show 0 ≤ (1 : Int) ∧ (1 : Int) ≤ 3;decide,fun _=>?_,fun hs=>?_,h.op,h.oe,h.last⟩
 ·show 0 ≤ r1;omega
 ·show kept < r1;omega
 ·show S.now.cfg.rs ≤ r1;omega
 ·show S.counter ≤ r1;omega
 ·exact tm_of_bd (t := ⟨40,0,0,0⟩) (by decide) (by decide) (by decide) (by decide)
 ·refine ⟨⟨rfl,hm,hh,hl,by show 0 ≤ (0 : Int) ∧ (0 : Int) ≤ maxN;decide⟩,?_,Int.le_refl _,h.c.nd,rfl,rfl⟩
  show S.now.cfg.rs < r1
  omega
 ·exact absurd (show (1 : Int) = 2 from hs) (by decide)
theorem Inv.hear (h : Inv node E kept lo n o S) (hs : S.state = 0) (j : Jn) : Inv node E kept lo n (o + 2) (S.hear j) := by
 obtain ⟨G,hG,hGo,hGn⟩ := h.g
 have eG : S.gth = G := by unfold Rg.gth;rw [hG];rfl
 rw [hear_eq]
 have h1 : Inv node E kept lo n o (S.hear1 j) := by
  unfold Rg.hear1
  rw [eG]
  refine Core.inv ⟨h.c.nd,h.c.nr,h.c.clk,h.c.lw,h.c.ctr,h.c.kp,h.c.ke,h.c.wn,h.c.cn,h.c.cr,h.c.dn,h.c.ne,h.c.ord,h.c.done,h.c.told,h.c.wq,h.c.wl,h.c.len⟩ h.tm ⟨_,rfl,hearG_gok hGo,?_⟩ (.inl hs) h.op h.oe h.last
  unfold hearG
  split <;> exact hGn
 have h2 : Inv node E kept lo n (o + 1) (S.hear2 j) ∧ (S.hear2 j).state = 0 := by
  unfold Rg.hear2
  split
  ·exact ⟨h1.join,hs⟩
  ·exact ⟨h1.up (Nat.le_refl _) (by omega),hs⟩
 have h3 : Inv node E kept lo n (o + 1) (if chgdG S.gth j then { S.hear2 j with tm := (S.hear2 j).tm.set 2 20 } else S.hear2 j) := by
  split
  ·exact h2.1.tms (tm_set_bd h2.1.tm (by decide))
  ·exact h2.1
 generalize (if chgdG S.gth j then { S.hear2 j with tm := (S.hear2 j).tm.set 2 20 } else S.hear2 j) = X at *
 clear h2 h1 hs hG eG hGo hGn
 obtain ⟨G',hG',hGo',hGn'⟩ := h3.g
 have eG : X.gth = G' := by unfold Rg.gth;rw [hG'];rfl
 unfold Rg.hear3
 dsimp only
 split
 ·exact h3.up (Nat.le_refl _) (by omega)
 split
 ·rename_i hnum
  rw [eG]
  have hh := heard_ok hGo'.j
  refine Inv.hand (o := o + 1) (h3.enter ?_ ?_ hh.1 ?_) _
  ·unfold Rg.number;omega
  ·refine liveR_of ⟨?_,hnum⟩ h3.nodeR
   have := h3.c.ctr
   unfold Rg.number
   omega
  ·rw [← hGn'];exact hh.2
 ·exact h3.up (Nat.le_refl _) (by omega)
theorem topE_nn : ∀ (l : List Ent) (m : Int),0 ≤ m → 0 ≤ l.foldl (fun m e=>max m e.clock) m
 | [],_,h=>h
 | e :: r,m,h=>topE_nn r (max m e.clock) (by omega)
theorem stampC_rng (x : Cmt) : 0 ≤ stampC x ∧ stampC x ≤ maxN := by
 unfold stampC
 split
 ·have := topE_nn x.ents 0 (Int.le_refl _)
  unfold topE maxN
  omega
 ·decide
theorem abv_lenD {D : List Dat} (q : Int) : (abvT D q).length ≤ D.length := by
 unfold abvT abvS
 rw [List.length_map]
 refine Nat.le_trans (List.length_filter_le _ _) ?_
 unfold sqs
 rw [sortI_len,List.length_map]
 exact Nat.le_refl _
theorem abv_in {D : List Dat} {q : Int} {d : Dat} (h : d ∈ abvT D q) : d ∈ D := by
 have h2 := abv_gt h
 rw [h2.2.2]
 exact getT_mem h2.2.1
theorem bytesM_byt {d : Dat} (h : (old d).2 = 0) (hb : Byt d.msg.body) : MQ (old d).1 := by
 unfold old at h ⊢
 split at h
 ·rename_i hc
  rw [if_pos hc]
  have hm := hc.1
  have hck := check_oldM hc.1 hb hc.2.1 hc.2.2
  have hl := (check_ok hck).1
  unfold mayOld at hm
  rw [decide_eq_true_eq] at hm
  refine ⟨⟨?_,?_⟩,?_⟩
  ·show 0 ≤ d.stamp ∧ d.stamp ≤ maxN
   unfold maxN
   omega
  ·show (bytesM d.msg).length ≤ _
   have : (bytesM d.msg).length ≤ 160 := hl
   omega
  ·show Byt (bytesM d.msg)
   exact Byt.bytes hb hc.2.1
 ·cases h
end
section
variable {node : Int} {E : List EvD} {kept lo : Int} {n o : Nat} {S : Rg}
theorem kin_facts {x : Cmt} (hx : cmtB x = true) {r1 r2 : Int} {nd m : Int} (hn : ∃ e ∈ x.ents,e.node = nd ∧ e.o1 = r1 ∧ e.o2 = r2) (hm : withinC (kinC2 x r1 r2).1 m = true) : KinOk nd (kinC2 x r1 r2).1 m x.mem := by
 have hk : (kinC2 x r1 r2).1 = memE (kinE x.ents r1 r2) := by unfold kinC2;rw [if_pos hx]
 have hes := (cmt_ents hx).1
 have hsub : ∀ e ∈ kinE x.ents r1 r2,e ∈ x.ents := fun e he=>(List.mem_filter.1 he).1
 have hnode : ∀ e ∈ kinE x.ents r1 r2,1 ≤ e.node ∧ e.node ≤ 8 := fun e he=>hasC_rng (hes e (hsub e he)).2
 obtain ⟨e,he,h1,h2⟩ := hn
 have hin : e ∈ kinE x.ents r1 r2 := List.mem_filter.2 ⟨he,by rw [decide_eq_true_eq];exact h2⟩
 have hnd : 1 ≤ nd ∧ nd ≤ 8 := by rw [← h1];exact hnode e hin
 refine ⟨by rw [hk];exact memE_ok hnode,?_,hm,?_⟩
 ·rw [hk,memE_has hnode hnd,List.any_eq_true]
  exact ⟨e,hin,by rw [decide_eq_true_eq];exact h1.symm⟩
 ·rw [within_iff]
  intro k hk2
  have hkr := hasC_rng hk2
  rw [hk,memE_has hnode hkr,List.any_eq_true] at hk2
  obtain ⟨e2,h5,h6⟩ := hk2
  rw [decide_eq_true_eq] at h6
  rw [h6]
  exact (hes e2 (hsub e2 h5)).2
theorem newWay_ok {c : Cfg} (h : crewOk c.mem = true) : WayOk (newWay c) :=
 ⟨rfl,⟨List.nodup_nil,fun _ h=>(by cases h),fun _ h=>(by cases h)⟩,by show 0 ≤ (0 : Int) ∧ (0 : Int) ≤ maxN;decide,fun _ h=>(by cases h),h⟩
theorem sendL_mq {D : List Dat} {q r1 r2 clk : Int} (h : DOk r1 r2 clk D) : ∀ m ∈ sendL (abvT D q),MQ m := by
 intro m hm
 unfold sendL at hm
 rw [List.mem_filterMap] at hm
 obtain ⟨d,hd,he⟩ := hm
 split at he
 ·rename_i h0
  cases he
  exact bytesM_byt h0 (h.byt d (abv_in hd))
 ·cases he
theorem Inv.regain (h : Inv node E kept lo n o S) {x : Cmt} (hx : cmtB x = true) (h1 : S.now.cfg.rs < x.r1) (h2 : x.r1 ≤ S.counter) (h3 : hasC x.mem node = true)
  (h4 : ∃ e ∈ x.ents,e.node = node ∧ e.o1 = S.now.cfg.rs ∧ e.o2 = S.now.cfg.rr) (h5 : withinC (kinC2 x S.now.cfg.rs S.now.cfg.rr).1 S.now.cfg.mem = true) : Inv node E kept lo n o (S.regain x) := by
 have hst := stampC_rng x
 have hx2 := hx
 unfold cmtB comHead at hx2
 simp only [Bool.and_eq_true] at hx2
 have hmem := hx2.1.1.1.1
 have hlive := hx2.1.1.2
 have hr := Inv.raise (S := S) h hst.2
 refine ⟨⟨hr.c.nd,hr.c.nr,hr.c.clk,hr.c.lw,hr.c.ctr,hr.c.kp,hr.c.ke,hr.c.wn,hr.c.cn,hr.c.cr,hr.c.dn,hr.c.ne,hr.c.ord,hr.c.done,hr.c.told,hr.c.wq,hr.c.wl,hr.c.len⟩,?_,hr.g,by show 0 ≤ (2 : Int) ∧ (2 : Int) ≤ 3;decide,fun hs=>?_,fun _=>?_,hr.op,hr.oe,hr.last⟩
 ·exact tm_of_bd (t := ⟨40,0,0,0⟩) (by decide) (by decide) (by decide) (by decide)
 ·exact absurd (show (2 : Int) = 1 from hs) (by decide)
 ·refine ⟨newWay_ok hmem,⟨rfl,hmem,h3,hlive,hst⟩,h1,h2,DOk.nil,Nat.zero_le _,kin_facts hx h4 h5,⟨_,rfl,sendL_mq h.c.dn,?_⟩⟩
  have hq := abv_lenD (D := S.now.D) (kinC2 x S.now.cfg.rs S.now.cfg.rr).2
  exact Nat.le_trans (List.length_filterMap_le _ _) (Nat.le_trans hq h.c.len)
theorem next_ord {D : List Dat} {safe : Int} {ow : Orv} (hD : WOk D) (hr : ∀ d ∈ D,d.rseq = ow.now.rs ∧ d.rrep = ow.now.rr) : ∀ (m : Nat) (k q : Int),q ≤ k →
  ∃ q',ordRun node (nextGo D safe m k).1 { ow with seq := q } = some { ow with seq := q' } ∧ q' ≤ (nextGo D safe m k).2 ∧ k ≤ (nextGo D safe m k).2 ∧ (k ≤ maxN → (nextGo D safe m k).2 ≤ maxN) ∧ (∀ e ∈ (nextGo D safe m k).1,∃ d ∈ D,e = msgE d) ∧ (nextGo D safe m k).1.length ≤ m
 | 0,k,q,hq=>⟨q,rfl,hq,Int.le_refl _,id,fun _ h=>(by cases h),Nat.le_refl _⟩
 | m + 1,k,q,hq=>by
  unfold nextGo
  split
  ·exact ⟨q,rfl,hq,Int.le_refl _,id,fun _ h=>(by cases h),Nat.zero_le _⟩
  ·rename_i hs
   have hs2 : stopB D safe k = false := by simpa using hs
   unfold stopB at hs2
   rw [Bool.or_eq_false_iff] at hs2
   have hh : hasD D (k + 1) = true := by simpa using hs2.1
   have hd := getT_mem hh
   have hseq := getT_seq hh
   have hrr := hr _ hd
   have hmx := (hD.rng _ hd).2.1
   obtain ⟨q1,e1,e2⟩ := ord_tell (node := node) (o := { ow with seq := q }) hrr.1 hrr.2 (by show q < _;rw [hseq];omega)
   rw [hseq] at e2 hmx
   obtain ⟨q2,f1,f2,f3,f4,f5,f6⟩ := next_ord hD hr m (k + 1) q1 e2
   dsimp only
   refine ⟨q2,?_,f2,by omega,fun _=>f4 (by unfold maxN;omega),fun e he=>?_,?_⟩
   ·rw [ordRun_app,e1,Option.bind_some]
    exact f1
   ·rcases List.mem_append.1 he with he | he
    ·exact ⟨_,hd,(tell_mem he).1⟩
    ·exact f5 e he
   ·rw [List.length_append]
    have : (tellD (getT D (k + 1))).length ≤ 1 := by unfold tellD;split <;> simp
    omega
theorem Inv.deliver (h : Inv node E kept lo n o S) : Inv node E kept lo n (o + n) S.deliver := by
 obtain ⟨q,hq,hq2⟩ := h.c.ord
 obtain ⟨q2,f1,f2,f3,f4,f5,f6⟩ := next_ord (node := node) (D := S.now.D) (safe := S.now.safe) (ow := ⟨S.now.cfg,zeroCfg,0⟩) h.c.wn.ok h.c.dn.ring S.now.D.length S.done q hq2
 have hlen := h.c.len
 have hoe := h.oe
 refine ⟨⟨h.c.nd,h.c.nr,h.c.clk,h.c.lw,h.c.ctr,h.c.kp,h.c.ke,h.c.wn,h.c.cn,h.c.cr,h.c.dn,?_,⟨q2,?_,f2⟩,⟨?_,f4 h.c.done.2⟩,fun e he=>?_,h.c.wq,h.c.wl,h.c.len⟩,
  h.tm,h.g,h.st,fun hs=>let t := h.one hs;⟨t.c,t.lt,t.le,t.own⟩,fun hs=>let t := h.two hs;⟨t.w,t.c,t.lt,t.le,t.d,t.len,t.kin,t.ag⟩,Nat.le_trans h.op (by omega),?_,h.last⟩
 ·show E ++ (S.oe ++ _) ≠ []
  rw [← List.append_assoc]
  intro h9
  exact h.c.ne (List.append_eq_nil_iff.1 h9).1
 ·show ordF node (E ++ (S.oe ++ _)) = _
  rw [← List.append_assoc,ordF_app node _ h.c.ne,hq,Option.bind_some]
  exact f1
 ·have := h.c.done.1
  show 0 ≤ (nextGo S.now.D S.now.safe S.now.D.length S.done).2
  omega
 ·rcases List.mem_append.1 (show e ∈ S.oe ++ _ from he) with he | he
  ·exact h.c.told e he
  ·obtain ⟨d,hd,rfl⟩ := f5 e he
   exact ToldOk.msg (h.c.dn.st d hd)
 ·show (S.oe ++ _).length ≤ _
  rw [List.length_append]
  omega
theorem prog_in {safe kin : Int} {t : EvD} : ∀ (L : List Dat) (at_ : Int) (p g : Bool),(∀ e ∈ progT safe kin t at_ p g L,e = t ∨ ∃ d ∈ L,e = msgE d) ∧ (progT safe kin t at_ p g L).length ≤ 2 * L.length + 1
 | [],at_,p,g=>by
  unfold progT
  split
  ·exact ⟨fun _ h=>(by cases h),by simp⟩
  ·exact ⟨fun e h=>.inl (List.mem_singleton.1 h),by simp⟩
 | d :: r,at_,p,g=>by
  unfold progT
  dsimp only
  generalize (g || !decide (d.seq = at_ + 1)) = g'
  generalize (!p && (g' || (d.msg.safe && decide (safe < d.seq)))) = cut
  obtain ⟨i1,i2⟩ := prog_in (safe := safe) (kin := kin) (t := t) r d.seq (p || cut) g'
  constructor
  ·intro e he
   rcases List.mem_append.1 he with he | he
   ·rcases List.mem_append.1 he with he | he
    ·split at he
     ·exact .inl (List.mem_singleton.1 he)
     ·cases he
    ·split at he
     ·exact .inr ⟨d,List.mem_cons_self ..,(tell_mem he).1⟩
     ·cases he
   ·rcases i1 e he with h | ⟨x,hx,h⟩
    ·exact .inl h
    ·exact .inr ⟨x,List.mem_cons_of_mem _ hx,h⟩
  ·have hp : (p || cut) = true → (progT safe kin t d.seq (p || cut) g' r).length ≤ 2 * r.length + 1 := fun _=>i2
   have h1 : (if cut then [t] else []).length ≤ 1 := by split <;> simp
   have h2 : (if !g' || hasC kin d.sender then tellD d else []).length ≤ 1 := by
    split
    ·unfold tellD;split <;> simp
    ·simp
   simp only [List.length_append,List.length_cons]
   omega
theorem abv_pw {D : List Dat} (hD : WOk D) (q : Int) : ((abvT D q).map Dat.seq).Pairwise (·< ·) := by
 have e : (abvT D q).map Dat.seq = (sqs D).filter fun s=>decide (q < s) := by
  unfold abvT abvS
  rw [List.map_map]
  conv=>rhs;rw [← List.map_id ((sqs D).filter fun s=>decide (q < s))]
  exact List.map_congr_left fun s hs=>getT_seq (mem_sqs.1 (List.mem_filter.1 hs).1)
 rw [e]
 exact (sqs_asc hD).filter _
theorem may_two (h : Inv node E kept lo n o S) (t : Two node n S) : mayC S.old S.kin S.next.cfg = true := by
 have hd := h.c.done
 unfold mayC Rg.old
 dsimp only
 rw [h.c.cn.mem,t.c.mem,t.kin.ok,h.c.cn.live,t.c.live,decide_eq_true (rings_pos t.lt),decide_eq_true hd.1,t.kin.l,t.kin.r,decide_eq_false]
 ·rfl
 ·intro h0
  have := t.kin.has
  rw [h0,hasC_zero] at this
  cases this
theorem Inv.install (h : Inv node E kept lo n o S) (hs : S.state = 2) : Inv node E kept lo n (o + 2 * n + 2) S.install := by
 have t := h.two hs
 have hm := may_two h t
 obtain ⟨q,hq,hq2⟩ := h.c.ord
 have hL : toldA S.now.D S.old S.kin S.next.cfg = toldT S.now.D S.done S.now.safe S.kin (trC S.old S.kin S.next.cfg) (nxC S.next.cfg) := by
  unfold toldA
  rw [if_pos hm]
  rfl
 have hnx : nxC S.next.cfg = S.next.cfg := by
  have := t.c.plain
  conv=>rhs;rw [this]
  rfl
 have hpl := t.c.plain
 have htr : (nxC S.next.cfg).trans = false := rfl
 have hle := abv_lenD (D := S.now.D) S.done
 have hlen := h.c.len
 obtain ⟨p1,p2⟩ := prog_in (safe := S.now.safe) (kin := S.kin) (t := cfgE (trC S.old S.kin S.next.cfg)) (abvT S.now.D S.done) S.done false false
 obtain ⟨q2,f1⟩ := ord_prog (node := node) (safe := S.now.safe) (kin := S.kin) (t := trC S.old S.kin S.next.cfg) rfl (abvT S.now.D S.done) S.done false false ⟨S.now.cfg,zeroCfg,q⟩ hq2 (fun d hd=>(abv_gt hd).1) (abv_pw h.c.wn.ok _) (fun d hd=>h.c.dn.ring d (abv_in hd)) (fun h=>(by cases h)) (fun _=>by
  unfold ordTr trC
  dsimp only
  rw [t.kin.has,and_within t.kin.ok t.kin.l]
  simp [Rg.old,zeroCfg])
 have hord : ordF node (E ++ (S.oe ++ toldA S.now.D S.old S.kin S.next.cfg)) = some ⟨S.next.cfg,zeroCfg,0⟩ := by
  rw [← List.append_assoc,ordF_app node _ h.c.ne,hq,Option.bind_some,hL]
  unfold toldT
  rw [ordRun_app,f1,Option.bind_some]
  show (ordStep node false _ (cfgE (nxC S.next.cfg))).bind (ordRun node []) = _
  unfold ordStep
  rw [if_neg (show ¬ (cfgE (nxC S.next.cfg)).kind = 2 from (by decide : ¬ (1 : Int) = 2)),if_neg (show ¬ (cfgE (nxC S.next.cfg)).cfg.trans = true from (by decide : ¬ false = true)),if_pos]
  ·rw [hnx];rfl
  ·show (hasC S.next.cfg.mem node && (false || (true && decide (S.next.cfg.rs = S.next.cfg.rs ∧ S.next.cfg.rr = S.next.cfg.rr) && decide (0 < ringsI S.next.cfg.rs S.next.cfg.rr S.now.cfg.rs S.now.cfg.rr) && decide (andI .i64 S.kin S.next.cfg.mem = S.kin)))) = true
   rw [t.c.has,decide_eq_true (rings_pos t.lt),decide_eq_true (and_within t.kin.ok t.kin.r)]
   simp
 refine Core.inv ⟨h.c.nd,h.c.nr,h.c.clk,h.c.lw,h.c.ctr,h.c.kp,h.c.ke,t.w,t.c,t.le,t.d,?_,⟨0,hord,Int.le_refl _⟩,by show 0 ≤ (0 : Int) ∧ (0 : Int) ≤ maxN;decide,fun e he=>?_,h.c.wq,h.c.wl,t.len⟩ h.tm h.g (.inr rfl) (Nat.le_trans h.op (by omega)) ?_ h.last
 ·show E ++ (S.oe ++ _) ≠ []
  rw [← List.append_assoc]
  intro h9
  exact h.c.ne (List.append_eq_nil_iff.1 h9).1
 ·rcases List.mem_append.1 (show e ∈ S.oe ++ _ from he) with he | he
  ·exact h.c.told e he
  ·rw [hL] at he
   unfold toldT at he
   rcases List.mem_append.1 he with he | he
   ·rcases p1 e he with rfl | ⟨d,hd,rfl⟩
    ·exact ToldOk.cfg t.le
    ·exact ToldOk.msg (h.c.dn.st d (abv_in hd))
   ·rw [List.mem_singleton.1 he]
    exact ToldOk.cfg t.le
 ·show (S.oe ++ _).length ≤ _
  rw [List.length_append,hL]
  unfold toldT
  rw [List.length_append]
  have := h.oe
  show _ + (_ + 1) ≤ _
  omega
end
end Go.Proofs.YtohbcfokihplbaaGreatDoor
