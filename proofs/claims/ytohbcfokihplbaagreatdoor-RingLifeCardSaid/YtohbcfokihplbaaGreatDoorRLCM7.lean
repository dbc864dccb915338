/-
  Whom a node hears: the program's package gather.
-/
import Derived.Test.YtohbcfokihplbaaGreatDoorRLCM6
import Derived.Maps.RangeRun
set_option linter.unusedSimpArgs false
set_option linter.unusedVariables false
namespace Go.Proofs.YtohbcfokihplbaaGreatDoor
open Go.Hb
attribute [local irreducible] LR CW At Ev thn blk finK noG again CallsTo DW QL dnext TW DP
set_option maxRecDepth 100000
def entOk (e : Ent) (n : Int) : Bool := decide (e.node = n) && liveR e.o1 e.o2 && [e.aru,e.high,e.clock].all numB && decide (e.aru ≤ e.high)
def entsOk : List Ent → List Int → Bool
 | [],_=>true
 | _ :: _,[]=>false
 | e :: r,n :: l=>entOk e n && entsOk r l
theorem entsOk_cons (e : Ent) (n : Int) (r : List Ent) (l : List Int) : entsOk (e :: r) (n :: l) = (entOk e n && entsOk r l) := rfl
def minE (a b : Int) : Int := if b < a then b else a
def comHead (x : Cmt) : Bool := crewOk x.mem && !decide (x.mem = 0) && liveR x.r1 x.r2
def comMid (x : Cmt) (to : Int) (l : List Int) : Bool :=
 decide (x.r2 = l.getD 0 0) && decide (1 ≤ x.hop ∧ x.hop ≤ 2 * (l.length : Int)) && decide ((x.ents.length : Int) = minE x.hop l.length) && decide (to = l.getD (x.hop.tmod l.length).toNat 0)
def mayCm (x : Cmt) (to : Int) : Bool := comHead x && comMid x to (crewL x.mem) && entsOk x.ents (crewL x.mem)
theorem tmod_bdP (i n : Int) (h : 0 < n) : -n < i.tmod n ∧ i.tmod n < n := by
 have h1 := Int.tmod_lt_of_pos i h
 have h2 := Int.lt_tmod_of_pos i h
 exact ⟨h2,h1⟩
theorem crewL_pos {m : Int} (h : crewOk m = true) (h0 : m ≠ 0) : 0 < (crewL m).length := by
 rcases Nat.eq_zero_or_pos (crewL m).length with h1 | h1
 ·exfalso
  have h2 : crewL m = [] := List.eq_nil_of_length_eq_zero h1
  have h3 : sumL (crewL m) = sumB m := sumL_crew m 8 (by omega)
  rw [h2] at h3
  rw [← (sumB_ok m).2 h,← h3] at h0
  exact h0 rfl
 ·exact h1
set_option maxHeartbeats 8000000 in
theorem p63 (x : Cmt) (to : Int) (a : Option Addr) (c : Nat) (w : World) (hr : Rd w a (x.ents.flatMap Ent.cells)) (hI : -9223372036854775808 ≤ x.mem ∧ x.mem ≤ 9223372036854775807) :
  CallsTo Tryz.prog 75 [x.val a c,.int .i64 to] w fun v w'=>v = .bool (mayCm x to) ∧ Grew w w' := by
 refine go_in (n := 105) (St.rd1 hr) Tryz.func75 rfl rfl ?_
 cases hh : comHead x
 ·have hmt : mayCm x to = false := by unfold mayCm;rw [hh];rfl
  rw [hmt]
  repeat'(first|(apply kB;(iterate 2 exact rfl);intro b1)|refine gz ?_|(apply kq;(·exact rfl);(·intro w1 h1;first | exact CallsTo.q (q61 x.mem w1 hI) h1 | exact CallsTo.q (p64 x.r1 x.r2 w1) h1))|(refine gs ?_ ?_;all_goals(intro hc;try simp only[hcs]at hc;try exact abz)))
  all_goals try (exfalso;unfold comHead at hh;simp_all;done)
  all_goals (
   (apply ret1;(·exact rfl);intro w' hS)
   exact ⟨rfl,hS.toKeep⟩)
 ·have hh' := hh
  unfold comHead at hh'
  simp only [Bool.and_eq_true,Bool.not_eq_true',decide_eq_false_iff_not] at hh'
  obtain ⟨⟨hck,hm0⟩,hlv⟩ := hh'
  have hlp := crewL_pos hck hm0
  have hl8 : (crewL x.mem).length ≤ 8 := crewTo_len x.mem 8
  have hq61 : (if crewOk x.mem = true then (0 : Int) else 2) = 0 := by rw [if_pos hck]
  have hmt : mayCm x to = (comMid x to (crewL x.mem) && entsOk x.ents (crewL x.mem)) := by unfold mayCm;rw [hh];rfl
  rw [hmt]
  repeat'(first|(apply kB;(iterate 2 exact rfl);intro b1)|refine gz ?_|(apply kq;(·exact rfl);(·intro w1 h1;first | (have hq := CallsTo.q (q61 x.mem w1 hI) h1;rw [hq61] at hq;exact hq) | (have hq := CallsTo.q (p64 x.r1 x.r2 w1) h1;rw [hlv] at hq;exact hq)))|(refine gs ?_ ?_;all_goals(intro hc;try simp only[hcs]at hc;try exact abz)))
  apply LR.call
  ·exact rfl
  intro w1 h1
  refine (p97 x.mem w1).mono ?_
  rintro v w2 ⟨a2,c2,rfl,hn⟩
  obtain ⟨l,hl⟩ : ∃ l,crewL x.mem = l := ⟨_,rfl⟩
  rw [hl] at hn hlp hl8 ⊢
  obtain ⟨bg,og,rfl⟩ := (ownsRow_rd (ownsRow_zero hn.own)).form (fun e=>by have h2 := congrArg List.length e;simp only [iv_length,List.length_nil] at h2;omega)
  refine LR.back (h1.newSl hn) ?_
  clear hn h1
  have hl0 : (iv l)[(0 : Int).toNat * 1]? = some (.int .i64 (l.getD 0 0)) := by
   rw [show (0 : Int).toNat * 1 = 0 from rfl,iv_get hlp,List.getD_eq_getElem?_getD,List.getElem?_eq_getElem hlp]
   rfl
  have htm : 1 ≤ x.hop → 0 ≤ x.hop.tmod (l.length : Int) ∧ x.hop.tmod (l.length : Int) < (l.length : Int) := fun h=>⟨Int.tmod_nonneg _ (by omega),(tmod_bdP x.hop l.length (by omega)).2⟩
  have hlk : 1 ≤ x.hop → (iv l)[(x.hop.tmod (l.length : Int)).toNat * 1]? = some (.int .i64 (l.getD (x.hop.tmod (l.length : Int)).toNat 0)) := fun h=>by
   have h2 := htm h
   rw [Nat.mul_one,iv_get (by omega),List.getD_eq_getElem?_getD,List.getElem?_eq_getElem (by omega)]
   rfl
  repeat'(first|(apply CW.reg_heldC)|refine gz ?_)
  all_goals (
   apply DW.quiet [0,1,2,3,4,5,6,7,8,9,10,11,12]
   ·decide +kernel
   ·exact stZ
   repeat'(first|refine yv' ?_|(apply QL.ev;(·exact rfl);(·first | (apply Ev.indexAddr;(·exact rfl);(·exact rfl);(·omega);(·omega)) | (apply Ev.load_osl;(·exact rfl);(·exact memZ);(·first | exact hl0 )) |fail);(·exact rfl))|(apply QL.evg;(·exact rfl);(·exact rfl);(·exact rfl);(·first | (apply Ev.mul;(·exact rfl);(·exact rfl);(·omega);(·omega)) |fail);(·exact rfl))|refine uv' ?_|refine un' ?_|(refine us' ?_ ?_;all_goals(intro hc;try simp only[hcs]at hc;try exact abz))|apply QL.nil)
   all_goals (show DW _ _ _ _ _ _ _ _))
  all_goals (
   apply DW.loud 13
   ·exact rfl
   ·decide +kernel
   repeat'(first|refine gw ?_|(apply kq;(·exact rfl);(·intro w1 h1;exact CallsTo.q (p88 x.hop 1 (2 * (l.length : Int)) w1) h1)))
   all_goals (refine ats ?_))
  all_goals (
   apply DW.quiet [14,15,16,17,18,19,20,21,22,23,24,25,26,27,28,29,30,31,32,33,34,35,36,37,38]
   ·decide +kernel
   ·exact stZ
   repeat'(first|refine yv' ?_|(apply QL.evg;(·exact rfl);(·exact rfl);(·exact rfl);(·first | (apply Ev.indexAddr;(·exact rfl);(·exact rfl);(·omega);(·omega)) | (apply Ev.load_osl;(·exact rfl);(·exact memZ);(·first | exact hlk (by omega))) | (apply Ev.rem;(·exact rfl);(·exact rfl);(·omega)) | (exact Ev.min2 rfl rfl));(·exact rfl))|refine uv' ?_|refine un' ?_|(refine us' ?_ ?_;all_goals(intro hc;try simp only[hcs]at hc;try exact abz))|apply QL.nil)
   all_goals (show DW _ _ _ _ _ _ _ _))
  all_goals (first | (apply DW.done_thn;(·decide +kernel)) |fail)
  repeat'(first|refine gz ?_|(refine gs ?_ ?_;all_goals(intro hc;try simp only[hcs]at hc;try exact abz)))
  all_goals try (
   (apply ret1;(·exact rfl);intro w' hS)
   refine ⟨congrArg Value.bool ?_,hS.toKeep⟩
   cases hcm : comMid x to l
   ·rfl
   ·exfalso
    unfold comMid minE at hcm
    simp only [Bool.and_eq_true,decide_eq_true_eq] at hcm
    obtain ⟨⟨⟨g1,g2⟩,g3⟩,g4⟩ := hcm
    first | exact absurd g1 (by assumption) | exact absurd g2 (by assumption) | exact absurd g3 (by assumption) | exact absurd g4 (by assumption))
  have hcm : comMid x to l = true := by
   unfold comMid minE
   simp only [Bool.and_eq_true,decide_eq_true_eq]
   exact ⟨⟨⟨by assumption,by assumption⟩,by assumption⟩,by assumption⟩
  have hel : x.ents.length ≤ l.length ∧ x.ents.length ≤ 1000 := by
   unfold comMid minE at hcm
   simp only [Bool.and_eq_true,decide_eq_true_eq] at hcm
   have := hcm.1.2
   split at this <;> omega
  rw [hcm,Bool.true_and]
  apply CW.loop [4,6,7,68,69,70,71,72,73,74,75,76,77,78,79,80,81,82,83,84,85,86,87,88,89,90,91,92,93,94,95,96,97,98,99,100,101,102,103,104] (fun i : Nat=>i ≤ x.ents.length ∧ entsOk x.ents l = entsOk (x.ents.drop i) (l.drop i)) (fun i=>[(68,Value.int .i64 (i : Int))])
   (fun _=>St w NoF [osl (.slice (some ⟨bg,og,none⟩) l.length c2) 3 1 l.length (iv l),rdA a (x.ents.flatMap Ent.cells)]) (fun i=>x.ents.length - i)
  ·intro w' hw'
   exact ⟨0,⟨by simp,by simp⟩,⟨rfl,trivial⟩,hw'.sub subN⟩
  intro i g1 ⟨hi,heq⟩
  by_cases hlt : i < x.ents.length
  ·have hil : i < l.length := by omega
   obtain ⟨be,oe,rfl⟩ := hr.form (rows_ne Ent.cells_len (by omega) hlt)
   rw [List.drop_eq_getElem_cons hlt,List.drop_eq_getElem_cons hil,entsOk_cons] at heq
   obtain ⟨e,he⟩ : ∃ e,x.ents[i] = e := ⟨_,rfl⟩
   have hcl : ∀ w',Rd w' (some ⟨be,oe,none⟩) (x.ents.flatMap Ent.cells) → ∀ j v,e.cells[j]? = some v → w'.cell? ((⟨be,oe + (i : Int).toNat * 6,none⟩ : Addr).add j) = some v := fun w' h=>by
    rw [← he]
    exact rd_row Ent.cells_len h hlt (by omega)
   rw [he] at heq
   have hnv : (iv l)[(i : Int).toNat * 1]? = some (.int .i64 l[i]) := iv_at (by omega) hil
   obtain ⟨n,hn⟩ : ∃ n,l[i] = n := ⟨_,rfl⟩
   rw [hn] at hnv heq
   repeat'(first|(apply CW.reg_heldC)|refine gz ?_|refine gy fun _=>?_|(apply idxX;(iterate 2 exact rfl);(iterate 2(first|omega));exact rfl)|(apply LR.ev;(·apply Ev.load_agg_at (cs := e.cells);(·exact rfl);(·exact rfl);(·intro w' hw';exact hcl w' (hw'.rd_of memZ)));(·exact rfl))|(refine gs ?_ ?_;all_goals(intro hc;try simp only[hcs]at hc;try exact abz)))
   all_goals (
    apply DW.quiet [0,1,2,3,4,5,6,7,8,9]
    ·decide +kernel
    ·exact stZ
    repeat'(first|refine yv' ?_|(apply QL.ev;(·exact rfl);(·first | (apply Ev.indexAddr;(·exact rfl);(·exact rfl);(·omega);(·omega)) | (apply Ev.load_osl;(·exact rfl);(·exact memZ);(·exact hnv)));(·exact rfl))|refine uv' ?_|refine un' ?_|(refine us' ?_ ?_;all_goals(intro hc;try simp only[hcs]at hc;try exact abz))|apply QL.nil)
    all_goals (show DW _ _ _ _ _ _ _ _))
   all_goals (
    apply DW.loud 10
    ·exact rfl
    ·decide +kernel
    repeat'(first|refine gw ?_|(apply kq;(·exact rfl);(·intro w1 h1;first | exact CallsTo.q (p64 e.o1 e.o2 w1) h1 )))
    all_goals (refine ats ?_))
   all_goals (
    apply DW.quiet [11,12,13,14,15,16,17,18,19]
    ·decide +kernel
    ·exact stZ
    repeat'(first|refine yv' ?_|refine uv' ?_|refine un' ?_|(refine us' ?_ ?_;all_goals(intro hc;try simp only[hcs]at hc;try exact abz))|apply QL.nil)
    all_goals (show DW _ _ _ _ _ _ _ _))
   all_goals (
    apply DW.loud 20
    ·exact rfl
    ·decide +kernel
    repeat'(first|(apply Go.Hb.kK;(iterate 4 exact rfl);intro b93)|refine gw ?_)
    all_goals (refine ats ?_))
   all_goals (
    apply DW.loud 21
    ·exact rfl
    ·decide +kernel
    repeat'(first|refine gw ?_|(apply kq;(·exact rfl);(·intro w1 h1;first | exact CallsTo.q (p62 (some ⟨b93,0,none⟩) 3 [e.aru,e.high,e.clock] w1 (h1.rd_of_blk memZ) (by simp)) h1)))
    all_goals (refine ats ?_))
   all_goals (
    apply DW.quiet [22,23,24,25,26,27,28,29,30]
    ·decide +kernel
    ·exact stZ
    repeat'(first|refine yv' ?_|refine uv' ?_|refine un' ?_|(refine us' ?_ ?_;all_goals(intro hc;try simp only[hcs]at hc;try exact abz))|apply QL.nil)
    all_goals (show DW _ _ _ _ _ _ _ _))
   all_goals (first | (apply DW.done_thn;(·decide +kernel)) |fail)
   repeat'(first|refine gz ?_|(apply addX;(iterate 2 exact rfl);(iterate 2(first|omega));exact rfl)|(refine gs ?_ ?_;all_goals(intro hc;try simp only[hcs]at hc;try exact abz)))
   all_goals try (
    (apply ret1;(·exact rfl);intro w' hS)
    refine ⟨congrArg Value.bool ?_,hS.toKeep⟩
    rw [heq]
    cases hen : entOk e n
    ·rfl
    ·exfalso
     unfold entOk at hen
     simp only [Bool.and_eq_true,decide_eq_true_eq] at hen
     obtain ⟨⟨⟨g1,g2⟩,g3⟩,g4⟩ := hen
     first | exact absurd g1 (by assumption) | exact absurd (g2.symm.trans (show liveR e.o1 e.o2 = false by assumption)) (by decide) | exact absurd (g3.symm.trans (show [e.aru,e.high,e.clock].all numB = false by assumption)) (by decide) | omega)
   have hen : entOk e n = true := by
    unfold entOk
    simp only [Bool.and_eq_true,decide_eq_true_eq]
    exact ⟨⟨⟨by assumption,by assumption⟩,by assumption⟩,by omega⟩
   rw [hen,Bool.true_and] at heq
   refine At.again (i + 1) ⟨by omega,heq⟩ ?_ ⟨rfl,trivial⟩ (fun w' hw'=>hw'.sub subN) (by omega)
   exact outZ
  ·have hie : i = x.ents.length := by omega
   subst hie
   rw [List.drop_length] at heq
   repeat'(first|refine gz ?_|(refine gs ?_ ?_;all_goals(intro hc;try simp only[hcs]at hc;try exact abz)))
   (apply ret1;(·exact rfl);intro w' hS)
   exact ⟨congrArg Value.bool heq.symm,hS.toKeep⟩
theorem Ev.shape_ne {C : World → Prop} {f : Frm} {T T'' : TypeId} {x y : Operand} {a b c d e a' b' c' d' e' : Bool} (hx : f.ev x = .agg [.bool a,.bool b,.bool c,.bool d,.bool e].toArray) (hy : f.ev y = .agg [.bool a',.bool b',.bool c',.bool d',.bool e'].toArray) : Ev Tryz.prog C f (.binOp .neq 143 x y T'') T (.bool (!decide ([a,b,c,d,e] = [a',b',c',d',e']))) := by
 unfold Ev
 intro w _ dd p af g
 have key : (do eqGuard .neq 143 x y (.agg [.bool a,.bool b,.bool c,.bool d,.bool e].toArray) (.agg [.bool a',.bool b',.bool c',.bool d',.bool e'].toArray);binOp .neq 143 (.agg [.bool a,.bool b,.bool c,.bool d,.bool e].toArray) (.agg [.bool a',.bool b',.bool c',.bool d',.bool e'].toArray) : Sem Value).run Tryz.prog w = .ok (.bool (!decide ([a,b,c,d,e] = [a',b',c',d',e']))) w := by
  have e0 : decide ([a,b,c,d,e] = [a',b',c',d',e']) = (a == a' && (b == b' && (c == c' && (d == d' && e == e')))) := by
   rw [Bool.eq_iff_iff]
   simp
  rw [e0]
  simp [go_sem,Sem.run_bind,run_eqGuard_agg,run_eql_struct,run_neq_struct,run_equalIn_agg,run_equalIn_int,run_equalIn_bool,Tryz.underlying4,Tryz.underlying143,Tryz.stoodInHeld143,Tryz.eqGuardType143,Bool.and_assoc]
  repeat' split
  all_goals simp_all
 simp only [execOp,hx,hy]
 rw [Sem.run_bind,key]
 rfl
def shapeB (p : Pkt) : List Bool := [dataS p.d,tokS p.t,joinS p,comS p.c,beaS p]
def wantK (k : Int) : List Bool := [decide (k = 1),decide (k = 2),decide (k = 3),decide (k = 4),decide (k = 5)]
def mayP (p : Pkt) : Bool :=
 if p.kind = 1 then decide (p.to = 0) && mayD p.d
 else if p.kind = 2 then nodeB p.to && mayT p.t
 else if p.kind = 3 then decide (p.to = 0) && nodeB p.j1 && crewOk p.j2 && hasC p.j2 p.j1 && [p.j3].all numB
 else if p.kind = 4 then mayCm p.c p.to
 else if p.kind = 5 then decide (p.to = 0) && liveR p.b1 p.b2 && nodeB p.b3
 else false
def chkP (p : Pkt) : Bool := mayP p && decide (shapeB p = wantK p.kind)
structure PktR (w : World) (p : Pkt) (A : PAd) : Prop where
 hd : Rd w A.da (bv p.d.msg.body)
 hdz : A.da = none → A.dc = 0
 hdb : Byt p.d.msg.body
 hdm : p.d.msg.body.length ≤ 140737488351232
 ht : Rd w A.ta (iv p.t.ask)
 htz : A.ta = none → A.tc = 0
 htm : p.t.ask.length ≤ 17592186043904
 hc : Rd w A.ca (p.c.ents.flatMap Ent.cells)
 hcz : A.ca = none → A.cc = 0
 hcm : p.c.ents.length ≤ 2932031007317
def PktI (p : Pkt) : Prop := (-9223372036854775808 ≤ p.c.mem ∧ p.c.mem ≤ 9223372036854775807) ∧ (-9223372036854775808 ≤ p.j2 ∧ p.j2 ≤ 9223372036854775807)
theorem PktR.old {w w' : World} {L : List Asrt} {p : Pkt} {A : PAd} (h : PktR w p A) (hS : St w NoF L w') : PktR w' p A :=
 ⟨hS.oldRd h.hd,h.hdz,h.hdb,h.hdm,hS.oldRd h.ht,h.htz,h.htm,hS.oldRd h.hc,h.hcz,h.hcm⟩
theorem chk_no {p : Pkt} (h : mayP p = false ∨ ¬ shapeB p = wantK p.kind) : (if chkP p then (0 : Int) else 2) = 2 := by
 unfold chkP
 rcases h with h | h
 ·rw [h];rfl
 ·rw [decide_eq_false h,Bool.and_false];rfl
theorem chk_yes {p : Pkt} (h : mayP p = true) (h2 : shapeB p = wantK p.kind) : (if chkP p then (0 : Int) else 2) = 0 := by
 unfold chkP
 rw [h,decide_eq_true h2];rfl
set_option maxHeartbeats 16000000 in
theorem p31 (p : Pkt) (A : PAd) (w : World) (hR : PktR w p A) (hI : PktI p) : CallsTo Tryz.prog 46 [p.val A] w fun v w'=>v = .int .i64 (if chkP p then 0 else 2) ∧ Grew w w' := by
 refine go_in (n := 99) (St.refl _ NoF) Tryz.func46 rfl rfl ?_
 by_cases hk1 : p.kind = 1
 ·repeat'(first|(apply kB;(iterate 2 exact rfl);intro b1)|refine gz ?_|refine gy fun _=>?_|(apply kq;(·exact rfl);(·intro w1 h1;first | exact CallsTo.q (p57 p A w1) h1 | exact CallsTo.q (show CallsTo Tryz.prog 70 [p.d.val A.da A.dc] w1 _ from p58 p.d A.da A.dc w1 (hR.old h1).hd hR.hdz (by have := hR.hdm;omega) hR.hdb) h1 ))|(apply LR.ev;(·exact Ev.shape_ne (a := dataS p.d) (b := tokS p.t) (c := joinS p) (d := comS p.c) (e := beaS p) rfl rfl);(·exact rfl))|(refine gs ?_ ?_;all_goals(intro hc;try simp only[hcs]at hc;try exact abz)))
  all_goals (
   (apply ret1;(·exact rfl);intro w' hS)
   refine ⟨congrArg (Value.int .i64) ?_,hS.toKeep⟩
   have hw : wantK p.kind = [true,false,false,false,false] := by rw [hk1];rfl
   have hm : mayP p = (decide (p.to = 0) && mayD p.d) := by
    unfold mayP
    rw [if_pos hk1]
   first
    | (refine (chk_no (.inr ?_)).symm;rw [hw];unfold shapeB;simp_all;done)
    | (refine (chk_no (.inl ?_)).symm;rw [hm];simp_all;done)
    | (refine (chk_yes ?_ ?_).symm;(·rw [hm];simp_all;done);(·rw [hw];unfold shapeB;simp_all;done)))
 by_cases hk2 : p.kind = 2
 ·repeat'(first|(apply kB;(iterate 2 exact rfl);intro b1)|refine gz ?_|refine gy fun _=>?_|(apply kq;(·exact rfl);(·intro w1 h1;first | exact CallsTo.q (p57 p A w1) h1 | exact CallsTo.q (p59 p.to w1) h1 | exact CallsTo.q (show CallsTo Tryz.prog 72 [p.t.val A.ta A.tc] w1 _ from p60 p.t A.ta A.tc w1 (hR.old h1).ht) h1 ))|(apply LR.ev;(·exact Ev.shape_ne (a := dataS p.d) (b := tokS p.t) (c := joinS p) (d := comS p.c) (e := beaS p) rfl rfl);(·exact rfl))|(refine gs ?_ ?_;all_goals(intro hc;try simp only[hcs]at hc;try exact abz)))
  all_goals (
   (apply ret1;(·exact rfl);intro w' hS)
   refine ⟨congrArg (Value.int .i64) ?_,hS.toKeep⟩
   have hw : wantK p.kind = [false,true,false,false,false] := by rw [hk2];rfl
   have hm : mayP p = (nodeB p.to && mayT p.t) := by
    unfold mayP
    rw [if_neg hk1,if_pos hk2]
   first
    | (refine (chk_no (.inr ?_)).symm;rw [hw];unfold shapeB;simp_all;done)
    | (refine (chk_no (.inl ?_)).symm;rw [hm];simp_all;done)
    | (refine (chk_yes ?_ ?_).symm;(·rw [hm];simp_all;done);(·rw [hw];unfold shapeB;simp_all;done)))
 by_cases hk3 : p.kind = 3
 ·repeat'(first|(apply kB;(iterate 2 exact rfl);intro b1)|(apply Go.Hb.kK;(iterate 4 exact rfl);intro bs)|refine gz ?_|refine gy fun _=>?_|(apply kq;(·exact rfl);(·intro w1 h1;first | exact CallsTo.q (p57 p A w1) h1 | exact CallsTo.q (p59 p.j1 w1) h1 | exact CallsTo.q (q61 p.j2 w1 hI.2) h1 | exact CallsTo.q (q23 p.j2 p.j1 w1) h1 | exact CallsTo.q (p62 (some ⟨bs,0,none⟩) 1 [p.j3] w1 (h1.rd_of_blk memZ) (by simp)) h1 ))|(apply LR.ev;(·exact Ev.shape_ne (a := dataS p.d) (b := tokS p.t) (c := joinS p) (d := comS p.c) (e := beaS p) rfl rfl);(·exact rfl))|(refine gs ?_ ?_;all_goals(intro hc;try simp only[hcs]at hc;try exact abz)))
  all_goals (
   (apply ret1;(·exact rfl);intro w' hS)
   refine ⟨congrArg (Value.int .i64) ?_,hS.toKeep⟩
   have hw : wantK p.kind = [false,false,true,false,false] := by rw [hk3];rfl
   have hm : mayP p = (decide (p.to = 0) && nodeB p.j1 && crewOk p.j2 && hasC p.j2 p.j1 && [p.j3].all numB) := by
    unfold mayP
    rw [if_neg hk1,if_neg hk2,if_pos hk3]
   first
    | (refine (chk_no (.inr ?_)).symm;rw [hw];unfold shapeB;simp_all;done)
    | (refine (chk_no (.inl ?_)).symm;rw [hm];simp_all;done)
    | (refine (chk_yes ?_ ?_).symm;(·rw [hm];simp_all;done);(·rw [hw];unfold shapeB;simp_all;done)))
 by_cases hk4 : p.kind = 4
 ·repeat'(first|(apply kB;(iterate 2 exact rfl);intro b1)|refine gz ?_|refine gy fun _=>?_|(apply kq;(·exact rfl);(·intro w1 h1;first | exact CallsTo.q (p57 p A w1) h1 | exact CallsTo.q (show CallsTo Tryz.prog 75 [p.c.val A.ca A.cc,.int .i64 p.to] w1 _ from p63 p.c p.to A.ca A.cc w1 (hR.old h1).hc hI.1) h1 ))|(apply LR.ev;(·exact Ev.shape_ne (a := dataS p.d) (b := tokS p.t) (c := joinS p) (d := comS p.c) (e := beaS p) rfl rfl);(·exact rfl))|(refine gs ?_ ?_;all_goals(intro hc;try simp only[hcs]at hc;try exact abz)))
  all_goals (
   (apply ret1;(·exact rfl);intro w' hS)
   refine ⟨congrArg (Value.int .i64) ?_,hS.toKeep⟩
   have hw : wantK p.kind = [false,false,false,true,false] := by rw [hk4];rfl
   have hm : mayP p = (mayCm p.c p.to) := by
    unfold mayP
    rw [if_neg hk1,if_neg hk2,if_neg hk3,if_pos hk4]
   first
    | (refine (chk_no (.inr ?_)).symm;rw [hw];unfold shapeB;simp_all;done)
    | (refine (chk_no (.inl ?_)).symm;rw [hm];simp_all;done)
    | (refine (chk_yes ?_ ?_).symm;(·rw [hm];simp_all;done);(·rw [hw];unfold shapeB;simp_all;done)))
 by_cases hk5 : p.kind = 5
 ·repeat'(first|(apply kB;(iterate 2 exact rfl);intro b1)|refine gz ?_|refine gy fun _=>?_|(apply kq;(·exact rfl);(·intro w1 h1;first | exact CallsTo.q (p57 p A w1) h1 | exact CallsTo.q (p64 p.b1 p.b2 w1) h1 | exact CallsTo.q (p59 p.b3 w1) h1))|(apply LR.ev;(·exact Ev.shape_ne (a := dataS p.d) (b := tokS p.t) (c := joinS p) (d := comS p.c) (e := beaS p) rfl rfl);(·exact rfl))|(refine gs ?_ ?_;all_goals(intro hc;try simp only[hcs]at hc;try exact abz)))
  all_goals (
   (apply ret1;(·exact rfl);intro w' hS)
   refine ⟨congrArg (Value.int .i64) ?_,hS.toKeep⟩
   have hw : wantK p.kind = [false,false,false,false,true] := by rw [hk5];rfl
   have hm : mayP p = (decide (p.to = 0) && liveR p.b1 p.b2 && nodeB p.b3) := by
    unfold mayP
    rw [if_neg hk1,if_neg hk2,if_neg hk3,if_neg hk4,if_pos hk5]
   first
    | (refine (chk_no (.inr ?_)).symm;rw [hw];unfold shapeB;simp_all;done)
    | (refine (chk_no (.inl ?_)).symm;rw [hm];simp_all;done)
    | (refine (chk_yes ?_ ?_).symm;(·rw [hm];simp_all;done);(·rw [hw];unfold shapeB;simp_all;done)))
 have hm : mayP p = false := by
  unfold mayP
  rw [if_neg hk1,if_neg hk2,if_neg hk3,if_neg hk4,if_neg hk5]
 repeat'(first|(apply kB;(iterate 2 exact rfl);intro b1)|refine gz ?_|refine gy fun _=>?_|(apply kq;(·exact rfl);(·intro w1 h1;exact CallsTo.q (p57 p A w1) h1))|(refine gs ?_ ?_;all_goals(intro hc;try simp only[hcs]at hc;try exact abz)))
 all_goals (
  (apply ret1;(·exact rfl);intro w' hS)
  exact ⟨congrArg (Value.int .i64) (chk_no (.inl hm)).symm,hS.toKeep⟩)
end Go.Proofs.YtohbcfokihplbaaGreatDoor
namespace Go.Proofs.YtohbcfokihplbaaGreatDoor
open Go.Hb
set_option maxRecDepth 100000
def maxN : Int := 9007199254740991
structure Tm where
 a : Int
 b : Int
 c : Int
 d : Int
def Tm.get (t : Tm) (k : Int) : Int := if k = 0 then t.a else if k = 1 then t.b else if k = 2 then t.c else if k = 3 then t.d else 0
def Tm.set (t : Tm) (k v : Int) : Tm := if k = 0 then { t with a := v } else if k = 1 then { t with b := v } else if k = 2 then { t with c := v } else if k = 3 then { t with d := v } else t
def noTm : Tm := ⟨0,0,0,0⟩
def dec1 (x : Int) : Int := if x = 0 then 0 else x - 1
def Tm.tick (t : Tm) : Tm := ⟨dec1 t.a,dec1 t.b,dec1 t.c,dec1 t.d⟩
def Tm.due (t : Tm) : List Int := [0,1,2,3].filter fun k=>decide (t.get k = 1)
structure Jn where
 s : Int
 p : Int
 c : Int
structure Gth where
 node : Int
 counter : Int
 top : Int
 last : List Jn
def knows (l : List Jn) (s : Int) : Bool := l.any fun j=>decide (j.s = s)
def sameJ (x y : Jn) : Bool := decide (x.s = y.s ∧ x.p = y.p ∧ x.c = y.c)
def putJ (l : List Jn) (j : Jn) : List Jn := if knows l j.s then l.map (fun x=>if x.s = j.s then j else x) else l ++ [j]
def heardL (c : Int) (l : List Jn) : Int := l.foldl (fun c j=>orI .i64 c (2 ^ j.s.toNat)) c
def Gth.heard (g : Gth) : Int := heardL (2 ^ g.node.toNat) g.last
def Gth.agreed (g : Gth) : Bool := g.last.all fun j=>decide (j.p = g.heard)
def mayJ (j : Jn) : Bool := crewOk j.p && hasC j.p j.s && numB j.c
def hearG (g : Gth) (j : Jn) : Gth := if mayJ j && !decide (j.s = g.node) then { g with top := max g.top j.c,last := putJ g.last j } else g
def grewG (g : Gth) (j : Jn) : Bool := mayJ j && !decide (j.s = g.node) && !knows g.last j.s
def chgdG (g : Gth) (j : Jn) : Bool := mayJ j && !decide (j.s = g.node) && !g.last.any (fun x=>sameJ x j)
def noCmt : Cmt := ⟨0,0,0,0,[]⟩
def cmtMid (x : Cmt) (l : List Int) : Bool := decide (x.r2 = l.getD 0 0) && decide (1 ≤ x.hop ∧ x.hop ≤ 2 * (l.length : Int)) && decide ((x.ents.length : Int) = minE x.hop l.length)
def cmtB (x : Cmt) : Bool := comHead x && cmtMid x (crewL x.mem) && entsOk x.ents (crewL x.mem)
def chkdC (x : Cmt) : Cmt × Int := if cmtB x then (x,0) else (noCmt,2)
def newC (r1 r2 mem : Int) (own : Ent) : Cmt × Int := chkdC ⟨r1,r2,mem,1,[own]⟩
def nextN (x : Cmt) : Int := (crewL x.mem).getD (x.hop.tmod (crewL x.mem).length).toNat 0
def visC (x : Cmt) (node : Int) : Int :=
 if cmtB x && decide (nextN x = node) then (if x.hop < (crewL x.mem).length then 1 else if x.hop < 2 * ((crewL x.mem).length : Int) then 2 else 3) else 0
def onC (x : Cmt) (more : List Ent) : Cmt × Int := chkdC { x with hop := x.hop + 1,ents := x.ents ++ more }
def addC (x : Cmt) (own : Ent) : Cmt × Int := if visC x own.node = 1 then onC x [own] else (noCmt,2)
def cntC (m : Int) : Int := (crewL m).length
def passC (x : Cmt) : Cmt × Int := if cmtB x && !decide (x.hop < cntC x.mem) then onC x [] else (noCmt,2)
def topE (l : List Ent) : Int := l.foldl (fun m e=>max m e.clock) 0
def stampC (x : Cmt) : Int := if cmtB x then min (topE x.ents + 1) maxN else 0
def kinE (l : List Ent) (o1 o2 : Int) : List Ent := l.filter fun e=>decide (e.o1 = o1 ∧ e.o2 = o2)
def memE (l : List Ent) : Int := l.foldl (fun m e=>orI .i64 m (2 ^ e.node.toNat)) 0
def lowE : List Ent → Int
 | []=>0
 | e :: r=>r.foldl (fun m x=>min m x.aru) e.aru
def kinC2 (x : Cmt) (o1 o2 : Int) : Int × Int := if cmtB x then (memE (kinE x.ents o1 o2),lowE (kinE x.ents o1 o2)) else (0,0)
structure Way where
 cfg : Cfg
 dat : Option (List Dat × Int)
 hop : Int
 left : Int
 safe : Int
def noWay : Way := ⟨zeroCfg,none,0,0,0⟩
def newWay (c : Cfg) : Way := ⟨c,some ([],0),0,-1,0⟩
def Way.D (w : Way) : List Dat := match w.dat with | some x=>x.1 | none=>[]
def Way.high (w : Way) : Int := match w.dat with | some x=>x.2 | none=>0
def aruGo (D : List Dat) : Nat → Int → Int
 | 0,k=>k
 | n + 1,k=>if hasD D (k + 1) then aruGo D n (k + 1) else k
def aruF (D : List Dat) : Int := aruGo D D.length 0
def Way.aru (w : Way) : Int := aruF w.D
def Way.put (w : Way) (d : Dat) : Way := { w with dat := w.dat.map fun x=>(wpD x.1 d,wpH x.1 x.2 d) }
def zeroTkn : Tkn := ⟨0,0,0,0,0,0,0,0,[]⟩
def zeroPkt : Pkt := ⟨0,0,zeroDat,zeroTkn,0,0,0,noCmt,0,0,0⟩
def Tk.n (t : Tk) : Tkn := ⟨t.r1,t.r2,t.hop,t.seq,t.aru,t.low,t.stamp,t.idle,t.ask⟩
def Tkn.k (t : Tkn) : Tk := ⟨t.r1,t.r2,t.hop,t.seq,t.aru,t.low,t.stamp,t.idle,t.ask⟩
structure Rg where
 node : Int
 counter : Int
 clock : Int
 state : Int
 tm : Tm
 wq : List Msg
 now : Way
 done : Int
 g : Option Gth
 next : Way
 own : Ent
 kin : Int
 again : Option (List Msg)
 begun : Bool
 last : Pkt
 oc : Int
 op : List Pkt
 oe : List EvD
def zeroEnt : Ent := ⟨0,0,0,0,0,0⟩
def Rg.keep (S : Rg) (n : Int) : Rg := { S with counter := n,oc := n }
def Rg.send (S : Rg) (p : Pkt) : Rg := { S with op := S.op ++ [p] }
def Rg.tell (S : Rg) (l : List EvD) : Rg := { S with oe := S.oe ++ l }
def Rg.raise (S : Rg) (n : Int) : Rg := { S with clock := max S.clock n }
def Rg.become (S : Rg) (st : Int) (t : Tm) : Rg := { S with state := st,tm := t }
def Rg.gth (S : Rg) : Gth := S.g.getD ⟨0,0,0,[]⟩
def ownJ (g : Gth) : Jn := ⟨g.node,g.heard,g.counter⟩
def joinP (j : Jn) : Pkt := { zeroPkt with kind := 3,j1 := j.s,j2 := j.p,j3 := j.c }
def dataP (d : Dat) : Pkt := { zeroPkt with kind := 1,d := d }
def cmtP (x : Cmt) : Pkt := { zeroPkt with kind := 4,to := nextN x,c := x }
def beaP (c : Cfg) (node : Int) : Pkt := { zeroPkt with kind := 5,b1 := c.rs,b2 := c.rr,b3 := node }
def Rg.join (S : Rg) : Rg := S.send (joinP (ownJ S.gth))
def newG (node counter : Int) : Gth := ⟨node,counter,counter,[]⟩
def Rg.gather (S : Rg) : Rg :=
 { ({ S with next := noWay,again := none,begun := false } : Rg).become 0 ⟨0,4,20,0⟩ with g := some (newG S.node S.counter) }.join
def Rg.entry (S : Rg) : Ent := ⟨S.node,S.now.cfg.rs,S.now.cfg.rr,S.now.aru,S.now.high,S.clock⟩
def plainCfg (r1 r2 mem stamp : Int) : Cfg := ⟨r1,r2,0,0,mem,false,stamp⟩
def Rg.enter (S : Rg) (r1 r2 mem : Int) : Rg :=
 let S1 : Rg := { S.keep r1 with next := { S.next with cfg := plainCfg r1 r2 mem 0 } }
 ({ S1 with own := S1.entry } : Rg).become 1 ⟨40,0,0,0⟩
def Rg.hand (S : Rg) (x : Cmt × Int) : Rg := if x.2 = 0 then S.send (cmtP x.1) else S
def Rg.number (S : Rg) : Int := max S.gth.top S.counter + 1
def leastC (m : Int) : Int := (crewL m).headD 0
def Rg.hear (S : Rg) (j : Jn) : Rg :=
 let S1 : Rg := { S with g := some (hearG S.gth j) }
 let S2 := if grewG S.gth j then S1.join else S1
 let S3 : Rg := if chgdG S.gth j then { S2 with tm := S2.tm.set 2 20 } else S2
 let mem := S3.gth.heard
 if !S3.gth.agreed || !decide (leastC mem = S.node) || decide (cntC mem = 1) then S3
 else if S3.number ≤ maxN then
  let S4 := S3.enter S3.number S.node mem
  S4.hand (newC S3.number S.node mem S4.own)
 else S3
def Rg.regain (S : Rg) (x : Cmt) : Rg :=
 let k := kinC2 x S.now.cfg.rs S.now.cfg.rr
 (({ S with kin := k.1,next := newWay (plainCfg x.r1 x.r2 x.mem (stampC x)),again := some (sendL (abvT S.now.D k.2)),begun := false } : Rg).raise (stampC x)).become 2 ⟨40,0,0,0⟩
def nextGo (D : List Dat) (safe : Int) : Nat → Int → List EvD × Int
 | 0,k=>([],k)
 | n + 1,k=>if stopB D safe k then ([],k) else
  let r := nextGo D safe n (k + 1)
  (tellD (getT D (k + 1)) ++ r.1,r.2)
def Rg.deliver (S : Rg) : Rg :=
 let r := nextGo S.now.D S.now.safe S.now.D.length S.done
 { S with oe := S.oe ++ r.1,done := r.2 }
def Rg.old (S : Rg) : OldC := ⟨S.now.cfg,S.done,S.now.safe⟩
def toldA (D : List Dat) (o : OldC) (kin : Int) (nx : Cfg) : List EvD := if mayC o kin nx then toldT D o.done o.safe kin (trC o kin nx) (nxC nx) else []
def Rg.install (S : Rg) : Rg :=
 { S.tell (toldA S.now.D S.old S.kin S.next.cfg) with now := S.next,next := noWay,done := 0,again := none,state := 3 }
def Rg.way (S : Rg) : Way := if S.state = 2 then S.next else S.now
def Rg.setWay (S : Rg) (w : Way) : Rg := if S.state = 2 then { S with next := w } else { S with now := w }
def allow (waiting seq aru : Int) : Int := max (min (min waiting 4) (32 - (if aru < seq then min (seq - aru) 32 else 0))) 0
def Rg.leftS (S : Rg) : Int := if S.state = 3 then S.wq.length else ((S.again.getD []).length : Int)
def Rg.more (S : Rg) : Int := if S.state = 3 then 1 else 0
def Rg.take1 (S : Rg) : Option (Msg × Rg) :=
 if S.state = 3 then (match S.wq with | m :: r=>some (m,{ S with wq := r }) | []=>none)
 else (match S.again with | some (m :: r)=>some (m,{ S with again := some r }) | _=>none)
def fromZ (m : Msg) : Bool := decide (m.stamp = 0 ∧ m.rseq = 0 ∧ m.rrep = 0 ∧ m.kseq = 0)
def Rg.fill : Nat → Rg → Tk → Rg × Tk
 | 0,S,t=>(S,t)
 | n + 1,S,t=>
  if decide (t.seq = maxN) || (decide (0 < S.more) && decide (max t.stamp S.clock = maxN)) then (S,t)
  else match S.take1 with
   | none=>(S,t)
   | some (m,S1)=>
    let s0 := max (max t.stamp S1.clock) m.stamp
    let st := if fromZ m then s0 + S.more else s0
    let d : Dat := ⟨t.r1,t.r2,t.seq + 1,S1.node,st,m⟩
    Rg.fill n (((S1.raise st).setWay ((S1.raise st).way.put d)).send (dataP d)) { t with seq := t.seq + 1,stamp := st }
def Rg.answer (S : Rg) (t : Tk) : Rg × Tk :=
 ({ S with op := S.op ++ (t.ask.filter (hasD S.way.D)).map fun s=>dataP (getT S.way.D s) },{ t with ask := t.ask.filter fun s=>!hasD S.way.D s })
def Way.came (w : Way) (t : Tk) : Way := { w with hop := t.hop,safe := max w.safe (min w.left t.aru),dat := w.dat.map fun x=>(x.1,seeH x.2 t.seq) }
def idleT (t : Tk) (quiet : Bool) : Tk := if quiet then (if t.idle < maxN then { t with idle := t.idle + 1 } else t) else { t with idle := 0 }
def nextC (m n : Int) : Int := ((crewL m).find? fun k=>decide (n < k)).getD (leastC m)
def Rg.resend (S : Rg) : Rg := S.send S.last
def tokP (to : Int) (t : Tk) : Pkt := { zeroPkt with kind := 2,to := to,t := t.n }
def Rg.visit (S : Rg) (t0 : Tk) : Rg :=
 let S1 := (S.setWay (S.way.came t0)).raise t0.stamp
 let S2 := if S1.state = 2 ∧ cntC S1.way.cfg.mem ≤ t0.idle then S1.install else S1
 let r3 := S2.answer t0
 let r4 := r3.1.fill (allow r3.1.leftS r3.2.seq r3.2.aru).toNat r3.2
 let S4 := r4.1
 let t4 := r4.2
 let t5 := if S4.state = 2 then idleT t4 (decide (t4.seq = t0.seq) && decide ((S4.again.getD []).length = 0) && decide (S4.way.aru = t4.seq)) else t4
 let t6 := visitT t5 S4.node S4.way.aru (gapsT S4.way.D S4.way.high 16)
 let S5 := S4.setWay { S4.way with left := t6.aru }
 let S6 := if S5.state = 3 then S5.deliver else S5
 let S7 : Rg := { S6 with last := tokP (nextC S6.way.cfg.mem S6.node) t6 }
 let S8 : Rg := { S7.resend with tm := (S7.tm.set 0 40).set 3 12 }
 if S8.state = 3 ∧ leastC S8.way.cfg.mem = S8.node then S8.send (beaP S8.way.cfg S8.node) else S8
def Rg.begin (S : Rg) : Rg :=
 let S1 : Rg := { S with begun := true }
 let t := newTk S.next.cfg.rs S.next.cfg.rr S.next.cfg.stamp
 if t.2 = 0 then S1.visit t.1 else S1
def Rg.foreign (S : Rg) (r1 r2 sender : Int) : Rg :=
 if S.state = 3 ∧ ¬ (r1 = S.now.cfg.rs ∧ r2 = S.now.cfg.rr) ∧ ¬ (hasC S.now.cfg.mem sender = true ∧ r1 < S.now.cfg.rs) then S.gather else S
def Way.of (w : Way) (d : Dat) : Bool := decide (w.cfg.rs = d.rseq ∧ w.cfg.rr = d.rrep) && hasC w.cfg.mem d.sender
def Rg.takeData (S : Rg) (d : Dat) : Rg :=
 if (S.state = 3 ∨ S.state = 0) ∧ S.now.of d = true then ((({ S with now := S.now.put d } : Rg).raise d.stamp).raise d.msg.stamp).deliver
 else if S.state = 2 ∧ S.next.of d = true then
  let S1 := (({ S with next := S.next.put d } : Rg).raise d.stamp).raise d.msg.stamp
  if d.msg.kind = 5 then { S1 with now := { S1.now with dat := S1.now.dat.map fun x=>(tkD S1.now.cfg.rs S1.now.cfg.rr x.1 d.msg,tkH S1.now.cfg.rs S1.now.cfg.rr x.1 x.2 d.msg) } } else S1
 else S.foreign d.rseq d.rrep d.sender
def Rg.takeToken (S : Rg) (t : Tk) : Rg :=
 if (S.state = 3 ∨ S.state = 2) ∧ (t.r1 = S.way.cfg.rs ∧ t.r2 = S.way.cfg.rr) ∧ S.way.hop < t.hop ∧ t.hop < maxN then S.visit t else S
def Rg.takeJoin (S : Rg) (j : Jn) : Rg :=
 let c := if S.state = 3 then S.now.cfg else S.next.cfg
 if S.state = 0 then S.hear j
 else if hasC c.mem j.s = true ∧ j.c < c.rs then S
 else S.gather.hear j
def sameE (x y : Ent) : Bool := decide (x.nums = y.nums)
def Rg.trusts (S : Rg) (x : Cmt) : Bool := x.ents.any (fun e=>sameE e S.own) && decide (andNotI .i64 (kinC2 x S.now.cfg.rs S.now.cfg.rr).1 S.now.cfg.mem = 0)
def Rg.takeCommit (S : Rg) (x : Cmt) : Rg :=
 if visC x S.node = 1 then
  (if S.state = 0 ∧ x.mem = S.gth.heard ∧ S.counter < x.r1 then
   let S1 := S.enter x.r1 x.r2 x.mem
   S1.hand (addC x S1.own) else S)
 else if visC x S.node = 2 then
  (if S.state = 1 ∧ (x.r1 = S.next.cfg.rs ∧ x.r2 = S.next.cfg.rr) ∧ x.mem = S.next.cfg.mem ∧ S.trusts x = true then (S.hand (passC x)).regain x else S)
 else if visC x S.node = 3 then
  (if S.state = 2 ∧ (x.r1 = S.next.cfg.rs ∧ x.r2 = S.next.cfg.rr) ∧ S.begun = false then S.begin else S)
 else S
structure OutV where
 c : Int
 p : List Pkt
 e : List EvD
def noOut : OutV := ⟨0,[],[]⟩
def Rg.out (S : Rg) : OutV := ⟨S.oc,S.op,S.oe⟩
def Rg.flush (S : Rg) : Rg := { S with oc := 0,op := [],oe := [] }
def Rg.take0 (S : Rg) (p : Pkt) : Rg :=
 if p.kind = 1 then S.takeData p.d else if p.kind = 2 then S.takeToken p.t.k else if p.kind = 3 then S.takeJoin ⟨p.j1,p.j2,p.j3⟩
 else if p.kind = 4 then S.takeCommit p.c else S.foreign p.b1 p.b2 p.b3
def mineP (S : Rg) (p : Pkt) : Bool := (!decide (p.to = 0) && !decide (p.to = S.node)) || decide (p.d.sender = S.node) || decide (p.j1 = S.node) || decide (p.b3 = S.node)
def Rg.take (S : Rg) (p : Pkt) : Rg × OutV × Int :=
 if !chkP p then (S,noOut,2) else if mineP S p then (S,noOut,0) else ((S.take0 p).flush,(S.take0 p).out,0)
def Rg.alone (S : Rg) : Rg :=
 if maxN < S.number then S
 else
  let x := newC S.number S.node (2 ^ S.node.toNat) S.entry
  if x.2 = 0 then ((S.keep S.number).regain x.1).begin else S
def Rg.rings (S : Rg) (kind : Int) : Rg :=
 if kind = 0 ∧ S.state ≠ 0 then S.gather
 else if kind = 1 ∧ S.state = 0 then { S.join with tm := S.join.tm.set 1 4 }
 else if kind = 2 ∧ S.state = 0 then (if S.gth.heard = 2 ^ S.node.toNat then S.alone else S.gather)
 else if kind = 3 ∧ (S.state = 3 ∨ S.state = 2) then { S.resend with tm := S.resend.tm.set 3 12 }
 else S
def Rg.tick (S : Rg) : Rg × OutV × Int :=
 let S1 := S.tm.due.foldl Rg.rings { S with tm := S.tm.tick }
 (S1.flush,S1.out,0)
def Rg.fire (S : Rg) (kind : Int) : Rg × OutV × Int :=
 if kind < 0 ∨ 4 ≤ kind then (S,noOut,2)
 else if S.tm.get kind = 0 then (S,noOut,80)
 else
  let S1 := ({ S with tm := S.tm.set kind 0 } : Rg).rings kind
  (S1.flush,S1.out,0)
def sendE (n : Nat) (l : List Msg) : Int := if l.any (fun m=>decide (check m ≠ 0)) then 2 else if 32 - (n : Int) < (l.length : Int) then 7 else 0
def Rg.sendM (S : Rg) (l : List Msg) : Rg × Int := (if sendE S.wq.length l = 0 then { S with wq := S.wq ++ l } else S,sendE S.wq.length l)
def mayNew (node counter : Int) : Bool := decide (1 ≤ node ∧ node ≤ 8 ∧ 0 ≤ counter ∧ counter < maxN)
def newRg0 (node counter : Int) : Rg :=
 let c := plainCfg (counter + 1) node (2 ^ node.toNat) 0
 (((⟨node,0,0,0,noTm,[],newWay c,0,none,noWay,zeroEnt,0,none,false,zeroPkt,0,[],[]⟩ : Rg).keep (counter + 1)).tell [cfgE c]).gather
def newRg (node counter : Int) : Rg × OutV := ((newRg0 node counter).flush,(newRg0 node counter).out)
end Go.Proofs.YtohbcfokihplbaaGreatDoor
namespace Go.Hb
def intK (q : IntKind) (a : Int) : Value := .int q a
def okK (_ : Int) : Prop := True
theorem findNow_l (q : IntKind) (a : Int) : ∀ (es : List MapEntry) (l : List (Int × Value)) (i : Nat),es.map (fun e=>(e.key,e.val)) = l.map (fun p=>(intK q p.1,p.2)) →
  (Instr.findNow (.int q) (.int q a) es i = some none ∧ ∀ p ∈ l,p.1 ≠ a) ∨ ∃ j u,Instr.findNow (.int q) (.int q a) es i = some (some (i + j,u)) ∧ l[j]? = some (a,u)
 | [],l,i,h=>by
  have hl : l = [] := by cases l with | nil=>rfl | cons p r=>simp at h
  subst hl
  exact .inl ⟨rfl,by simp⟩
 | e :: es,l,i,h=>by
  cases l with
  | nil=>simp at h
  | cons p r=>
   simp only [List.map_cons,List.cons.injEq,Prod.mk.injEq] at h
   obtain ⟨⟨h1,h2⟩,h3⟩ := h
   have hs : Instr.sameNow (.int q) (.int q a) e.key = some (decide (a = p.1)) := by
    rw [h1]
    simp only [Instr.sameNow,intK]
    congr 1
   by_cases hp : a = p.1
   ·refine .inr ⟨0,e.val,?_,?_⟩
    ·rw [Instr.findNow,hs,decide_eq_true hp];rfl
    ·simp [hp,h2]
   ·rcases findNow_l q a es r (i + 1) h3 with ⟨h4,h5⟩ | ⟨j,u,h4,h5⟩
    ·refine .inl ⟨by simp [Instr.findNow,hs,hp,h4],fun x hm=>?_⟩
     rcases List.mem_cons.1 hm with rfl | hm
     ·exact fun e=>hp e.symm
     ·exact h5 x hm
    ·refine .inr ⟨j + 1,u,?_,by simpa using h5⟩
     rw [show i + (j + 1) = i + 1 + j by omega]
     simp [Instr.findNow,hs,hp,h4]
theorem KMap.ofInt {P : Program} {T kt et : TypeId} {q : IntKind} {z : Value} (hT : P.underlying T = some (.map kt et)) (hk : P.underlying kt = some (.int q)) (hz : ∀ w,(zeroValue et).run P w = .ok z w) : KMap P T (intK q) okK z := by
 refine ⟨kt,et,hT,fun em a w _=>MapKept.run_checkKey (k := .int q a) hk (by rfl) em 9999,fun l es a w he _ _=>?_,hz⟩
 rcases findNow_l q a es l 0 he with ⟨h1,h2⟩ | ⟨j,u,h1,h2⟩
 ·exact .inl ⟨MapKept.run_findKey hk h1,h2⟩
 ·rw [Nat.zero_add] at h1
  exact .inr ⟨j,u,MapKept.run_findKey hk h1,h2⟩
section
variable {P : Program} {ops : List Oper} {z : Nat} {Z D : List Nat}
variable {Q Q' : Exit → Act → World → Prop} {S S' : World → Prop}
end
section
variable {P : Program} {n : Nat} {ops : List Oper} {Q : Post} {f : Frm} {C S : World → Prop}
end
section
variable {α : Type} {f : α → List Value} {n : Nat}
theorem rows_all_one (h1 : ∀ x,(f x).all Value.oneCell' = true) : ∀ (l : List α),(l.flatMap f).all Value.oneCell' = true
 | []=>rfl
 | x :: r=>by rw [List.flatMap_cons,List.all_append,h1 x,rows_all_one h1 r];rfl
end
end Go.Hb
namespace Go.Hb
open Go.ChangeMaps (setBlock)
section
variable {κ : Type} {enc : κ → Value}
def gmH (enc : κ → Value) (b : Nat) (l : List (κ × Value)) (w : World) : Prop :=
 ∃ es clock,w.heap[b]? = some (.map es clock) ∧ es.toList.map (fun e=>(e.key,e.val)) = l.map (fun p=>(enc p.1,p.2)) ∧ (es.toList.map MapEntry.born).Nodup ∧ ∀ x ∈ es.toList,x.born < clock
def gmap (enc : κ → Value) (b : Nat) (l : List (κ × Value)) : Asrt := .ex (fun j=>j = b) (gmH enc b l)
theorem gmap.dep (b : Nat) (l : List (κ × Value)) : (gmap enc b l).dep := by
 intro w w' k h
 obtain ⟨es,clock,hb,r⟩ := h
 exact ⟨es,clock,(k b rfl).trans hb,r⟩
theorem gmH.km {b : Nat} {l : List (κ × Value)} {w : World} (h : gmH enc b l w) : kmH enc b l w := by
 obtain ⟨es,clock,hb,he,_⟩ := h
 exact ⟨es,clock,hb,he⟩
end
section
variable {P : Program} {m : Bool} {n : Nat} {ops rest : List Oper} {Q : Post} {f : Frm} {F : Nat → Prop} {L L' : List Asrt} {w0 : World} {C : World → Prop} {T T' : TypeId} {p : String} {af : Array Edge} {d : Nat} {x y z : Operand} {v zv : Value} {κ : Type} {enc : κ → Value} {ok : κ → Prop}
theorem LR.makeMapG [h : KMap P T enc ok zv] (hd : Nat.blt d n = true) (k : ∀ b,LR false P n ops rest Q (upd f d (.map (some b))) (St w0 F (gmap enc b [] :: L))) :
  LR false P n ops (⟨some d,.makeMap T none,T',p,af,none⟩ :: rest) Q f (St w0 F L) := by
 intro w hw a ha
 refine wpList_plain rfl fun K hK=>?_
 have hr : (execOp a.eval ⟨some d,.makeMap T none,T',p,af,none⟩).run P w = .ok (.value (.map (some w.heap.size))) { w with heap := w.heap.push (.map #[] 0) } := by
  simp [execOp,Instr.makeMap,newObj,Sem.run]
 simp only [Oper.wp,hr,Oper.upon_value]
 refine hK _ _ (k w.heap.size _ ?_ _ (ha.put _ hd))
 have h1 := hw.alloc (.map #[] 0)
 refine h1.turn (Sel.head _ _ _) rfl (St.refl _ _) ?_ (fun k hk=>.inl hk) (gmap.dep _ _)
 exact ⟨#[],0,h1.own_at (List.Mem.head _),rfl,by simp,by simp⟩
theorem LR.insertG {b : Nat} {l : List (κ × Value)} {a : κ} [h : KMap P T enc ok zv] (hx : f.ev x = .map (some b)) (hy : f.ev y = enc a) (hz : f.ev z = v)
  (hs : Sel L (gmap enc b l) (gmap enc b (l ++ [(a,v)])) L') (hl : ∀ p ∈ l,ok p.1) (ha : ok a) (hno : ∀ p ∈ l,p.1 ≠ a)
  (k : LR false P n ops rest Q f (St w0 F L')) : LR false P n ops (⟨none,.mapUpdate T x y z,T',p,af,none⟩ :: rest) Q f (St w0 F L) := by
 intro w hw act hact
 refine wpList_plain rfl fun K' hK=>?_
 obtain ⟨kt,et,ht,K,hf,_⟩ := h.ex
 obtain ⟨es,clock,hb,he,hnd,hlt⟩ : gmH enc b l w := (hw.holds _ hs.mem)
 have hlx := fun em=>K em a w ha
 rcases hf l es.toList a w he hl ha with ⟨h1,_⟩ | ⟨j,u,h1,h2⟩
 ·have hr : (execOp act.eval ⟨none,.mapUpdate T x y z,T',p,af,none⟩).run P w = .ok .skip { w with heap := w.heap.setIfInBounds b (.map (es.push ⟨enc a,v,clock⟩) (clock + 1)) } := by
   rw [hact.eval]
   simp only [execOp,hx,hy,hz,Instr.mapUpdate,Sem.run_bind,run_underlying ht,Result.andThen_ok,MapKept.run_getObj_map hb,hlx,h1,MapKept.run_setObj_map _ hb,Sem.run_pure]
  simp only [Oper.wp,hr,Oper.upon_skip]
  have hsz : b < w.heap.size := (Array.getElem?_eq_some_iff.1 hb).1
  refine hK _ _ (k _ ?_ _ (hact.put_none undef))
  refine hw.turn hs rfl (Keep.setObj w b _ rfl) ⟨es.push ⟨enc a,v,clock⟩,clock + 1,by show (w.heap.setIfInBounds b _)[b]? = _;simp [hsz],by simp [he],?_,?_⟩ (fun k hk=>.inl hk) (gmap.dep _ _)
  ·simp only [Array.toList_push,List.map_append,List.map_cons,List.map_nil]
   refine List.nodup_append.2 ⟨hnd,by simp,?_⟩
   intro q hq r hr e
   obtain ⟨e0,h0,rfl⟩ := List.mem_map.1 hq
   simp only [List.mem_singleton] at hr
   have := hlt e0 h0
   omega
  ·intro e0 h0
   simp only [Array.toList_push,List.mem_append,List.mem_singleton] at h0
   rcases h0 with h0 | rfl
   ·have := hlt e0 h0;omega
   ·show clock < clock + 1;omega
 ·exact absurd rfl (hno _ (List.mem_of_getElem? h2))
theorem LR.updateG {b : Nat} {l : List (κ × Value)} {a : κ} {j : Nat} [h : KMap P T enc ok zv] (hx : f.ev x = .map (some b)) (hy : f.ev y = enc a) (hz : f.ev z = v)
  (hs : Sel L (gmap enc b l) (gmap enc b (l.set j (a,v))) L') (hl : ∀ p ∈ l,ok p.1) (hnd : (l.map Prod.fst).Nodup) {u : Value} (hj : l[j]? = some (a,u)) (hst : ∀ w,(Instr.keyThatStays (enc a) (enc a)).run P w = .ok (enc a) w)
  (k : LR false P n ops rest Q f (St w0 F L')) : LR false P n ops (⟨none,.mapUpdate T x y z,T',p,af,none⟩ :: rest) Q f (St w0 F L) := by
 intro w hw act hact
 refine wpList_plain rfl fun K' hK=>?_
 obtain ⟨kt,et,ht,K,hf,_⟩ := h.ex
 obtain ⟨es,clock,hb,he,hbn,hlt⟩ : gmH enc b l w := (hw.holds _ hs.mem)
 have ha : ok a := hl _ (List.mem_of_getElem? hj)
 have hlx := fun em=>K em a w ha
 rcases hf l es.toList a w he hl ha with ⟨h1,h2⟩ | ⟨j',u',h1,h2⟩
 ·exact absurd rfl (h2 _ (List.mem_of_getElem? hj))
 ·have hjj : j' = j := by
   have e1 : (l.map Prod.fst)[j']? = some a := by rw [List.getElem?_map,h2];rfl
   have e2 : (l.map Prod.fst)[j]? = some a := by rw [List.getElem?_map,hj];rfl
   exact (List.getElem?_inj (List.getElem?_eq_some_iff.1 e1).1 hnd).1 (e1.trans e2.symm)
  subst hjj
  have hjl : j' < l.length := (List.getElem?_eq_some_iff.1 h2).1
  have hlen : es.size = l.length := by have := congrArg List.length he;simpa using this
  have hje : j' < es.size := by omega
  have hkey : es[j'].key = enc a := by
   have h5 := congrArg (fun q=>q[j']?) he
   simp only [List.getElem?_map,Array.getElem?_toList,Array.getElem?_eq_getElem hje,h2,Option.map_some,Option.some.injEq,Prod.mk.injEq] at h5
   exact h5.1
  have hr : (execOp act.eval ⟨none,.mapUpdate T x y z,T',p,af,none⟩).run P w = .ok .skip { w with heap := w.heap.setIfInBounds b (.map (es.setIfInBounds j' { es[j'] with val := v }) clock) } := by
   rw [hact.eval]
   have hmd : (es.modify j' fun e=>{ e with key := enc a,val := v }) = es.setIfInBounds j' { es[j'] with val := v } := by
    apply Array.ext_getElem?
    intro i
    rw [Array.getElem?_modify,Array.getElem?_setIfInBounds]
    split
    ·rename_i e
     subst e
     simp [hje,hkey]
    ·rfl
   have hky : (((es[j']?).map (·.key)).getD (enc a)) = enc a := by rw [Array.getElem?_eq_getElem hje];exact hkey
   simp only [execOp,hx,hy,hz,Instr.mapUpdate,Sem.run_bind,run_underlying ht,Result.andThen_ok,MapKept.run_getObj_map hb,hlx,h1,hky,hst,hmd,MapKept.run_setObj_map _ hb,Sem.run_pure]
  simp only [Oper.wp,hr,Oper.upon_skip]
  have hsz : b < w.heap.size := (Array.getElem?_eq_some_iff.1 hb).1
  refine hK _ _ (k _ ?_ _ (hact.put_none undef))
  have hmap : ∀ {β : Type} (g : MapEntry → β),(es.setIfInBounds j' { es[j'] with val := v }).toList.map g = (es.toList.map g).set j' (g { es[j'] with val := v }) := by
   intro β g
   rw [Array.toList_setIfInBounds,List.map_set]
  refine hw.turn hs rfl (Keep.setObj w b _ rfl) ⟨es.setIfInBounds j' { es[j'] with val := v },clock,by show (w.heap.setIfInBounds b _)[b]? = _;simp [hsz],?_,?_,?_⟩ (fun k hk=>.inl hk) (gmap.dep _ _)
  ·rw [hmap,he,List.map_set,hkey]
  ·rw [hmap]
   have : (es.toList.map MapEntry.born).set j' es[j'].born = es.toList.map MapEntry.born := by
    apply List.ext_getElem?
    intro q
    rw [List.getElem?_set]
    split
    ·rename_i e
     subst e
     simp [hje]
    ·rfl
   show ((es.toList.map MapEntry.born).set j' es[j'].born).Nodup
   rw [this];exact hbn
  ·intro e0 h0
   rw [Array.toList_setIfInBounds] at h0
   rcases List.mem_or_eq_of_mem_set h0 with h0 | rfl
   ·exact hlt e0 h0
   ·exact hlt es[j'] (by simp)
theorem stays_int (q : IntKind) (a : Int) (w : World) : (Instr.keyThatStays (intK q a) (intK q a)).run P w = .ok (intK q a) w := MapKept.run_keyThatStays (d := .int q) (by rfl)
def leftL (es : Array MapEntry) (seen : Array Nat) : List MapEntry := es.toList.filter fun e=>!seen.contains e.born
theorem leftOf_list (es : Array MapEntry) (seen : Array Nat) : (leftOf es seen).toList = leftL es seen := by
 unfold leftOf leftL
 rw [Array.toList_filter]
theorem leftL_nil (es : Array MapEntry) : leftL es #[] = es.toList := by
 unfold leftL
 rw [List.filter_eq_self]
 intro e _
 simp
theorem leftL_push {es : Array MapEntry} {seen : Array Nat} (hn : (es.toList.map MapEntry.born).Nodup) {e : MapEntry} (he : e ∈ leftL es seen) : (leftL es seen).Perm (e :: leftL es (seen.push e.born)) := by
 unfold leftL at he ⊢
 obtain ⟨he1,he2⟩ := List.mem_filter.1 he
 have e1 : (es.toList.filter fun x=>!(seen.push e.born).contains x.born) = (es.toList.filter fun x=>!seen.contains x.born).filter fun x=>!(x.born == e.born) := by
  rw [List.filter_filter]
  congr 1
  funext x
  rw [contains_push]
  cases seen.contains x.born <;> cases (x.born == e.born) <;> rfl
 rw [e1]
 have hn2 : ((es.toList.filter fun x=>!seen.contains x.born).map MapEntry.born).Nodup := (List.filter_sublist.map _).nodup hn
 have he3 : e ∈ es.toList.filter fun x=>!seen.contains x.born := he
 generalize es.toList.filter (fun x=>!seen.contains x.born) = l at hn2 he3
 induction l with
 | nil=>cases he3
 | cons q r ih=>
  rw [List.map_cons,List.nodup_cons] at hn2
  rcases List.mem_cons.1 he3 with rfl | h
  ·rw [List.filter_cons,if_neg (by simp),List.filter_eq_self.2]
   intro y hy
   have : ¬ y.born = e.born := fun h=>hn2.1 (h ▸ List.mem_map.2 ⟨y,hy,rfl⟩)
   simpa using this
  ·have hne : ¬ q.born = e.born := fun h2=>hn2.1 (h2 ▸ List.mem_map.2 ⟨e,h,rfl⟩)
   rw [List.filter_cons,if_pos (by simpa using hne)]
   exact ((ih hn2.2 h).cons q).trans (List.Perm.swap _ _ _)
theorem LR.rangeG {b : Nat} {es : Array MapEntry} {clock : Nat} [h : KMap P T enc ok zv] (hx : f.ev x = .map (some b)) (hd : Nat.blt d n = true) (hm : ∀ w,St w0 F L w → w.heap[b]? = some (.map es clock))
  (k : ∀ r,LR false P n ops rest Q (upd f d (.pointer (some ⟨r,0,none⟩))) (St w0 F (.own r (.mapIter (some b) clock #[] clock) :: L))) :
  LR false P n ops (⟨some d,.range T x,T',p,af,none⟩ :: rest) Q f (St w0 F L) := by
 intro w hw a ha
 refine wpList_plain rfl fun K hK=>?_
 obtain ⟨kt,et,ht,_⟩ := h.ex
 have hr : (execOp a.eval ⟨some d,.range T x,T',p,af,none⟩).run P w = .ok (.value (.pointer (some ⟨w.heap.size,0,none⟩))) { w with heap := w.heap.push (.mapIter (some b) clock #[] clock) } := by
  rw [ha.eval]
  simp only [execOp,hx,Sem.run_bind,run_range_map w T kt et b es clock ht (hm w hw),Result.andThen_ok,Sem.run_pure]
  rfl
 simp only [Oper.wp,hr,Oper.upon_value]
 exact hK _ _ (k w.heap.size _ (hw.alloc _) _ (ha.put _ hd))
theorem St.drew {w : World} (h : St w0 F L w) : St w0 F L w.drew := by
 have hc : Drawn (St w0 F L) := inferInstance
 exact hc.drew w h
theorem LR.nextG {b r : Nat} {es : Array MapEntry} {clock : Nat} {seen : Array Nat} {L2 : Nat → List Asrt} (hx : f.ev x = .pointer (some ⟨r,0,none⟩)) (hd : Nat.blt d n = true)
  (hm : ∀ w,St w0 F L w → w.heap[b]? = some (.map es clock)) (hold : ∀ e ∈ es.toList,e.born < clock)
  (hs : ∀ e : MapEntry,Sel L (.own r (.mapIter (some b) clock seen clock)) (.own r (.mapIter (some b) clock (seen.push e.born) clock)) (L2 e.born))
  (k0 : leftL es seen = [] → LR false P n ops rest Q (upd f d (.tuple [.bool false].toArray)) (St w0 F L))
  (k1 : ∀ e ∈ leftL es seen,LR false P n ops rest Q (upd f d (.tuple [.bool true,e.key,e.val].toArray)) (St w0 F (L2 e.born))) :
  LR false P n ops (⟨some d,.next x false,T',p,af,none⟩ :: rest) Q f (St w0 F L) := by
 intro w hw a ha
 refine wpList_plain rfl fun K hK=>?_
 have e0 : MapEntry := ⟨.bool false,.bool false,0⟩
 have hit : w.heap[r]? = some (.mapIter (some b) clock seen clock) := hw.own_at (hs e0).mem
 rcases run_next_at (P := P) w T' r b clock clock seen es clock hit (hm w hw) hold (Nat.le_refl _) with ⟨h0,hrun⟩ | ⟨e,he,w1,hal,hrun⟩
 ·have hr : (execOp a.eval ⟨some d,.next x false,T',p,af,none⟩).run P w = .ok (.value (.tuple [.bool false].toArray)) w := by
   rw [ha.eval]
   simp only [execOp,hx,Sem.run_bind,hrun,Result.andThen_ok,Sem.run_pure]
  simp only [Oper.wp,hr,Oper.upon_value]
  refine hK _ _ (k0 ?_ _ hw _ (ha.put _ hd))
  rw [← leftOf_list]
  have : leftOf es seen = #[] := Array.eq_empty_of_size_eq_zero h0
  rw [this]
 ·have hr : (execOp a.eval ⟨some d,.next x false,T',p,af,none⟩).run P w = .ok (.value (.tuple [.bool true,e.key,e.val].toArray)) (setBlock w1 r (.mapIter (some b) clock (seen.push e.born) clock)) := by
   rw [ha.eval]
   simp only [execOp,hx,Sem.run_bind,hrun,Result.andThen_ok,Sem.run_pure]
  simp only [Oper.wp,hr,Oper.upon_value]
  have hw1 : St w0 F L w1 := by rcases hal with rfl | rfl;exact hw;exact hw.drew
  have hit1 : w1.heap[r]? = some (.mapIter (some b) clock seen clock) := hw1.own_at (hs e0).mem
  have hsz : r < w1.heap.size := (Array.getElem?_eq_some_iff.1 hit1).1
  refine hK _ _ (k1 e (leftOf_list es seen ▸ he) _ ?_ _ (ha.put _ hd))
  exact hw1.turn (hs e) rfl (Keep.setObj w1 r _ rfl) (by show (w1.heap.setIfInBounds r _)[r]? = _;simp [hsz]) (fun k hk=>.inl hk) (Asrt.dep_own _ _)
theorem Ev.entryG {b r : Nat} {es : Array MapEntry} {clock : Nat} {seen : Array Nat} {e : MapEntry} (hx : f.ev x = .pointer (some ⟨r,0,none⟩)) (hm : ∀ w,C w → w.heap[b]? = some (.map es clock) ∧ w.heap[r]? = some (.mapIter (some b) clock (seen.push e.born) clock))
  (he : e ∈ es.toList) (hn : (es.toList.map MapEntry.born).Nodup) : Ev P C f (.entry x) T' (.tuple [e.key,e.val].toArray) := fun w hw d p af g=>by
 obtain ⟨hb,hr⟩ := hm w hw
 have := run_entry_at (P := P) w r b clock seen es clock e hr hb he hn
 simp only [execOp,hx,Sem.run_bind,this,Result.andThen_ok,Sem.run_pure]
end
end Go.Hb
namespace Go.Hb
structure NRep (g : Int → Int) (l : List (Int × Value)) : Prop where
 nd : (l.map Prod.fst).Nodup
 vl : ∀ p ∈ l,p.2 = .int .i64 (g p.1) ∧ g p.1 ≠ 0
 al : ∀ k,g k ≠ 0 → ∃ p ∈ l,p.1 = k
def nmH (b : Nat) (g : Int → Int) (w : World) : Prop := ∃ l,NRep g l ∧ gmH (intK .i64) b l w
def nmap (b : Nat) (g : Int → Int) : Asrt := .ex (fun j=>j = b) (nmH b g)
theorem nmap.dep (b : Nat) (g : Int → Int) : (nmap b g).dep := by
 intro w w' k h
 obtain ⟨l,hl,hg⟩ := h
 exact ⟨l,hl,gmap.dep (enc := intK .i64) b l w w' k hg⟩
def fset (g : Int → Int) (k v : Int) : Int → Int := fun x=>if x = k then v else g x
theorem NRep.nil : NRep (fun _=>0) [] := ⟨by simp,by simp,fun k h=>absurd rfl h⟩
theorem NRep.add {g : Int → Int} {l : List (Int × Value)} (h : NRep g l) {k v : Int} (hv : v ≠ 0) (hk : g k = 0) : NRep (fset g k v) (l ++ [(k,.int .i64 v)]) := by
 have hno : ∀ p ∈ l,p.1 ≠ k := fun p hp e=>(h.vl p hp).2 (e ▸ hk)
 refine ⟨?_,?_,?_⟩
 ·rw [List.map_append,List.nodup_append]
  refine ⟨h.nd,by simp,?_⟩
  intro a ha b hb e
  obtain ⟨p,hp,rfl⟩ := List.mem_map.1 ha
  simp only [List.map_cons,List.map_nil,List.mem_singleton] at hb
  exact hno p hp (e.trans hb)
 ·intro p hp
  rcases List.mem_append.1 hp with hp | hp
  ·unfold fset
   rw [if_neg (hno p hp)]
   exact h.vl p hp
  ·rw [List.mem_singleton] at hp
   subst hp
   unfold fset
   rw [if_pos rfl]
   exact ⟨rfl,hv⟩
 ·intro x hx
  by_cases e : x = k
  ·exact ⟨(k,.int .i64 v),by simp,e.symm⟩
  ·unfold fset at hx
   rw [if_neg e] at hx
   obtain ⟨p,hp,e2⟩ := h.al x hx
   exact ⟨p,List.mem_append_left _ hp,e2⟩
theorem NRep.upd {g : Int → Int} {l : List (Int × Value)} (h : NRep g l) {k v : Int} (hv : v ≠ 0) {j : Nat} {u : Value} (hj : l[j]? = some (k,u)) : NRep (fset g k v) (l.set j (k,.int .i64 v)) := by
 have hjl := (List.getElem?_eq_some_iff.1 hj).1
 have hje := (List.getElem?_eq_some_iff.1 hj).2
 have hfst : (l.set j (k,.int .i64 v)).map Prod.fst = l.map Prod.fst := by
  rw [List.map_set]
  apply List.ext_getElem?
  intro q
  rw [List.getElem?_set]
  split
  ·rename_i e
   subst e
   rw [if_pos (by simpa using hjl),List.getElem?_map,hj]
   rfl
  ·rfl
 refine ⟨by rw [hfst];exact h.nd,?_,?_⟩
 ·intro p hp
  obtain ⟨q,hq⟩ := List.getElem?_of_mem hp
  rw [List.getElem?_set] at hq
  split at hq
  ·cases hq
   unfold fset
   rw [if_pos rfl]
   exact ⟨rfl,hv⟩
  ·rename_i hne
   have hne2 : p.1 ≠ k := fun e=>hne (by
    have e1 : (l.map Prod.fst)[j]? = some k := by rw [List.getElem?_map,hj];rfl
    have e2 : (l.map Prod.fst)[q]? = some k := by rw [List.getElem?_map,hq,← e];rfl
    exact (List.getElem?_inj (by simpa using hjl) h.nd).1 (e1.trans e2.symm))
   unfold fset
   rw [if_neg hne2]
   exact h.vl p (List.mem_of_getElem? hq)
 ·intro x hx
  by_cases e : x = k
  ·exact ⟨(k,.int .i64 v),List.mem_of_getElem? (i := j) (by simp [hjl]),e.symm⟩
  ·unfold fset at hx
   rw [if_neg e] at hx
   obtain ⟨p,hp,e2⟩ := h.al x hx
   have : x ∈ (l.set j (k,.int .i64 v)).map Prod.fst := by rw [hfst];exact List.mem_map.2 ⟨p,hp,e2⟩
   obtain ⟨p',hp',e3⟩ := List.mem_map.1 this
   exact ⟨p',hp',e3⟩
theorem NRep.del {g : Int → Int} {l : List (Int × Value)} (h : NRep g l) (k : Int) : NRep (fset g k 0) (l.filter fun p=>decide (p.1 ≠ k)) := by
 refine ⟨(List.filter_sublist.map _).nodup h.nd,?_,?_⟩
 ·intro p hp
  obtain ⟨hp1,hp2⟩ := List.mem_filter.1 hp
  unfold fset
  rw [if_neg (by simpa using hp2)]
  exact h.vl p hp1
 ·intro x hx
  unfold fset at hx
  by_cases e : x = k
  ·rw [if_pos e] at hx;exact absurd rfl hx
  ·rw [if_neg e] at hx
   obtain ⟨p,hp,e2⟩ := h.al x hx
   exact ⟨p,List.mem_filter.2 ⟨hp,by simpa [e2] using e⟩,e2⟩
section
variable {P : Program} {n : Nat} {ops rest : List Oper} {Q : Post} {f : Frm} {F : Nat → Prop} {L L' : List Asrt} {w0 : World} {C : World → Prop} {T T' : TypeId} {p : String} {af : Array Edge} {d : Nat} {x y z : Operand} {zv : Value} {κ : Type} {enc : κ → Value} {ok : κ → Prop}
theorem LR.deleteG [DecidableEq κ] {b : Nat} {l : List (κ × Value)} {a : κ} {K1 : TypeId} [h : KMap P T enc ok zv] (hu : (match P.underlying T with | some (.map k _)=>Nat.beq k K1 | _=>false) = true) (hx : f.ev x = .map (some b)) (hy : f.ev y = enc a)
  (hs : Sel L (gmap enc b l) (gmap enc b (l.filter fun p=>decide (p.1 ≠ a))) L') (hl : ∀ p ∈ l,ok p.1) (hnd : (l.map Prod.fst).Nodup) (ha : ok a)
  (k : LR false P n ops rest Q f (St w0 F L')) : LR false P n ops (⟨none,.call ⟨.builtin .delete,[x,y].toArray,[T,K1].toArray⟩,T',p,af,none⟩ :: rest) Q f (St w0 F L) := by
 intro w hw act hact
 refine wpList_plain rfl fun K' hK=>?_
 obtain ⟨kt,et,ht,K,hf,_⟩ := h.ex
 obtain ⟨es,clock,hb,he,hbn,hlt⟩ : gmH enc b l w := (hw.holds _ hs.mem)
 have hlx := fun em=>K em a w ha
 have hsz : b < w.heap.size := (Array.getElem?_eq_some_iff.1 hb).1
 have fin : ∀ es',es'.toList.map (fun e=>(e.key,e.val)) = (l.filter fun p=>decide (p.1 ≠ a)).map (fun p=>(enc p.1,p.2)) → es'.toList.Sublist es.toList → (Builtin.delete_ #[T,K1] T' #[.map (some b),enc a]).run P w = .ok (.tuple #[]) { w with heap := w.heap.setIfInBounds b (.map es' clock) } →
   (⟨none,.call ⟨.builtin .delete,[x,y].toArray,[T,K1].toArray⟩,T',p,af,none⟩ : Oper).wp P act w K' (lift n Q) := by
  intro es' he' hsub hr
  have hr' : (execOp act.eval ⟨none,.call ⟨.builtin .delete,[x,y].toArray,[T,K1].toArray⟩,T',p,af,none⟩).run P w = .ok (.value (.tuple #[])) { w with heap := w.heap.setIfInBounds b (.map es' clock) } := by
   rw [hact.eval]
   simp only [execOp,resolve,invoke,builtin,Sem.run_bind,Sem.run_pure,Result.andThen_ok,List.map_toArray,List.map_cons,List.map_nil,hx,hy,hr]
  simp only [Oper.wp,hr',Oper.upon_value]
  refine hK _ _ (k _ ?_ _ (hact.put_none _))
  exact hw.turn hs rfl (Keep.setObj w b _ rfl) ⟨es',clock,by show (w.heap.setIfInBounds b _)[b]? = _;simp [hsz],he',(hsub.map _).nodup hbn,fun e h=>hlt e (hsub.subset h)⟩ (fun k hk=>.inl hk) (gmap.dep _ _)
 rcases hf l es.toList a w he hl ha with ⟨h1,h2⟩ | ⟨j,u,h1,h2⟩
 ·refine fin es ?_ (List.Sublist.refl _) ?_
  ·rw [List.filter_eq_self.2 (fun p hp=>by simpa using h2 p hp),he]
  ·simp [Builtin.delete_,run_underlying ht,MapKept.run_getObj_map hb,hlx,h1,MapKept.run_setObj_map _ hb,Result.andThen]
 ·have hlen : es.toList.length = l.length := by have := congrArg List.length he;simpa using this
  have hj : j < l.length := (List.getElem?_eq_some_iff.1 h2).1
  have hjs : j < es.size := by rw [← Array.length_toList,hlen];exact hj
  have hsub : (es.eraseIdxIfInBounds j).toList = es.toList.eraseIdx j := by
   unfold Array.eraseIdxIfInBounds
   rw [dif_pos hjs]
   simp
  refine fin (es.eraseIdxIfInBounds j) ?_ (by rw [hsub];exact List.eraseIdx_sublist _ _) ?_
  ·have hf := ChangeMaps.filter_eq_eraseIdx (fun p : κ × Value=>decide (p.1 = a)) l j (a,u) h2 (by simp) (by
    rw [List.nodup_iff_pairwise_ne,List.pairwise_map] at hnd
    exact hnd.imp (fun {p q} hpq ⟨e1,e2⟩=>hpq (by simp at e1 e2;rw [e1,e2])))
   rw [hsub,ChangeMaps.map_eraseIdx,he,← ChangeMaps.map_eraseIdx,← hf]
   congr 1
   refine List.filter_congr fun p _=>?_
   simp
  ·simp [Builtin.delete_,run_underlying ht,MapKept.run_getObj_map hb,hlx,h1,MapKept.run_setObj_map _ hb,Result.andThen]
theorem LR.makeMapN (hK : KMap P T (intK .i64) okK zv) (hd : Nat.blt d n = true) (k : ∀ b,LR false P n ops rest Q (upd f d (.map (some b))) (St w0 F (nmap b (fun _=>0) :: L))) :
  LR false P n ops (⟨some d,.makeMap T none,T',p,af,none⟩ :: rest) Q f (St w0 F L) := by
 haveI := hK
 refine LR.makeMapG (enc := intK .i64) (ok := okK) (zv := zv) hd fun b=>?_
 refine LR.sub (fun w hw=>?_) (k b)
 exact hw.turn (Sel.head _ _ _) rfl (St.refl _ _) (show nmH b (fun _=>0) w from ⟨[],NRep.nil,hw.g0⟩) (fun k hk=>.inl hk) (nmap.dep _ _)
theorem Sel.mid {a a' c c' : Asrt} {L L' : List Asrt} (h : Sel L a a' L') : ∃ L1 L2,Sel L a c L1 ∧ Sel L1 c c' L2 ∧ Sel L2 c' a' L' := by
 induction h with
 | head l r s=>exact ⟨_,_,Sel.head _ _ _,Sel.head _ _ _,Sel.head _ _ _⟩
 | tail x _ ih=>
  obtain ⟨L1,L2,h1,h2,h3⟩ := ih
  exact ⟨_,_,Sel.tail _ h1,Sel.tail _ h2,Sel.tail _ h3⟩
theorem Ev.lookupN {b : Nat} {g : Int → Int} {k : Int} [h : KMap P T (intK .i64) okK (.int .i64 0)] (hx : f.ev x = .map (some b)) (hy : f.ev y = .int .i64 k) (hm : ∀ w,C w → nmH b g w) :
  Ev P C f (.lookup T x y true) T' (.tuple [.int .i64 (g k),.bool (decide (g k ≠ 0))].toArray) := by
 unfold Ev
 intro w hw
 obtain ⟨l,hr,hg⟩ := hm w hw
 by_cases e : g k = 0
 ·have h1 : Ev P (fun u=>u = w) f (.lookup T x y true) T' (.tuple [Value.int .i64 0,.bool false].toArray) :=
   Ev.lookup_no (enc := intK .i64) (ok := okK) (l := l) (a := k) hx hy (fun u hu=>hu ▸ hg.km) (fun _ _=>trivial) trivial (fun p hp e2=>(hr.vl p hp).2 (e2 ▸ e))
  rw [e]
  exact h1 w rfl
 ·obtain ⟨p',hp,e2⟩ := hr.al k e
  have hv := (hr.vl p' hp).1
  have hmem : (k,Value.int .i64 (g k)) ∈ l := by
   have : p' = (k,Value.int .i64 (g k)) := by
    obtain ⟨p1,p2⟩ := p'
    simp only at e2 hv
    rw [e2] at hv
    rw [e2,hv]
   exact this ▸ hp
  have h1 : Ev P (fun u=>u = w) f (.lookup T x y true) T' (.tuple [Value.int .i64 (g k),.bool true].toArray) :=
   Ev.lookup_yes (enc := intK .i64) (ok := okK) (l := l) (a := k) hx hy (fun u hu=>hu ▸ hg.km) (fun _ _=>trivial) hr.nd hmem
  rw [decide_eq_true e]
  exact h1 w rfl
theorem Ev.lookupN0 {b : Nat} {g : Int → Int} {k : Int} (hK : KMap P T (intK .i64) okK (.int .i64 0)) (hx : f.ev x = .map (some b)) (hy : f.ev y = .int .i64 k) (hm : ∀ w,C w → nmH b g w) (hv : g k = 0) :
  Ev P C f (.lookup T x y true) T' (.tuple [.int .i64 0,.bool false].toArray) := by
 haveI := hK
 have h := Ev.lookupN (P := P) (T := T) (T' := T') hx hy hm
 rw [hv] at h
 exact h
theorem Ev.lookupNv {b : Nat} {g : Int → Int} {k v : Int} (hK : KMap P T (intK .i64) okK (.int .i64 0)) (hx : f.ev x = .map (some b)) (hy : f.ev y = .int .i64 k) (hm : ∀ w,C w → nmH b g w) (hv : g k = v) (hne : v ≠ 0) :
  Ev P C f (.lookup T x y true) T' (.tuple [.int .i64 v,.bool true].toArray) := by
 haveI := hK
 have h := Ev.lookupN (P := P) (T := T) (T' := T') hx hy hm
 rw [hv,decide_eq_true hne] at h
 exact h
theorem Ev.lookupN1 {b : Nat} {g : Int → Int} {k : Int} (hK : KMap P T (intK .i64) okK (.int .i64 0)) (hx : f.ev x = .map (some b)) (hy : f.ev y = .int .i64 k) (hm : ∀ w,C w → nmH b g w) :
  Ev P C f (.lookup T x y false) T' (.int .i64 (g k)) := by
 unfold Ev
 intro w hw dd p af gg
 obtain ⟨l,hr,es,clock,hb,he,_⟩ := hm w hw
 obtain ⟨kt,et,ht,K,hf,hz⟩ := hK.ex
 have hlx := fun em=>K em k w trivial
 rcases hf l es.toList k w he (fun _ _=>trivial) trivial with ⟨h1,h2⟩ | ⟨j,u,h1,h2⟩
 ·have e : g k = 0 := Classical.byContradiction fun e=>by
   obtain ⟨p',hp,e2⟩ := hr.al k e
   exact h2 p' hp e2
  have hy' : f.ev y = intK .i64 k := hy
  rw [e]
  simp [execOp,hx,hy',Instr.lookup,run_underlying ht,MapKept.run_getObj_map hb,hlx,h1,hz,Result.andThen]
 ·have hv := (hr.vl _ (List.mem_of_getElem? h2)).1
  simp only at hv
  have hy' : f.ev y = intK .i64 k := hy
  subst hv
  simp [execOp,hx,hy',Instr.lookup,run_underlying ht,MapKept.run_getObj_map hb,hlx,h1,Result.andThen]
theorem LR.updN {b : Nat} {g : Int → Int} {k v : Int} (hK : KMap P T (intK .i64) okK zv) (hx : f.ev x = .map (some b)) (hy : f.ev y = .int .i64 k) (hz : f.ev z = .int .i64 v) (hv : v ≠ 0)
  (hs : Sel L (nmap b g) (nmap b (fset g k v)) L')
  (kk : LR false P n ops rest Q f (St w0 F L')) : LR false P n ops (⟨none,.mapUpdate T x y z,T',p,af,none⟩ :: rest) Q f (St w0 F L) := by
 haveI := hK
 intro w hw act hact
 obtain ⟨l,hr,hg⟩ : nmH b g w := hw.holds _ hs.mem
 by_cases e : g k = 0
 ·obtain ⟨L1,L2,h1,h2,h3⟩ := hs.mid (c := gmap (intK .i64) b l) (c' := gmap (intK .i64) b (l ++ [(k,.int .i64 v)]))
  have hw1 : St w0 F L1 w := hw.turn h1 rfl (St.refl _ _) hg (fun k hk=>.inl hk) (gmap.dep _ _)
  refine LR.insertG (enc := intK .i64) (ok := okK) (a := k) hx hy hz h2 (fun _ _=>trivial) trivial (fun p hp e2=>(hr.vl p hp).2 (e2 ▸ e)) ?_ w hw1 act hact
  refine LR.sub (fun u hu=>?_) kk
  exact hu.turn h3 rfl (St.refl _ _) (show nmH b (fset g k v) u from ⟨_,hr.add hv e,hu.holds _ h3.mem⟩) (fun k hk=>.inl hk) (nmap.dep _ _)
 ·obtain ⟨p',hp,e2⟩ := hr.al k e
  obtain ⟨j,hj⟩ := List.getElem?_of_mem hp
  obtain ⟨p1,p2⟩ := p'
  simp only at e2
  subst e2
  obtain ⟨L1,L2,h1,h2,h3⟩ := hs.mid (c := gmap (intK .i64) b l) (c' := gmap (intK .i64) b (l.set j (p1,.int .i64 v)))
  have hw1 : St w0 F L1 w := hw.turn h1 rfl (St.refl _ _) hg (fun k hk=>.inl hk) (gmap.dep _ _)
  refine LR.updateG (enc := intK .i64) (ok := okK) (a := p1) hx hy hz h2 (fun _ _=>trivial) hr.nd hj (stays_int .i64 p1) ?_ w hw1 act hact
  refine LR.sub (fun u hu=>?_) kk
  exact hu.turn h3 rfl (St.refl _ _) (show nmH b (fset g p1 v) u from ⟨_,hr.upd hv hj,hu.holds _ h3.mem⟩) (fun k hk=>.inl hk) (nmap.dep _ _)
theorem LR.insN {b : Nat} {g : Int → Int} {k v : Int} (hK : KMap P T (intK .i64) okK zv) (hx : f.ev x = .map (some b)) (hy : f.ev y = .int .i64 k) (hz : f.ev z = .int .i64 v) (hv : v ≠ 0)
  (hs : Sel L (nmap b g) (nmap b (fset g k v)) L')
  (kk : LR false P n ops rest Q f (St w0 F L')) : LR false P n ops (⟨none,.insert T x y z,T',p,af,none⟩ :: rest) Q f (St w0 F L) :=
 fun w hw act hact=>LR.updN (T' := T') (p := p) (af := af) hK hx hy hz hv hs kk w hw act hact
theorem LR.delN {b : Nat} {g : Int → Int} {k : Int} {K1 : TypeId} (hK : KMap P T (intK .i64) okK zv) (hu : (match P.underlying T with | some (.map k _)=>Nat.beq k K1 | _=>false) = true) (hx : f.ev x = .map (some b)) (hy : f.ev y = .int .i64 k)
  (hs : Sel L (nmap b g) (nmap b (fset g k 0)) L')
  (kk : LR false P n ops rest Q f (St w0 F L')) : LR false P n ops (⟨none,.call ⟨.builtin .delete,[x,y].toArray,[T,K1].toArray⟩,T',p,af,none⟩ :: rest) Q f (St w0 F L) := by
 haveI := hK
 intro w hw act hact
 obtain ⟨l,hr,hg⟩ : nmH b g w := hw.holds _ hs.mem
 obtain ⟨L1,L2,h1,h2,h3⟩ := hs.mid (c := gmap (intK .i64) b l) (c' := gmap (intK .i64) b (l.filter fun p=>decide (p.1 ≠ k)))
 have hw1 : St w0 F L1 w := hw.turn h1 rfl (St.refl _ _) hg (fun k hk=>.inl hk) (gmap.dep _ _)
 refine LR.deleteG (enc := intK .i64) (ok := okK) (a := k) hu hx hy h2 (fun _ _=>trivial) hr.nd trivial ?_ w hw1 act hact
 refine LR.sub (fun u hu=>?_) kk
 exact hu.turn h3 rfl (St.refl _ _) (show nmH b (fset g k 0) u from ⟨_,hr.del k,hu.holds _ h3.mem⟩) (fun k hk=>.inl hk) (nmap.dep _ _)
end
end Go.Hb
namespace Go.Proofs.YtohbcfokihplbaaGreatDoor
open Go.Hb
attribute [local irreducible] LR CW At Ev thn blk finK noG again CallsTo DW QL dnext TW DP
set_option maxRecDepth 100000
instance km130 : KMap Tryz.prog 130 (intK IntKind.i64) okK (.int .i64 0) := KMap.ofInt Tryz.underlying130 Tryz.underlying3 (fun w=>Tryz.zeroValue3 w)
abbrev alB (b m : Nat) : Asrt := .own b (.cells [.int .i64 4,.map (some m)].toArray 132 (0,0))
def alO (b m : Nat) (g : Int → Int) : Asrt := both (alB b m) (nmap m g)
theorem alO_dep (b m : Nat) (g : Int → Int) : (alO b m g).dep := both_dep (Asrt.dep_own _ _) (nmap.dep _ _)
abbrev alR (b m : Nat) (g : Int → Int) : Asrt := .rd (alO b m g).foot (alO b m g).holds
theorem alO_in {b m : Nat} {g : Int → Int} {w : World} (h : (alO b m g).holds w) : St w NoF [alR b m g] w :=
 (St.refl w NoF).old h (fun k hk=>⟨both_live h k hk,fun x=>x⟩) (alO_dep _ _ _)
theorem alO_turn {b m : Nat} {g : Int → Int} {w : World} (h : (alO b m g).holds w) : St w (alO b m g).foot [alB b m,nmap m g] w :=
 (St.one h (both_live h) (alO_dep _ _ _)).part (Asrt.dep_own _ _) (nmap.dep _ _)
theorem al_cell {w0 w : World} {F : Nat → Prop} {L : List Asrt} {b m q : Nat} {g : Int → Int} {v : Value} (h : St w0 F L w) (hm : alR b m g ∈ L) (hq : [Value.int .i64 4,.map (some m)][q]? = some v) : w.cell? ⟨b,q,none⟩ = some v := by
 have h1 : (alO b m g).holds w := h.holds (alR b m g) hm
 rw [cell_own (show w.heap[b]? = some (.cells [.int .i64 4,.map (some m)].toArray 132 (0,0)) from h1.1)]
 simpa using hq
def inK (k : Int) : Int := if k < 0 ∨ 4 ≤ k then 2 else 0
theorem r82 (b m : Nat) (g : Int → Int) (k : Int) (w : World) (h : (alO b m g).holds w) : CallsTo Tryz.prog 82 [.pointer (some ⟨b,0,none⟩),.int .i64 k] w fun v w'=>v = .int .i64 (inK k) ∧ Grew w w' := by
 refine go_in (n := 26) (alO_in h) Tryz.func82 rfl rfl ?_
 repeat'(first|refine gz ?_|(apply LR.ev;(·apply Ev.load;(·exact rfl);(·exact fun w' hw'=>al_cell hw' memZ rfl));(·exact rfl))|(refine gs ?_ ?_;all_goals(intro hc;try simp only[hcs]at hc;try exact abz)))
 all_goals (
  (apply ret1;(·exact rfl);intro w' hS)
  unfold inK
  first
   | (rw [if_pos (by omega)];exact ⟨rfl,hS.toKeep⟩)
   | (rw [if_neg (by omega)];exact ⟨rfl,hS.toKeep⟩))
theorem r37 (w : World) : CallsTo Tryz.prog 37 [.int .i64 4] w fun v w'=>∃ b m,v = .tuple [.pointer (some ⟨b,0,none⟩),.int .i64 0].toArray ∧ New1 (alO b m (fun _=>0)) w w' := by
 refine go_in (n := 14) (St.refl _ NoF) Tryz.func37 rfl rfl ?_
 repeat'(first|refine gz ?_|refine gy fun _=>?_|(refine LR.makeMapN km130 rfl fun bm=>?_))
 rename_i b
 (apply ret2;(·exact rfl);intro w' hS)
 exact ⟨b,bm,rfl,St.new1 (hS.join rfl rfl) rfl⟩
theorem al_step {b m : Nat} {g g' : Int → Int} {w w' : World} (h : St w (alO b m g).foot [alB b m,nmap m g'] w') : Step (alO b m g) (alO b m g') w w' := by
 have h2 : St w (alO b m g).foot [both (alB b m) (nmap m g')] w' := h.join rfl rfl
 exact h2.step rfl
theorem al_hold {w0 w : World} {F : Nat → Prop} {b m : Nat} {g : Int → Int} {R : List Asrt} (h : St w0 F (alB b m :: nmap m g :: R) w) : (alO b m g).holds w :=
 (show St w0 F (both (alB b m) (nmap m g) :: R) w from h.join rfl rfl).g0
theorem r83 (b m : Nat) (g : Int → Int) (k v : Int) (w : World) (h : (alO b m g).holds w) (hk : 0 ≤ k ∧ k < 4) (hv : 1 ≤ v ∧ v ≤ 10000) :
  CallsTo Tryz.prog 83 [.pointer (some ⟨b,0,none⟩),.int .i64 k,.int .i64 v] w fun u w'=>u = .int .i64 0 ∧ Step (alO b m g) (alO b m (fset g k v)) w w' := by
 refine go_in (n := 26) (alO_turn h) Tryz.func83 rfl rfl ?_
 have hi : inK k = 0 := by unfold inK;rw [if_neg (by omega)]
 generalize hF : (alO b m g).foot = F at *
 repeat'(first|refine gz ?_|(apply kq;(·exact rfl);(·intro w1 h1;have hq := CallsTo.q (r82 b m g k w1 (al_hold h1)) h1;rw [hi] at hq;exact hq))|(refine LR.updN (g := g) (k := k) (v := v) km130 rfl rfl rfl (by omega) selZ ?_)|(refine gs ?_ ?_;all_goals(intro hc;try simp only[hcs]at hc;try exact abz)))
 all_goals (try (exfalso;omega))
 (apply ret1;(·exact rfl);intro w' hS)
 subst hF
 exact ⟨rfl,al_step hS⟩
theorem r51 (b m : Nat) (g : Int → Int) (k : Int) (w : World) (h : (alO b m g).holds w) (hk : 0 ≤ k ∧ k < 4) :
  CallsTo Tryz.prog 51 [.pointer (some ⟨b,0,none⟩),.int .i64 k] w fun u w'=>u = .int .i64 0 ∧ Step (alO b m g) (alO b m (fset g k 0)) w w' := by
 refine go_in (n := 17) (alO_turn h) Tryz.func51 rfl rfl ?_
 have hi : inK k = 0 := by unfold inK;rw [if_neg (by omega)]
 generalize hF : (alO b m g).foot = F at *
 repeat'(first|refine gz ?_|(apply kq;(·exact rfl);(·intro w1 h1;have hq := CallsTo.q (r82 b m g k w1 (al_hold h1)) h1;rw [hi] at hq;exact hq))|(refine LR.delN (g := g) (k := k) km130 (by kernel_rfl) rfl rfl selZ ?_))
 all_goals (try (exfalso;omega))
 (apply ret1;(·exact rfl);intro w' hS)
 subst hF
 exact ⟨rfl,al_step hS⟩
theorem al_map {w0 w : World} {F : Nat → Prop} {L : List Asrt} {b m : Nat} {g : Int → Int} (h : St w0 F L w) (hm : alR b m g ∈ L) : nmH m g w := by
 have h1 : (alO b m g).holds w := h.holds (alR b m g) hm
 exact h1.2.1
theorem r50 (b m : Nat) (g : Int → Int) (k : Int) (w : World) (h : (alO b m g).holds w) :
  CallsTo Tryz.prog 50 [.pointer (some ⟨b,0,none⟩),.int .i64 k] w fun u w'=>u = .int .i64 (if inK k = 0 then g k else 0) ∧ Grew w w' := by
 refine go_in (n := 15) (alO_in h) Tryz.func50 rfl rfl ?_
 repeat'(first|refine gz ?_|(apply kq;(·exact rfl);(·intro w1 h1;exact CallsTo.q (r82 b m g k w1 (h1.holds (alR b m g) memZ)) h1))|(apply LR.ev;(·apply Ev.load;(·exact rfl);(·exact fun w' hw'=>al_cell hw' memZ rfl));(·exact rfl))|(apply LR.ev;(·apply Ev.lookupN1 km130;(·exact rfl);(·exact rfl);(·exact fun w' hw'=>al_map hw' memZ));(·exact rfl))|(refine gs ?_ ?_;all_goals(intro hc;try simp only[hcs]at hc;try exact abz)))
 all_goals (
  (apply ret1;(·exact rfl);intro w' hS)
  first
   | (rw [if_pos (by assumption)];exact ⟨rfl,hS.toKeep⟩)
   | (rw [if_neg (by assumption)];exact ⟨rfl,hS.toKeep⟩))
def tkG (g : Int → Int) (k : Int) : Int → Int := fun x=>if 0 ≤ x ∧ x < k then dec1 (g x) else g x
def dueG (g : Int → Int) (k : Nat) : List Int := ((List.range k).map fun i : Nat=>(i : Int)).filter fun x=>decide (g x = 1)
theorem dueG_succ (g : Int → Int) (k : Nat) : dueG g (k + 1) = dueG g k ++ if g k = 1 then [(k : Int)] else [] := by
 unfold dueG
 rw [List.range_succ,List.map_append,List.filter_append]
 congr 1
 show List.filter _ [(k : Int)] = _
 rw [List.filter_cons]
 by_cases h : g k = 1
 ·rw [if_pos (by simpa using h),if_pos h];rfl
 ·rw [if_neg (by simpa using h),if_neg h];rfl
theorem dueG_len (g : Int → Int) (k : Nat) : (dueG g k).length ≤ k := by
 unfold dueG
 refine Nat.le_trans (List.length_filter_le _ _) ?_
 simp
structure Ats where
 k : Nat
 a : Option Addr
 c : Nat
theorem tkG_succ (g : Int → Int) (k : Nat) : tkG g ((k : Int) + 1) = fset (tkG g k) k (dec1 (g k)) := by
 funext x
 unfold tkG fset
 by_cases e : x = k
 ·subst e
  rw [if_pos (by omega),if_pos rfl]
 ·rw [if_neg e]
  by_cases h : 0 ≤ x ∧ x < k
  ·rw [if_pos (by omega)]
   exact (if_pos h).symm
  ·rw [if_neg (by omega)]
   exact (if_neg h).symm
theorem tkG_at (g : Int → Int) (k : Nat) : tkG g k k = g k := by
 unfold tkG
 rw [if_neg (by omega)]
theorem fset_same {g : Int → Int} {k : Int} (h : g k = 0) : fset g k 0 = g := by
 funext x
 unfold fset
 by_cases e : x = k
 ·subst e;rw [if_pos rfl,h]
 ·rw [if_neg e]
set_option maxHeartbeats 1000000 in
theorem r48 (b m : Nat) (g : Int → Int) (w : World) (h : (alO b m g).holds w) (hg : ∀ k,0 ≤ g k ∧ g k ≤ 10000) :
  CallsTo Tryz.prog 48 [.pointer (some ⟨b,0,none⟩)] w fun u w'=>∃ a c,u = .tuple [.slice a (dueG g 4).length c,.int .i64 0].toArray ∧ St w (alO b m g).foot [alO b m (tkG g 4),osl (.slice a (dueG g 4).length c) 3 1 (dueG g 4).length (iv (dueG g 4))] w' := by
 refine go_in (n := 54) (alO_turn h) Tryz.func48 rfl rfl ?_
 generalize hF : (alO b m g).foot = F at *
 repeat'(first|refine gz ?_|(apply kq;(·exact rfl);(·intro w1 h1;exact CallsTo.q (r82 b m g 0 w1 (al_hold h1)) h1))|fail)
 apply CW.loop [5,6,7,8,18,19,20,21,22,23,24,25,26,27,28,29,30,31,32,33,34,35,36,37,38,39,40,41,42,43,44,45,46,47,48,49,50,51,52] (fun s : Ats=>s.k ≤ 4) (fun s=>[(18,.int .i64 (s.k : Int)),(5,.slice s.a (dueG g s.k).length s.c)])
  (fun s=>St w F [osl (.slice s.a (dueG g s.k).length s.c) 3 1 (dueG g s.k).length (iv (dueG g s.k)),alB b m,nmap m (tkG g s.k)]) (fun s=>4 - s.k)
 ·refine fun w' hw'=>⟨⟨0,none,0⟩,Nat.zero_le _,⟨rfl,rfl,trivial⟩,?_⟩
  have e0 : tkG g ((0 : Nat) : Int) = g := by
   funext x
   unfold tkG
   rw [if_neg (by omega)]
  simp only [e0]
  exact hw'.nilsl 3 1
 rintro ⟨k,a,c⟩ fr hk
 simp only at hk ⊢
 have hsu := dueG_succ g k
 have hle := dueG_len g k
 have hts := tkG_succ g k
 have hta := tkG_at g k
 have hgk := hg k
 by_cases hlt : k < 4
 rotate_left
 ·have hk4 : k = 4 := by omega
  subst hk4
  repeat'(first|refine gz ?_)
  (apply ret2;(·exact rfl);intro w' hS)
  subst hF
  refine ⟨a,c,rfl,?_⟩
  have hS2 : St w (alO b m g).foot [alB b m,nmap m (tkG g 4),osl (.slice a (dueG g 4).length c) 3 1 (dueG g 4).length (iv (dueG g 4))] w' := hS.rot
  exact hS2.join rfl rfl
 by_cases h0 : g k = 0
 ·rw [if_neg (by omega),List.append_nil] at hsu
  rw [h0,show dec1 0 = 0 from rfl,fset_same (hta.trans h0)] at hts
  repeat'(first|refine gz ?_|(apply LR.ev;(·apply Ev.lookupN0 km130;(·exact rfl);(·exact rfl);(·exact fun w' hw'=>hw'.holds (nmap m (tkG g k)) memZ);(·exact hta.trans h0));(·exact rfl))|(apply addX;(iterate 2 exact rfl);(iterate 2(first|omega));exact rfl)|(refine gs ?_ ?_;all_goals(intro hc;try simp only[hcs]at hc;try exact abz)))
  refine At.again (⟨k + 1,a,c⟩ : Ats) (by show k + 1 ≤ 4;omega) ?_ ⟨rfl,?_,trivial⟩ ?_ (by show 4 - (k + 1) < 4 - k;omega)
  ·exact outZ
  ·show Value.slice a (dueG g k).length c = .slice a (dueG g (k + 1)).length c
   rw [hsu]
  ·intro w' hw'
   simp only [hsu]
   rw [show ((k + 1 : Nat) : Int) = (k : Int) + 1 from rfl,hts]
   exact hw'
 by_cases h1 : g k = 1
 ·rw [if_pos h1] at hsu
  rw [h1,show dec1 1 = 0 from rfl] at hts
  repeat'(first|refine gz ?_|refine gy fun _=>?_|(apply LR.ev;(·apply Ev.lookupNv km130;(·exact rfl);(·exact rfl);(·exact fun w' hw'=>hw'.holds (nmap m (tkG g k)) memZ);(·exact hta.trans h1);(·decide));(·exact rfl))|(apply addX;(iterate 2 exact rfl);(iterate 2(first|omega));exact rfl)|(refine LR.delN (g := tkG g k) (k := (k : Int)) km130 (by kernel_rfl) rfl rfl selZ ?_)|(apply LR.append (xs := iv (dueG g k)) (news := [.int .i64 (k : Int)]) (m := 1);(·exact rfl);(·exact rfl);(·intro a' c';exact selZ);(·exact fun w' hw'=>hw'.rd_of_blk (mH _ _));(·exact fun hx=>by cases hx);(·exact rfl);(·exact rfl);(·omega);(·unfold maxLen;omega);(·exact rfl);(intro a4 c4))|(refine gs ?_ ?_;all_goals(intro hc;try simp only[hcs]at hc;try exact abz)))
  refine At.again (⟨k + 1,a4,c4⟩ : Ats) (by show k + 1 ≤ 4;omega) ?_ ⟨rfl,?_,trivial⟩ ?_ (by show 4 - (k + 1) < 4 - k;omega)
  ·exact outZ
  ·show Value.slice a4 ((dueG g k).length + 1) c4 = .slice a4 (dueG g (k + 1)).length c4
   rw [hsu,List.length_append]
   rfl
  ·intro w' hw'
   simp only [hsu]
   rw [show ((k + 1 : Nat) : Int) = (k : Int) + 1 from rfl,hts,List.length_append,show iv (dueG g k ++ [(k : Int)]) = iv (dueG g k) ++ [.int .i64 (k : Int)] by simp [iv]]
   exact hw'.sub subN
 ·rw [if_neg h1,List.append_nil] at hsu
  have hd : dec1 (g k) = g k - 1 := by unfold dec1;rw [if_neg h0]
  rw [hd] at hts
  repeat'(first|refine gz ?_|(apply LR.ev;(·apply Ev.lookupNv km130;(·exact rfl);(·exact rfl);(·exact fun w' hw'=>hw'.holds (nmap m (tkG g k)) memZ);(·exact hta);(·exact h0));(·exact rfl))|(apply addX;(iterate 2 exact rfl);(iterate 2(first|omega));exact rfl)|(apply subX;(iterate 2 exact rfl);(iterate 2(first|omega));exact rfl)|(refine LR.updN (g := tkG g k) (k := (k : Int)) (v := g k - 1) km130 rfl rfl rfl (by omega) selZ ?_)|(refine gs ?_ ?_;all_goals(intro hc;try simp only[hcs]at hc;try exact abz)))
  refine At.again (⟨k + 1,a,c⟩ : Ats) (by show k + 1 ≤ 4;omega) ?_ ⟨rfl,?_,trivial⟩ ?_ (by show 4 - (k + 1) < 4 - k;omega)
  ·exact outZ
  ·show Value.slice a (dueG g k).length c = .slice a (dueG g (k + 1)).length c
   rw [hsu]
  ·intro w' hw'
   simp only [hsu]
   rw [show ((k + 1 : Nat) : Int) = (k : Int) + 1 from rfl,hts]
   exact hw'
end Go.Proofs.YtohbcfokihplbaaGreatDoor
namespace Go.Proofs.YtohbcfokihplbaaGreatDoor
open Go.Hb
set_option maxRecDepth 100000
theorem orI_eq (a b : Int) : orI .i64 a b = (B64 a ||| B64 b).toInt := wrap_toInt _
theorem B64_toInt (x : BitVec 64) : B64 x.toInt = x := BitVec.ofInt_toInt
theorem tb_or (a b : Int) (n : Nat) : tb (orI .i64 a b) n = (tb a n || tb b n) := by
 unfold tb
 rw [orI_eq,B64_toInt,BitVec.getLsbD_or]
theorem tb_pow {k n : Nat} (hk : k ≤ 8) : tb (2 ^ k) n = decide (n = k) := by
 unfold tb
 have e : B64 (2 ^ k) = BitVec.twoPow 64 k := by
  rcases low9 hk with rfl | rfl | rfl | rfl | rfl | rfl | rfl | rfl | rfl <;> rfl
 rw [e,BitVec.getLsbD_twoPow]
 by_cases h : k = n
 ·subst h
  simp
  omega
 ·have : ¬ n = k := fun e=>h e.symm
  simp [h,this]
theorem crew_or_fin : ∀ a : Fin 512,∀ k : Fin 8,crewOk (a.val : Int) = true → crewOk (orI .i64 (a.val : Int) (2 ^ (k.val + 1))) = true := by decide +kernel
theorem crew_or {a : Int} (h : crewOk a = true) {n : Int} (hn : 1 ≤ n ∧ n ≤ 8) : crewOk (orI .i64 a (2 ^ n.toNat)) = true := by
 have hc := h
 unfold crewOk at hc
 rw [decide_eq_true_eq] at hc
 have := crew_or_fin ⟨a.toNat,by omega⟩ ⟨n.toNat - 1,by omega⟩
 simp only [Int.toNat_of_nonneg hc.1] at this
 rw [show n.toNat - 1 + 1 = n.toNat by omega] at this
 exact this h
theorem hasC_tb {c n : Int} (hn : 1 ≤ n ∧ n ≤ 8) : hasC c n = tb c n.toNat := by
 unfold hasC
 rw [decide_eq_true (by omega)]
 rfl
theorem hasC_rng {c n : Int} (h : hasC c n = true) : 1 ≤ n ∧ n ≤ 8 := by
 unfold hasC at h
 rw [Bool.and_eq_true,decide_eq_true_eq] at h
 omega
theorem hasC_or {a n m : Int} (hn : 1 ≤ n ∧ n ≤ 8) (hm : 1 ≤ m ∧ m ≤ 8) : hasC (orI .i64 a (2 ^ n.toNat)) m = (hasC a m || decide (m = n)) := by
 rw [hasC_tb hm,hasC_tb hm,tb_or,tb_pow (by omega)]
 congr 1
 exact decide_eq_decide.2 (by omega)
theorem hasC_pow {n m : Int} (hn : 1 ≤ n ∧ n ≤ 8) (hm : 1 ≤ m ∧ m ≤ 8) : hasC (2 ^ n.toNat) m = decide (m = n) := by
 rw [hasC_tb hm,tb_pow (by omega)]
 exact decide_eq_decide.2 (by omega)
theorem within_iff {a b : Int} : withinC a b = true ↔ ∀ n,hasC a n = true → hasC b n = true := by
 unfold withinC
 rw [List.all_eq_true]
 constructor
 ·intro h n hn
  have hr := hasC_rng hn
  have := h (n.toNat - 1) (List.mem_range.2 (by omega))
  rw [show n.toNat - 1 + 1 = n.toNat by omega] at this
  rw [hasC_tb hr] at hn ⊢
  rw [hn] at this
  simpa using this
 ·intro h k hk
  rw [List.mem_range] at hk
  have h1 := h ((k + 1 : Nat) : Int)
  rw [hasC_nat a (by omega),hasC_nat b (by omega)] at h1
  cases hx : tb a (k + 1) with
  | false=>rfl
  | true=>simpa using h1 hx
theorem and_within {a b : Int} (ha : crewOk a = true) (h : withinC a b = true) : andI .i64 a b = a := by
 have h0 := (andNot_within ha).2 h
 rw [andNotI_eq,toInt_zero] at h0
 rw [andI_eq]
 have h1 : B64 a &&& B64 b = B64 a := by
  apply BitVec.eq_of_getLsbD_eq
  intro i hi
  have h2 := congrArg (fun z=>z.getLsbD i) h0
  simp only [BitVec.getLsbD_and,BitVec.getLsbD_not,BitVec.getLsbD_zero,hi,decide_true,Bool.true_and] at h2
  rw [BitVec.getLsbD_and]
  cases hx : (B64 a).getLsbD i <;> simp_all
 rw [h1]
 have hc := ha
 unfold crewOk at hc
 rw [decide_eq_true_eq] at hc
 have : (B64 a).toInt = a := by
  rw [BitVec.toInt_ofInt]
  show Int.bmod a (2 ^ 64) = a
  unfold Int.bmod
  simp only [Int.reducePow,Nat.reducePow]
  omega
 exact this
end Go.Proofs.YtohbcfokihplbaaGreatDoor
namespace Go.Proofs.YtohbcfokihplbaaGreatDoor
open Go.Hb
attribute [local irreducible] LR CW At Ev thn blk finK noG again CallsTo DW QL dnext TW DP
set_option maxRecDepth 100000
theorem wrap_pow {n : Int} (h : 1 ≤ n ∧ n ≤ 8) : IntKind.i64.wrap (1 * 2 ^ (min n.toNat (IntKind.bits .i64))) = 2 ^ n.toNat := by
 have hf : ∀ k : Fin 8,IntKind.i64.wrap (1 * 2 ^ (min (k.val + 1) (IntKind.bits .i64))) = 2 ^ (k.val + 1) := by decide +kernel
 have := hf ⟨n.toNat - 1,by omega⟩
 rwa [show n.toNat - 1 + 1 = n.toNat by omega] at this
theorem Ev.shl1 {P : Program} {C : World → Prop} {f : Frm} {T T' T'' : TypeId} {x y : Operand} {n : Int} (hx : f.ev x = .int .i64 1) (hy : f.ev y = .int .i64 n) (h : 1 ≤ n ∧ n ≤ 8) : Ev P C f (.binOp .shl T' x y T'') T (.int .i64 (2 ^ n.toNat)) := by
 have h1 := Ev.shl (P := P) (C := C) (T := T) (T' := T') (T'' := T'') hx hy (by omega)
 rwa [wrap_pow h] at h1
def Jn.cells (j : Jn) : List Value := [.int .i64 j.s,.int .i64 j.p,.int .i64 j.c]
def Jn.val (j : Jn) : Value := .agg j.cells.toArray
def zeroJ : Jn := ⟨0,0,0⟩
instance km184 : KMap Tryz.prog 184 (intK IntKind.i64) okK zeroJ.val := KMap.ofInt Tryz.underlying184 Tryz.underlying3 (fun w=>Tryz.zeroValue56 w)
def entJ (j : Jn) : Int × Value := (j.s,j.val)
abbrev gaB (b m : Nat) (G : Gth) : Asrt := .own b (.cells [.int .i64 G.node,.int .i64 G.counter,.int .i64 G.top,.map (some m)].toArray 186 (0,0))
abbrev gaM (m : Nat) (l : List Jn) : Asrt := gmap (intK .i64) m (l.map entJ)
def gaO (b m : Nat) (G : Gth) : Asrt := both (gaB b m G) (gaM m G.last)
theorem gaO_dep (b m : Nat) (G : Gth) : (gaO b m G).dep := both_dep (Asrt.dep_own _ _) (gmap.dep _ _)
abbrev gaR (b m : Nat) (G : Gth) : Asrt := .rd (gaO b m G).foot (gaO b m G).holds
theorem gaO_in {b m : Nat} {G : Gth} {w : World} (h : (gaO b m G).holds w) : St w NoF [gaR b m G] w :=
 (St.refl w NoF).old h (fun k hk=>⟨both_live h k hk,fun x=>x⟩) (gaO_dep _ _ _)
theorem gaO_turn {b m : Nat} {G : Gth} {w : World} (h : (gaO b m G).holds w) : St w (gaO b m G).foot [gaB b m G,gaM m G.last] w :=
 (St.one h (both_live h) (gaO_dep _ _ _)).part (Asrt.dep_own _ _) (gmap.dep _ _)
theorem ga_cell {w0 w : World} {F : Nat → Prop} {L : List Asrt} {b m q : Nat} {G : Gth} {v : Value} (h : St w0 F L w) (hm : gaR b m G ∈ L) (hq : [Value.int .i64 G.node,.int .i64 G.counter,.int .i64 G.top,.map (some m)][q]? = some v) : w.cell? ⟨b,q,none⟩ = some v := by
 have h1 : (gaO b m G).holds w := h.holds (gaR b m G) hm
 rw [cell_own (show w.heap[b]? = some (.cells [.int .i64 G.node,.int .i64 G.counter,.int .i64 G.top,.map (some m)].toArray 186 (0,0)) from h1.1)]
 simpa using hq
structure JOk (G : Gth) : Prop where
 nd : (G.last.map Jn.s).Nodup
 rng : ∀ j ∈ G.last,1 ≤ j.s ∧ j.s ≤ 8
 node : 1 ≤ G.node ∧ G.node ≤ 8
theorem ent_fst (l : List Jn) : (l.map entJ).map Prod.fst = l.map Jn.s := by
 rw [List.map_map];rfl
theorem r117 (n : Int) (w : World) : CallsTo Tryz.prog 117 [.int .i64 n] w fun v w'=>v = .bool (numB n) ∧ Grew w w' := by
 refine go_in (n := 9) (St.refl _ NoF) Tryz.func117 rfl rfl ?_
 repeat'(first|refine gz ?_|(refine gs ?_ ?_;all_goals(intro hc;try simp only[hcs]at hc;try exact abz)))
 all_goals (
  (apply ret1;(·exact rfl);intro w' hS)
  refine ⟨congrArg Value.bool ?_,hS.toKeep⟩
  unfold numB
  first
   | (rw [decide_eq_true (show 0 ≤ n by omega)];rfl)
   | (rw [decide_eq_false (show ¬ 0 ≤ n by omega)];rfl))
theorem r138 (b m : Nat) (G : Gth) (w : World) (h : (gaO b m G).holds w) (hn : 1 ≤ G.node) : CallsTo Tryz.prog 138 [.pointer (some ⟨b,0,none⟩)] w fun v w'=>v = .bool false ∧ Grew w w' := by
 refine go_in (n := 12) (gaO_in h) Tryz.func138 rfl rfl ?_
 repeat'(first|refine gz ?_|(apply LR.ev;(·apply Ev.load;(·exact rfl);(·exact fun w' hw'=>ga_cell hw' memZ rfl));(·exact rfl))|fail)
 (apply ret1;(·exact rfl);intro w' hS)
 refine ⟨congrArg Value.bool (decide_eq_false (by omega)),hS.toKeep⟩
theorem r67 (node counter : Int) (w : World) (h1 : 1 ≤ node ∧ node ≤ 8) (h2 : numB counter = true) : CallsTo Tryz.prog 67 [.int .i64 node,.int .i64 counter] w fun v w'=>∃ b m,v = .tuple [.pointer (some ⟨b,0,none⟩),.int .i64 0].toArray ∧ New1 (gaO b m (newG node counter)) w w' := by
 refine go_in (n := 23) (St.refl _ NoF) Tryz.func67 rfl rfl ?_
 repeat'(first|refine gz ?_|refine gy fun _=>?_|(apply kq;(·exact rfl);(·intro w1 hw1;have hq := CallsTo.q (r117 counter w1) hw1;rw [h2] at hq;exact hq))|(refine LR.makeMapG (enc := intK .i64) (ok := okK) (T := 184) rfl fun bm=>?_)|(refine gs ?_ ?_;all_goals(intro hc;try simp only[hcs]at hc;try exact abz)))
 all_goals (try (exfalso;omega))
 rename_i b
 (apply ret2;(·exact rfl);intro w' hS)
 exact ⟨b,bm,rfl,St.new1 (hS.join rfl rfl) rfl⟩
theorem r196 (b m : Nat) (G : Gth) (w : World) (h : (gaO b m G).holds w) (hn : 1 ≤ G.node) : CallsTo Tryz.prog 196 [.pointer (some ⟨b,0,none⟩)] w fun v w'=>v = .int .i64 G.top ∧ Grew w w' := by
 refine go_in (n := 9) (gaO_in h) Tryz.func196 rfl rfl ?_
 repeat'(first|refine gz ?_|(apply kq;(·exact rfl);(·intro w1 h1;exact CallsTo.q (r138 b m G w1 (h1.holds (gaR b m G) memZ) hn) h1))|(apply LR.ev;(·apply Ev.load;(·exact rfl);(·exact fun w' hw'=>ga_cell hw' memZ rfl));(·exact rfl))|fail)
 (apply ret1;(·exact rfl);intro w' hS)
 exact ⟨rfl,hS.toKeep⟩
theorem Ev.entryV {P : Program} {C : World → Prop} {f : Frm} {T' : TypeId} {x : Operand} {b r : Nat} {es : Array MapEntry} {clock : Nat} {seen : Array Nat} {e : MapEntry} {k v : Value} (hx : f.ev x = .pointer (some ⟨r,0,none⟩)) (hm : ∀ w,C w → w.heap[b]? = some (.map es clock) ∧ w.heap[r]? = some (.mapIter (some b) clock (seen.push e.born) clock))
  (he : e ∈ es.toList) (hn : (es.toList.map MapEntry.born).Nodup) (hk : e.key = k) (hv : e.val = v) : Ev P C f (.entry x) T' (.tuple [k,v].toArray) := by
 have h := Ev.entryG (P := P) (T' := T') hx hm he hn
 rwa [hk,hv] at h
def keyI : Value → Int
 | .int _ a=>a
 | _=>0
def orE (c : Int) (l : List MapEntry) : Int := l.foldl (fun c e=>orI .i64 c (2 ^ (keyI e.key).toNat)) c
theorem orI_swap (c x y : Int) : orI .i64 (orI .i64 c x) y = orI .i64 (orI .i64 c y) x := by
 simp only [orI_eq,B64_toInt]
 rw [BitVec.or_assoc,BitVec.or_comm (B64 x),← BitVec.or_assoc]
theorem orE_perm {c : Int} {l r : List MapEntry} (h : l.Perm r) : orE c l = orE c r :=
 h.foldl_eq' (fun x _ y _ z=>orI_swap z _ _) c
theorem orE_list (c : Int) : ∀ (es : List MapEntry) (l : List Jn),es.map (fun e=>(e.key,e.val)) = (l.map entJ).map (fun p=>(intK .i64 p.1,p.2)) → orE c es = heardL c l
 | [],[],_=>rfl
 | [],_ :: _,h=>by simp at h
 | _ :: _,[],h=>by simp at h
 | e :: es,j :: l,h=>by
  simp only [List.map_cons,List.cons.injEq,Prod.mk.injEq] at h
  have hk : keyI e.key = j.s := by rw [h.1.1];rfl
  show orE (orI .i64 c (2 ^ (keyI e.key).toNat)) es = heardL (orI .i64 c (2 ^ j.s.toNat)) l
  rw [hk]
  exact orE_list _ es l h.2
theorem ent_of {es : List MapEntry} {l : List Jn} (h : es.map (fun e=>(e.key,e.val)) = (l.map entJ).map (fun p=>(intK .i64 p.1,p.2))) {e : MapEntry} (he : e ∈ es) : ∃ j ∈ l,e.key = .int .i64 j.s ∧ e.val = j.val := by
 have : (e.key,e.val) ∈ (l.map entJ).map (fun p=>(intK .i64 p.1,p.2)) := h ▸ List.mem_map.2 ⟨e,he,rfl⟩
 obtain ⟨p,hp,e1⟩ := List.mem_map.1 this
 obtain ⟨j,hj,rfl⟩ := List.mem_map.1 hp
 simp only [Prod.mk.injEq] at e1
 exact ⟨j,hj,e1.1.symm,e1.2.symm⟩
structure Its where
 seen : Array Nat
 c : Int
set_option maxHeartbeats 1000000 in
theorem r139 (b m : Nat) (G : Gth) (w : World) (h : (gaO b m G).holds w) (hJ : JOk G) : CallsTo Tryz.prog 139 [.pointer (some ⟨b,0,none⟩)] w fun v w'=>v = .int .i64 G.heard ∧ Grew w w' := by
 obtain ⟨es,clock,hb,he,hnd,hlt⟩ : gmH (intK .i64) m (G.last.map entJ) w := h.2.1
 have hms : m < w.heap.size := (Array.getElem?_eq_some_iff.1 hb).1
 have hmp : ∀ {L : List Asrt} (w' : World),St w NoF L w' → w'.heap[m]? = some (.map es clock) := fun w' hw'=>by rw [hw'.keep m hms (fun x=>x)];exact hb
 have hn := hJ.node
 refine go_in (n := 24) (gaO_in h) Tryz.func139 rfl rfl ?_
 repeat'(first|(apply LR.ev;(·apply Ev.shl1;(·exact rfl);(·exact rfl);(·exact hn));(·exact rfl))|refine gz ?_|(apply LR.ev;(·apply Ev.load;(·exact rfl);(·exact fun w' hw'=>ga_cell hw' memZ rfl));(·exact rfl))|(refine LR.rangeG (enc := intK .i64) (ok := okK) (zv := zeroJ.val) rfl rfl hmp fun r=>?_))
 apply CW.loop [3,4,15,16,17,18,19,20,21,22] (fun s : Its=>orE s.c (leftL es s.seen) = G.heard) (fun s=>[(3,.int .i64 s.c)])
  (fun s=>St w NoF [.own r (.mapIter (some m) clock s.seen clock),gaR b m G]) (fun s=>(leftL es s.seen).length)
 ·refine fun w' hw'=>⟨⟨#[],2 ^ G.node.toNat⟩,?_,⟨rfl,trivial⟩,hw'⟩
  simp only [leftL_nil]
  exact orE_list _ _ _ he
 rintro ⟨seen,c⟩ fr hs
 simp only at hs ⊢
 have hsub : ∀ {e : MapEntry},e ∈ leftL es seen → e ∈ es.toList := fun h=>(List.mem_filter.1 h).1
 repeat'(first|refine gz ?_|(refine LR.nextG (es := es) (clock := clock) (seen := seen) (L2 := fun n=>[.own r (.mapIter (some m) clock (seen.push n) clock),gaR b m G]) rfl rfl hmp hlt (fun e=>by exact selZ) (fun hnil=>?_) (fun e hel=>?_)))
 ·(apply ret1;(·exact rfl);intro w' hS)
  refine ⟨congrArg (Value.int .i64) ?_,hS.toKeep⟩
  rw [← hs,hnil]
  rfl
 ·obtain ⟨j,hj,hk,hv⟩ := ent_of he (hsub hel)
  have hjr := hJ.rng j hj
  have hp := leftL_push hnd hel
  repeat'(first|(apply LR.ev;(·apply Ev.shl1;(·exact rfl);(·exact rfl);(·exact hjr));(·exact rfl))|(apply LR.ev;(·exact Ev.entryV (es := es) (clock := clock) (seen := seen) (e := e) (b := m) (r := r) rfl (fun w' hw'=>⟨hmp w' hw',hw'.own_at (mH _ _)⟩) (hsub hel) hnd hk hv);(·exact rfl))|refine gz ?_)
  refine At.again (⟨seen.push e.born,orI .i64 c (2 ^ j.s.toNat)⟩ : Its) ?_ ?_ ⟨rfl,trivial⟩ (fun w' hw'=>hw') ?_
  ·rw [← hs,orE_perm hp]
   show orE (orI .i64 c (2 ^ j.s.toNat)) _ = orE (orI .i64 c (2 ^ (keyI e.key).toNat)) _
   rw [hk]
   rfl
  ·exact outZ
  ·have := hp.length_eq
   rw [List.length_cons] at this
   show (leftL es (seen.push e.born)).length < (leftL es seen).length
   omega
theorem r84 (b m : Nat) (G : Gth) (w : World) (h : (gaO b m G).holds w) (hJ : JOk G) : CallsTo Tryz.prog 84 [.pointer (some ⟨b,0,none⟩)] w fun v w'=>v = (ownJ G).val ∧ Grew w w' := by
 refine go_in (n := 17) (gaO_in h) Tryz.func84 rfl rfl ?_
 have hn := hJ.node
 repeat'(first|(apply CW.reg_sinkC 11;(·exact rfl);(·decide +kernel))|refine gz ?_|refine gy fun _=>?_|(apply kq;(·exact rfl);(·intro w1 h1;exact CallsTo.q (r138 b m G w1 (h1.holds (gaR b m G) memZ) hn.1) h1))|fail)
 all_goals (
  apply DW.quiet [0,1,2,3,4,6,7,8,9]
  ·decide +kernel
  ·exact stZ
  repeat'(first|(apply QL.ev;(·exact rfl);(·apply Ev.load;(·exact rfl);(·exact fun w' hw'=>ga_cell hw' memZ rfl));(·exact rfl))|refine gq ?_|apply QL.nil)
  all_goals (show DW _ _ _ _ _ _ _ _))
 all_goals (
  apply DW.loud 5
  ·exact rfl
  ·decide +kernel
  repeat'(first|refine gw ?_|(apply kq;(·exact rfl);(·intro w1 h1;exact CallsTo.q (r139 b m G w1 (h1.holds (gaR b m G) memZ) hJ) h1)))
  all_goals (refine ats ?_))
 all_goals (
  apply DW.quiet [10]
  ·decide +kernel
  ·exact stZ
  repeat'(first|refine gq ?_|apply QL.nil)
  all_goals (show DW _ _ _ _ _ _ _ _))
 all_goals (apply DW.done;(·decide +kernel))
 all_goals apply At.sink
 repeat'(first|refine gz ?_)
 (apply ret1c;(·exact rfl);(·exact inferInstance);(·exact rfl);(·exact memY);(·exact rfl);intro w' hS)
 exact ⟨rfl,hS.toKeep⟩
set_option maxHeartbeats 1000000 in
theorem r188 (b m : Nat) (G : Gth) (w : World) (h : (gaO b m G).holds w) (hJ : JOk G) : CallsTo Tryz.prog 188 [.pointer (some ⟨b,0,none⟩)] w fun v w'=>v = .bool G.agreed ∧ Grew w w' := by
 obtain ⟨es,clock,hb,he,hnd,hlt⟩ : gmH (intK .i64) m (G.last.map entJ) w := h.2.1
 have hms : m < w.heap.size := (Array.getElem?_eq_some_iff.1 hb).1
 have hmp : ∀ {L : List Asrt} (w' : World),St w NoF L w' → w'.heap[m]? = some (.map es clock) := fun w' hw'=>by rw [hw'.keep m hms (fun x=>x)];exact hb
 have hn := hJ.node
 have hval : ∀ j ∈ G.last,∃ e ∈ es.toList,e.val = j.val := fun j hj=>by
  have : (intK .i64 (entJ j).1,(entJ j).2) ∈ es.toList.map (fun e=>(e.key,e.val)) := by rw [he];exact List.mem_map.2 ⟨entJ j,List.mem_map.2 ⟨j,hj,rfl⟩,rfl⟩
  obtain ⟨e,h1,h2⟩ := List.mem_map.1 this
  simp only [Prod.mk.injEq] at h2
  exact ⟨e,h1,h2.2⟩
 refine go_in (n := 23) (gaO_in h) Tryz.func188 rfl rfl ?_
 repeat'(first|refine gz ?_|(apply kq;(·exact rfl);(·intro w1 h1;first | exact CallsTo.q (r138 b m G w1 (h1.holds (gaR b m G) memZ) hn.1) h1 | exact CallsTo.q (r139 b m G w1 (h1.holds (gaR b m G) memZ) hJ) h1))|(apply LR.ev;(·apply Ev.load;(·exact rfl);(·exact fun w' hw'=>ga_cell hw' memZ rfl));(·exact rfl))|(refine LR.rangeG (enc := intK .i64) (ok := okK) (zv := zeroJ.val) rfl rfl hmp fun r=>?_))
 apply CW.loop [2,5,15,16,17,18,19,20,21,22] (fun seen : Array Nat=>∀ e ∈ es.toList,e ∉ leftL es seen → ∃ j ∈ G.last,e.val = j.val ∧ j.p = G.heard) (fun s=>[])
  (fun seen=>St w NoF [.own r (.mapIter (some m) clock seen clock),gaR b m G]) (fun seen=>(leftL es seen).length)
 ·refine fun w' hw'=>⟨#[],?_,trivial,hw'⟩
  intro e h1 h2
  rw [leftL_nil] at h2
  exact absurd h1 h2
 rintro seen fr hs
 have hsub : ∀ {e : MapEntry},e ∈ leftL es seen → e ∈ es.toList := fun h=>(List.mem_filter.1 h).1
 repeat'(first|refine gz ?_|(refine LR.nextG (es := es) (clock := clock) (seen := seen) (L2 := fun n=>[.own r (.mapIter (some m) clock (seen.push n) clock),gaR b m G]) rfl rfl hmp hlt (fun e=>by exact selZ) (fun hnil=>?_) (fun e hel=>?_)))
 ·(apply ret1;(·exact rfl);intro w' hS)
  refine ⟨congrArg Value.bool ?_,hS.toKeep⟩
  symm
  unfold Gth.agreed
  rw [List.all_eq_true]
  intro j hj
  obtain ⟨e,h1,h2⟩ := hval j hj
  obtain ⟨j2,_,h3,h4⟩ := hs e h1 (by rw [hnil];simp)
  have h5 : j2.p = j.p := by
   have h6 := h3.symm.trans h2
   unfold Jn.val Jn.cells at h6
   simp at h6
   exact h6.2.1
  rw [decide_eq_true (h5.symm.trans h4)]
 ·obtain ⟨j,hj,hk,hv⟩ := ent_of he (hsub hel)
  have hp := leftL_push hnd hel
  repeat'(first|(apply LR.ev;(·exact Ev.entryV (es := es) (clock := clock) (seen := seen) (e := e) (b := m) (r := r) rfl (fun w' hw'=>⟨hmp w' hw',hw'.own_at (mH _ _)⟩) (hsub hel) hnd hk hv);(·exact rfl))|refine gz ?_|refine gy fun _=>?_|(refine gs ?_ ?_;all_goals(intro hc;try simp only[hcs]at hc;try exact abz)))
  ·(apply ret1;(·exact rfl);intro w' hS)
   refine ⟨congrArg Value.bool ?_,hS.toKeep⟩
   symm
   rw [← Bool.not_eq_true]
   unfold Gth.agreed
   rw [List.all_eq_true]
   intro hall
   have h9 := hall j hj
   rw [decide_eq_true_eq] at h9
   exact absurd h9 (by assumption)
  ·refine At.again (seen.push e.born) ?_ ?_ trivial (fun w' hw'=>hw'.sub subN) ?_
   ·intro e2 h2 h3
    by_cases h4 : e2 ∈ leftL es seen
    ·have h5 := hp.mem_iff.1 h4
     rcases List.mem_cons.1 h5 with rfl | h5
     ·exact ⟨j,hj,hv,by assumption⟩
     ·exact absurd h5 h3
    ·exact hs e2 h2 h4
   ·exact outZ
   ·have := hp.length_eq
    rw [List.length_cons] at this
    show (leftL es (seen.push e.born)).length < (leftL es seen).length
    omega
end Go.Proofs.YtohbcfokihplbaaGreatDoor
