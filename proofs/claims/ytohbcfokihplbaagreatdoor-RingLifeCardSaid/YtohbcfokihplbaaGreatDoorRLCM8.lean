/-
  Slices of one's own, of elements of any size: emptied behind a place, cut short. Conditions: none; nothing here speaks of one program.
-/
import Derived.Test.YtohbcfokihplbaaGreatDoorRLCM7
set_option linter.unusedSimpArgs false
set_option linter.unusedVariables false
namespace Go.Proofs.YtohbcfokihplbaaGreatDoor
open Go.Hb
attribute [local irreducible] LR CW At Ev thn blk finK noG again CallsTo DW QL dnext TW DP
set_option maxRecDepth 100000
theorem ga_hold {w0 w : World} {F : Nat → Prop} {b m : Nat} {G : Gth} {R : List Asrt} (h : St w0 F (gaB b m G :: gaM m G.last :: R) w) : (gaO b m G).holds w :=
 (show St w0 F (both (gaB b m G) (gaM m G.last) :: R) w from h.join rfl rfl).g0
theorem knows_at {l : List Jn} {s : Int} (h : knows l s = true) : ∃ (i : Nat) (j : Jn),l[i]? = some j ∧ j.s = s := by
 unfold knows at h
 obtain ⟨j,hj,e⟩ := List.any_eq_true.1 h
 obtain ⟨i,hi⟩ := List.getElem?_of_mem hj
 exact ⟨i,j,hi,by simpa using e⟩
theorem put_set {l : List Jn} {j j0 : Jn} {i : Nat} (hn : (l.map Jn.s).Nodup) (hi : l[i]? = some j0) (e : j0.s = j.s) : (putJ l j).map entJ = (l.map entJ).set i (j.s,j.val) := by
 have hk : knows l j.s = true := List.any_eq_true.2 ⟨j0,List.mem_of_getElem? hi,by simpa using e⟩
 unfold putJ
 rw [if_pos hk,List.map_map]
 apply List.ext_getElem?
 intro q
 rw [List.getElem?_set,List.getElem?_map,List.getElem?_map,List.length_map]
 have hil := (List.getElem?_eq_some_iff.1 hi).1
 by_cases e2 : i = q
 ·subst e2
  rw [if_pos rfl,if_pos hil,hi]
  simp only [Option.map_some,Function.comp_apply,e,if_pos]
  rfl
 ·rw [if_neg e2]
  cases hq : l[q]? with
  | none=>rfl
  | some x=>
   have hx : x.s ≠ j.s := fun e3=>e2 (by
    have e4 : (l.map Jn.s)[i]? = some j.s := by rw [List.getElem?_map,hi,Option.map_some,e]
    have e5 : (l.map Jn.s)[q]? = some j.s := by rw [List.getElem?_map,hq,Option.map_some,e3]
    exact (List.getElem?_inj (by simpa using hil) hn).1 (e4.trans e5.symm))
   simp only [Option.map_some,Function.comp_apply,if_neg hx]
theorem put_new {l : List Jn} {j : Jn} (h : knows l j.s = false) : (putJ l j).map entJ = l.map entJ ++ [(j.s,j.val)] := by
 unfold putJ
 rw [if_neg (by rw [h];simp),List.map_append]
 rfl
theorem knows_no {l : List Jn} {s : Int} (h : knows l s = false) : ∀ p ∈ l.map entJ,p.1 ≠ s := by
 intro p hp e
 obtain ⟨j,hj,rfl⟩ := List.mem_map.1 hp
 have : knows l s = true := List.any_eq_true.2 ⟨j,hj,decide_eq_true e⟩
 rw [h] at this
 cases this
theorem max_if (a b : Int) : (if b > a then b else a) = max a b := by
 by_cases h : b > a
 ·rw [if_pos h];omega
 ·rw [if_neg h];omega
def hearE (j : Jn) : Int := if mayJ j then 0 else 2
def hearR (G : Gth) (j : Jn) : Value := .tuple [.bool (chgdG G j),.bool (grewG G j),.int .i64 (hearE j)].toArray
set_option maxHeartbeats 4000000 in
theorem r187 (b m : Nat) (G : Gth) (j : Jn) (w : World) (h : (gaO b m G).holds w) (hJ : JOk G) (hi : -9223372036854775808 ≤ j.p ∧ j.p ≤ 9223372036854775807) :
  CallsTo Tryz.prog 187 [.pointer (some ⟨b,0,none⟩),j.val] w fun v w'=>v = hearR G j ∧ Step (gaO b m G) (gaO b m (hearG G j)) w w' := by
 refine go_in (n := 75) (gaO_turn h) Tryz.func187 rfl rfl ?_
 have hn := hJ.node
 have hfin : ∀ (G' : Gth) (w' : World),St w (gaO b m G).foot [gaB b m G',gaM m G'.last] w' → Step (gaO b m G) (gaO b m G') w w' := fun G' w' hS=>
  (show St w (gaO b m G).foot [gaO b m G'] w' from hS.join rfl rfl).step rfl
 have hmay : mayJ j = (crewOk j.p && hasC j.p j.s && numB j.c) := rfl
 generalize hF : (gaO b m G).foot = F at *
 cases h1 : crewOk j.p
 ·repeat'(first|refine gz ?_|refine gy fun _=>?_|(apply kq;(·exact rfl);(·intro w1 hw1;first | exact CallsTo.q (r138 b m G w1 (ga_hold (hw1.sub subN)) hn.1) hw1 | (have hq := CallsTo.q (show CallsTo Tryz.prog 73 [.int .i64 j.p] w1 _ from q61 j.p w1 hi) hw1;rw [h1] at hq;exact hq)))|fail)
  (apply ret3;(·exact rfl);intro w' hS)
  subst hF
  have hm : mayJ j = false := by rw [hmay,h1];simp
  refine ⟨?_,?_⟩
  ·unfold hearR chgdG grewG hearE
   rw [hm]
   rfl
  ·refine hfin (hearG G j) w' ?_
   unfold hearG
   rw [hm]
   exact hS.sub subN
 cases h2 : hasC j.p j.s
 ·repeat'(first|refine gz ?_|refine gy fun _=>?_|(apply kq;(·exact rfl);(·intro w1 hw1;first | exact CallsTo.q (r138 b m G w1 (ga_hold (hw1.sub subN)) hn.1) hw1 | (have hq := CallsTo.q (show CallsTo Tryz.prog 73 [.int .i64 j.p] w1 _ from q61 j.p w1 hi) hw1;rw [h1] at hq;exact hq) | (have hq := CallsTo.q (show CallsTo Tryz.prog 53 [.int .i64 j.p,.int .i64 j.s] w1 _ from q23 j.p j.s w1) hw1;rw [h2] at hq;exact hq)))|fail)
  (apply ret3;(·exact rfl);intro w' hS)
  subst hF
  have hm : mayJ j = false := by rw [hmay,h1,h2];simp
  refine ⟨?_,?_⟩
  ·unfold hearR chgdG grewG hearE
   rw [hm]
   rfl
  ·refine hfin (hearG G j) w' ?_
   unfold hearG
   rw [hm]
   exact hS.sub subN
 cases h3 : numB j.c
 ·repeat'(first|refine gz ?_|refine gy fun _=>?_|(apply kq;(·exact rfl);(·intro w1 hw1;first | exact CallsTo.q (r138 b m G w1 (ga_hold (hw1.sub subN)) hn.1) hw1 | (have hq := CallsTo.q (show CallsTo Tryz.prog 73 [.int .i64 j.p] w1 _ from q61 j.p w1 hi) hw1;rw [h1] at hq;exact hq) | (have hq := CallsTo.q (show CallsTo Tryz.prog 53 [.int .i64 j.p,.int .i64 j.s] w1 _ from q23 j.p j.s w1) hw1;rw [h2] at hq;exact hq) | (have hq := CallsTo.q (show CallsTo Tryz.prog 117 [.int .i64 j.c] w1 _ from r117 j.c w1) hw1;rw [h3] at hq;exact hq)))|fail)
  (apply ret3;(·exact rfl);intro w' hS)
  subst hF
  have hm : mayJ j = false := by rw [hmay,h1,h2,h3];simp
  refine ⟨?_,?_⟩
  ·unfold hearR chgdG grewG hearE
   rw [hm]
   rfl
  ·refine hfin (hearG G j) w' ?_
   unfold hearG
   rw [hm]
   exact hS.sub subN
 have hm : mayJ j = true := by rw [hmay,h1,h2,h3];rfl
 by_cases hs : j.s = G.node
 ·repeat'(first|(apply CW.reg_heldC)|refine gz ?_|refine gy fun _=>?_|(apply kq;(·exact rfl);(·intro w1 hw1;first | exact CallsTo.q (r138 b m G w1 (ga_hold (hw1.sub subN)) hn.1) hw1 | (have hq := CallsTo.q (show CallsTo Tryz.prog 73 [.int .i64 j.p] w1 _ from q61 j.p w1 hi) hw1;rw [h1] at hq;exact hq) | (have hq := CallsTo.q (show CallsTo Tryz.prog 53 [.int .i64 j.p,.int .i64 j.s] w1 _ from q23 j.p j.s w1) hw1;rw [h2] at hq;exact hq) | (have hq := CallsTo.q (show CallsTo Tryz.prog 117 [.int .i64 j.c] w1 _ from r117 j.c w1) hw1;rw [h3] at hq;exact hq)))|fail)
  all_goals (
   apply DW.quiet [0,1,2,3,4,5,6,7]
   ·decide +kernel
   ·exact stZ
   repeat'(first|refine gq ?_|apply QL.nil)
   all_goals (show DW _ _ _ _ _ _ _ _))
  all_goals (first | (apply DW.done_thn;(·decide +kernel)) |fail)
  repeat'(first|refine gz ?_|(refine gs ?_ ?_;all_goals(intro hc;try simp only[hcs]at hc;try exact abz)))
  all_goals (try (exfalso;revert hc;simp [hs];done))
  (apply ret3;(·exact rfl);intro w' hS)
  subst hF
  refine ⟨?_,?_⟩
  ·unfold hearR chgdG grewG hearE
   rw [hm,decide_eq_true hs]
   rfl
  ·refine hfin (hearG G j) w' ?_
   unfold hearG
   rw [hm,decide_eq_true hs]
   exact hS.sub subN
 cases hk : knows G.last j.s
 ·repeat'(first|(refine kB' fun b3=>?_)|(apply CW.reg_heldC)|refine gz ?_|(apply kq;(·exact rfl);(·intro w1 hw1;first | exact CallsTo.q (r138 b m G w1 (ga_hold (hw1.sub subN)) hn.1) hw1 | (have hq := CallsTo.q (show CallsTo Tryz.prog 73 [.int .i64 j.p] w1 _ from q61 j.p w1 hi) hw1;rw [h1] at hq;exact hq) | (have hq := CallsTo.q (show CallsTo Tryz.prog 53 [.int .i64 j.p,.int .i64 j.s] w1 _ from q23 j.p j.s w1) hw1;rw [h2] at hq;exact hq) | (have hq := CallsTo.q (show CallsTo Tryz.prog 117 [.int .i64 j.c] w1 _ from r117 j.c w1) hw1;rw [h3] at hq;exact hq)))|fail)
  all_goals (
   apply DW.quiet [0,1,2,3,4,5,6,7]
   ·decide +kernel
   ·exact stZ
   repeat'(first|refine gq ?_|apply QL.nil)
   all_goals (show DW _ _ _ _ _ _ _ _))
  all_goals (first | (apply DW.done_thn;(·decide +kernel)) |fail)
  repeat'(first|(apply CW.reg_held (St w F [.own b3 (.cells j.cells.toArray 56 (0,0)),gaB b m G,gaM m G.last]))|refine gz ?_|(refine gs ?_ ?_;all_goals(intro hc;try simp only[hcs]at hc;try exact abz)))
  all_goals (
   apply DW.quiet [0,1,2,3,4,5,6,7,8,9]
   ·decide +kernel
   ·exact stZ
   repeat'(first|(apply QL.ev;(·exact rfl);(·exact Ev.lookup_no (enc := intK .i64) (ok := okK) (l := G.last.map entJ) (a := j.s) rfl rfl (fun w' hw'=>gmH.km (hw'.holds (gaM m G.last) memZ)) (fun _ _=>trivial) trivial (knows_no hk));(·exact rfl))|refine gq ?_|apply QL.nil)
   all_goals (show DW _ _ _ _ _ _ _ _))
  all_goals (
   apply DW.loud 10
   ·exact rfl
   ·decide +kernel
   repeat'(first|refine gw ?_|refine gy fun _=>?_)
   all_goals (refine ats ?_))
  all_goals (
   apply DW.loud 11
   ·exact rfl
   ·decide +kernel
   repeat'(first|refine gw ?_)
   all_goals (refine ats ?_))
  all_goals (
   apply DW.quiet [12]
   ·decide +kernel
   ·exact stZ
   repeat'(first|refine gq ?_|apply QL.nil)
   all_goals (show DW _ _ _ _ _ _ _ _))
  all_goals (first | (apply DW.done_thn;(·decide +kernel)) |fail)
  repeat'(first|(apply CW.reg_sinkC 7;(·exact rfl);(·decide +kernel))|refine gz ?_)
  all_goals (
   apply DW.quiet [0,1,2,3,4,5,6]
   ·decide +kernel
   ·exact stZ
   repeat'(first|refine gq ?_|apply QL.nil)
   all_goals (show DW _ _ _ _ _ _ _ _))
  all_goals (apply DW.done;(·decide +kernel))
  all_goals apply At.sink
  repeat'(first|(apply CW.reg_sinkC 10;(·exact rfl);(·decide +kernel))|refine gz ?_|(refine LR.insertG (enc := intK .i64) (ok := okK) (l := G.last.map entJ) (a := j.s) (v := j.val) rfl rfl rfl selZ (fun _ _=>trivial) trivial (knows_no hk) ?_))
  all_goals (
   apply DW.quiet [0,1,2,3,4,5,6,7,8,9]
   ·decide +kernel
   ·exact stZ
   repeat'(first|(apply QL.ev;(·exact rfl);(·apply Ev.max2;(·exact rfl);(·exact rfl));(·exact rfl))|refine gq ?_|apply QL.nil)
   all_goals (show DW _ _ _ _ _ _ _ _))
  all_goals (apply DW.done;(·decide +kernel))
  all_goals apply At.sink
  repeat'(first|refine gz ?_)
  (apply ret3;(·exact rfl);intro w' hS)
  subst hF
  refine ⟨?_,?_⟩
  ·have e1 : grewG G j = true := by unfold grewG;rw [hm,decide_eq_false hs,hk];rfl
   have e2 : chgdG G j = true := by
    unfold chgdG
    rw [hm,decide_eq_false hs]
    have : G.last.any (fun x=>sameJ x j) = false := by
     rw [Bool.eq_false_iff]
     intro h9
     obtain ⟨x,hx,e⟩ := List.any_eq_true.1 h9
     unfold sameJ at e
     rw [decide_eq_true_eq] at e
     have : knows G.last j.s = true := List.any_eq_true.2 ⟨x,hx,decide_eq_true e.1⟩
     rw [hk] at this
     cases this
    rw [this]
    rfl
   unfold hearR hearE
   rw [e1,e2,hm]
   rfl
  ·refine hfin (hearG G j) w' ?_
   unfold hearG
   rw [hm,decide_eq_false hs]
   show St w _ [.own b (.cells [Value.int .i64 G.node,.int .i64 G.counter,.int .i64 (max G.top j.c),.map (some m)].toArray 186 (0,0)),gmap (intK .i64) m ((putJ G.last j).map entJ)] w'
   rw [put_new hk,← max_if]
   exact hS.sub subN
 ·obtain ⟨i,j0,hij,hjs⟩ := knows_at hk
  have hmem : (j.s,j0.val) ∈ G.last.map entJ := List.mem_map.2 ⟨j0,List.mem_of_getElem? hij,by unfold entJ;rw [hjs]⟩
  have hij2 : (G.last.map entJ)[i]? = some (j.s,j0.val) := by rw [List.getElem?_map,hij];show some (j0.s,j0.val) = _;rw [hjs]
  have hnd : ((G.last.map entJ).map Prod.fst).Nodup := by rw [ent_fst];exact hJ.nd
  repeat'(first|(refine kB' fun b3=>?_)|(apply CW.reg_heldC)|refine gz ?_|(apply kq;(·exact rfl);(·intro w1 hw1;first | exact CallsTo.q (r138 b m G w1 (ga_hold (hw1.sub subN)) hn.1) hw1 | (have hq := CallsTo.q (show CallsTo Tryz.prog 73 [.int .i64 j.p] w1 _ from q61 j.p w1 hi) hw1;rw [h1] at hq;exact hq) | (have hq := CallsTo.q (show CallsTo Tryz.prog 53 [.int .i64 j.p,.int .i64 j.s] w1 _ from q23 j.p j.s w1) hw1;rw [h2] at hq;exact hq) | (have hq := CallsTo.q (show CallsTo Tryz.prog 117 [.int .i64 j.c] w1 _ from r117 j.c w1) hw1;rw [h3] at hq;exact hq)))|fail)
  all_goals (
   apply DW.quiet [0,1,2,3,4,5,6,7]
   ·decide +kernel
   ·exact stZ
   repeat'(first|refine gq ?_|apply QL.nil)
   all_goals (show DW _ _ _ _ _ _ _ _))
  all_goals (first | (apply DW.done_thn;(·decide +kernel)) |fail)
  repeat'(first|(apply CW.reg_held (St w F [.own b3 (.cells j.cells.toArray 56 (0,0)),gaB b m G,gaM m G.last]))|refine gz ?_|(refine gs ?_ ?_;all_goals(intro hc;try simp only[hcs]at hc;try exact abz)))
  all_goals (
   apply DW.quiet [0,1,2,3,4,5,6,7,8,9]
   ·decide +kernel
   ·exact stZ
   repeat'(first|(apply QL.ev;(·exact rfl);(·exact Ev.lookup_yes (enc := intK .i64) (ok := okK) (l := G.last.map entJ) (a := j.s) (u := j0.val) rfl rfl (fun w' hw'=>gmH.km (hw'.holds (gaM m G.last) memZ)) (fun _ _=>trivial) hnd hmem);(·exact rfl))|refine gq ?_|apply QL.nil)
   all_goals (show DW _ _ _ _ _ _ _ _))
  all_goals (
   apply DW.loud 10
   ·exact rfl
   ·decide +kernel
   repeat'(first|refine gw ?_|refine gy fun _=>?_)
   all_goals (refine ats ?_))
  all_goals (
   apply DW.loud 11
   ·exact rfl
   ·decide +kernel
   repeat'(first|refine gw ?_)
   all_goals (refine ats ?_))
  all_goals (
   apply DW.quiet [12]
   ·decide +kernel
   ·exact stZ
   repeat'(first|refine gq ?_|apply QL.nil)
   all_goals (show DW _ _ _ _ _ _ _ _))
  all_goals (first | (apply DW.done_thn;(·decide +kernel)) |fail)
  repeat'(first|(apply CW.reg_sinkC 7;(·exact rfl);(·decide +kernel))|refine gz ?_)
  all_goals (
   apply DW.quiet [0,1,2,3,4,5,6]
   ·decide +kernel
   ·exact stZ
   repeat'(first|refine gq ?_|apply QL.nil)
   all_goals (show DW _ _ _ _ _ _ _ _))
  all_goals (apply DW.done;(·decide +kernel))
  all_goals apply At.sink
  repeat'(first|(apply CW.reg_sinkC 10;(·exact rfl);(·decide +kernel))|refine gz ?_|(refine LR.updateG (enc := intK .i64) (ok := okK) (l := G.last.map entJ) (a := j.s) (v := j.val) rfl rfl rfl selZ (fun _ _=>trivial) hnd hij2 (stays_int .i64 j.s) ?_))
  all_goals (
   apply DW.quiet [0,1,2,3,4,5,6,7,8,9]
   ·decide +kernel
   ·exact stZ
   repeat'(first|(apply QL.ev;(·exact rfl);(·apply Ev.max2;(·exact rfl);(·exact rfl));(·exact rfl))|refine gq ?_|apply QL.nil)
   all_goals (show DW _ _ _ _ _ _ _ _))
  all_goals (apply DW.done;(·decide +kernel))
  all_goals apply At.sink
  repeat'(first|refine gz ?_)
  (apply ret3;(·exact rfl);intro w' hS)
  subst hF
  refine ⟨?_,?_⟩
  ·have e1 : grewG G j = false := by unfold grewG;rw [hm,hk,decide_eq_false hs];rfl
   have e2 : chgdG G j = !decide ([j0.s,j0.p,j0.c] = [j.s,j.p,j.c]) := by
    unfold chgdG
    rw [hm,decide_eq_false hs]
    show (!G.last.any (fun x=>sameJ x j)) = _
    congr 1
    rw [Bool.eq_iff_iff,decide_eq_true_eq,List.any_eq_true]
    constructor
    ·rintro ⟨x,hx,e⟩
     unfold sameJ at e
     rw [decide_eq_true_eq] at e
     obtain ⟨q,hq⟩ := List.getElem?_of_mem hx
     have e4 : (G.last.map Jn.s)[q]? = some j.s := by rw [List.getElem?_map,hq,Option.map_some,e.1]
     have e5 : (G.last.map Jn.s)[i]? = some j.s := by rw [List.getElem?_map,hij,Option.map_some,hjs]
     have hqi := (List.getElem?_inj (List.getElem?_eq_some_iff.1 e4).1 hJ.nd).1 (e4.trans e5.symm)
     subst hqi
     rw [hij] at hq
     cases hq
     rw [e.1,e.2.1,e.2.2]
    ·intro e
     refine ⟨j0,List.mem_of_getElem? hij,?_⟩
     unfold sameJ
     rw [decide_eq_true_eq]
     simpa using e
   unfold hearR hearE
   rw [e1,e2,hm]
   rfl
  ·refine hfin (hearG G j) w' ?_
   unfold hearG
   rw [hm,decide_eq_false hs]
   show St w _ [.own b (.cells [Value.int .i64 G.node,.int .i64 G.counter,.int .i64 (max G.top j.c),.map (some m)].toArray 186 (0,0)),gmap (intK .i64) m ((putJ G.last j).map entJ)] w'
   rw [put_set hJ.nd hij hjs,← max_if]
   exact hS.sub subN
theorem Ev.neg {P : Program} {C : World → Prop} {f : Frm} {T T' : TypeId} {x : Operand} {k : IntKind} {a : Int} (hx : f.ev x = .int k a) : Ev P C f (.unOp .neg T' x) T (.int k (k.wrap (-a))) := by
 unfold Ev
 intro w _ d p af g
 simp [execOp,hx,Op.unary,Op.intArith,Sem.run,Result.andThen]
instance : Own Tryz.prog 55 := ⟨Tryz.call55⟩
instance : Own Tryz.prog 93 := ⟨Tryz.call93⟩
instance : Own Tryz.prog 245 := ⟨Tryz.call245⟩
instance : Own Tryz.prog 310 := ⟨Tryz.call310⟩
def pA (x : Int) : Int := IntKind.u64.wrap (andI .u64 (x.fdiv (2 ^ (min (Int.toNat 1) IntKind.u64.bits))) 6148914691236517205 + andI .u64 x 6148914691236517205)
def pB (x : Int) : Int := IntKind.u64.wrap (andI .u64 (x.fdiv (2 ^ (min (Int.toNat 2) IntKind.u64.bits))) 3689348814741910323 + andI .u64 x 3689348814741910323)
def pC (x : Int) : Int := andI .u64 (IntKind.u64.wrap (x.fdiv (2 ^ (min (Int.toNat 4) IntKind.u64.bits)) + x)) 1085102592571150095
def pD (x : Int) : Int := IntKind.u64.wrap (x + x.fdiv (2 ^ (min (Int.toNat 8) IntKind.u64.bits)))
def pE (x : Int) : Int := IntKind.u64.wrap (x + x.fdiv (2 ^ (min (Int.toNat 16) IntKind.u64.bits)))
def pF (x : Int) : Int := IntKind.u64.wrap (x + x.fdiv (2 ^ (min (Int.toNat 32) IntKind.u64.bits)))
def pG (x : Int) : Int := andI .i64 (IntKind.i64.wrap x) 127
def pop (x : Int) : Int := pG (pF (pE (pD (pC (pB (pA x))))))
theorem r93 (x : Int) (w : World) : CallsTo Tryz.prog 93 [.int .u64 x] w fun v w'=>v = .int .i64 (pop x) ∧ Grew w w' := by
 refine go_in (n := 35) (St.refl _ NoF) Tryz.func93 rfl rfl ?_
 repeat'(first|refine gz ?_|(apply LR.ev;(·apply Ev.addW;(·exact rfl);(·exact rfl));(·exact rfl))|fail)
 (apply ret1;(·exact rfl);intro w' hS)
 exact ⟨rfl,hS.toKeep⟩
theorem r55 (x : Int) (w : World) : CallsTo Tryz.prog 55 [.int .u64 x] w fun v w'=>v = .int .i64 (pop x) ∧ Grew w w' := by
 refine go_in (n := 8) (St.refl _ NoF) Tryz.func55 rfl rfl ?_
 repeat'(first|refine gz ?_|(apply kq;(·exact rfl);(·intro w1 h1;exact CallsTo.q (r93 x w1) h1))|fail)
 (apply ret1;(·exact rfl);intro w' hS)
 exact ⟨rfl,hS.toKeep⟩
theorem pop_fin : ∀ k : Fin 512,crewOk (k.val : Int) = true → pop (IntKind.u64.wrap (andI .i64 (k.val : Int) 510)) = cntC (k.val : Int) := by decide +kernel
def tab64 : List Int := [0,1,56,2,57,49,28,3,61,58,42,50,38,29,17,4,62,47,59,36,45,43,51,22,53,39,33,30,24,18,12,5,63,55,48,27,60,41,37,16,46,35,44,21,52,32,23,11,54,26,40,15,34,20,31,10,25,14,19,9,13,8,7,6]
abbrev tabA : Asrt := rdA (some ⟨1,0,none⟩) (bv tab64)
def tzI (x : Int) : Int := (IntKind.u64.wrap (andI .u64 x (IntKind.u64.wrap (-x)) * 285870213051353865)).fdiv (2 ^ (min (Int.toNat 58) IntKind.u64.bits))
theorem tz_fin : ∀ k : Fin 512,0 < (k.val : Int) → 0 ≤ tzI (k.val : Int) ∧ tzI (k.val : Int) < 64 := by decide +kernel
theorem least_fin : ∀ k : Fin 512,0 < (k.val : Int) → crewOk (k.val : Int) = true → tab64.getD (tzI (IntKind.u64.wrap (andI .i64 (k.val : Int) 510))).toNat 0 = leastC (k.val : Int) := by decide +kernel
theorem tab_fin : ∀ k : Fin 64,0 ≤ tab64.getD k.val 0 ∧ tab64.getD k.val 0 ≤ 63 := by decide +kernel
theorem r310 (x : Int) (w : World) (hx : 0 < x ∧ x < 512) (ht : Rd w (some ⟨1,0,none⟩) (bv tab64)) : CallsTo Tryz.prog 310 [.int .u64 x] w fun v w'=>v = .int .i64 (tab64.getD (tzI x).toNat 0) ∧ Grew w w' := by
 have hb : 0 ≤ tzI x ∧ tzI x < 64 := by
  have := tz_fin ⟨x.toNat,by omega⟩
  simp only [Int.toNat_of_nonneg (show 0 ≤ x by omega)] at this
  exact this hx.1
 obtain ⟨q,hq⟩ : ∃ q,tzI x = q := ⟨_,rfl⟩
 rw [hq] at hb ⊢
 have hcell : ∀ w',St w NoF [rdA (some ⟨1,0,none⟩) (bv tab64)] w' → w'.cell? ⟨1,0 + q.toNat * 1,none⟩ = some (.int .u8 (tab64.getD q.toNat 0)) := fun w' hw'=>by
  have h9 := (hw'.rd_of memZ : Rd w' (some ⟨1,0,none⟩) (bv tab64)).cell (j := q.toNat) (v := .int .u8 (tab64.getD q.toNat 0)) (by
   have hlt : q.toNat < tab64.length := by show q.toNat < 64;omega
   unfold bv
   rw [List.getElem?_map,List.getElem?_eq_getElem hlt,List.getD_eq_getElem?_getD,List.getElem?_eq_getElem hlt]
   rfl)
  rw [Nat.mul_one]
  exact h9
 have hv : IntKind.i64.wrap (tab64.getD q.toNat 0) = tab64.getD q.toNat 0 := by
  have h5 := tab_fin ⟨q.toNat,by omega⟩
  simp only at h5
  exact wrap_i64 (by omega) (by omega)
 generalize tab64.getD q.toNat 0 = tv at hcell hv ⊢
 refine go_in (n := 14) (St.rd1 ht) Tryz.func310 rfl rfl ?_
 repeat'(first|refine gz ?_|(apply LR.ev;(·apply Ev.neg;(·exact rfl));(·exact rfl))|(apply LR.ev;(·apply Ev.mulW;(·exact rfl);(·exact rfl));(·exact rfl))|(apply LR.ev;(·apply Ev.indexArr (i := q);(·exact rfl);(·exact congrArg (Value.int .u64) hq);(·omega);(·omega));(·exact rfl))|(apply LR.ev;(·apply Ev.load;(·exact rfl);(·exact hcell));(·exact rfl))|(refine gs ?_ ?_;all_goals(intro hc;try simp only[hcs]at hc;try exact abz)))
 all_goals (try (exfalso;omega))
 (apply ret1;(·exact rfl);intro w' hS)
 exact ⟨congrArg (Value.int .i64) hv,hS.toKeep⟩
theorem r245 (x : Int) (w : World) (hx : 0 < x ∧ x < 512) (ht : Rd w (some ⟨1,0,none⟩) (bv tab64)) : CallsTo Tryz.prog 245 [.int .u64 x] w fun v w'=>v = .int .i64 (tab64.getD (tzI x).toNat 0) ∧ Grew w w' := by
 refine go_in (n := 8) (St.rd1 ht) Tryz.func245 rfl rfl ?_
 repeat'(first|refine gz ?_|(apply kq;(·exact rfl);(·intro w1 h1;exact CallsTo.q (r310 x w1 hx (h1.rd_of memZ)) h1))|fail)
 (apply ret1;(·exact rfl);intro w' hS)
 exact ⟨rfl,hS.toKeep⟩
theorem r25 (c : Int) (w : World) (hc : crewOk c = true) : CallsTo Tryz.prog 25 [.int .i64 c] w fun v w'=>v = .int .i64 (cntC c) ∧ Grew w w' := by
 have hr := hc
 unfold crewOk at hr
 rw [decide_eq_true_eq] at hr
 have hp := pop_fin ⟨c.toNat,by omega⟩
 simp only [Int.toNat_of_nonneg hr.1] at hp
 rw [← hp hc]
 refine go_in (n := 7) (St.refl _ NoF) Tryz.func25 rfl rfl ?_
 repeat'(first|refine gz ?_|(apply kq;(·exact rfl);(·intro w1 h1;exact CallsTo.q (r55 _ w1) h1))|fail)
 (apply ret1;(·exact rfl);intro w' hS)
 exact ⟨rfl,hS.toKeep⟩
theorem and510 : ∀ k : Fin 512,crewOk (k.val : Int) = true → andI .i64 (k.val : Int) 510 = (k.val : Int) ∧ IntKind.u64.wrap (k.val : Int) = (k.val : Int) := by decide +kernel
theorem r186 (c : Int) (w : World) (hc : crewOk c = true) (ht : Rd w (some ⟨1,0,none⟩) (bv tab64)) : CallsTo Tryz.prog 186 [.int .i64 c] w fun v w'=>v = .int .i64 (leastC c) ∧ Grew w w' := by
 have hr := hc
 unfold crewOk at hr
 rw [decide_eq_true_eq] at hr
 have ha := and510 ⟨c.toNat,by omega⟩
 have hl := least_fin ⟨c.toNat,by omega⟩
 simp only [Int.toNat_of_nonneg hr.1] at ha hl
 obtain ⟨ha1,ha2⟩ := ha hc
 refine go_in (n := 10) (St.rd1 ht) Tryz.func186 rfl rfl ?_
 by_cases h0 : c = 0
 ·subst h0
  repeat'(first|refine gz ?_)
  (apply ret1;(·exact rfl);intro w' hS)
  exact ⟨rfl,hS.toKeep⟩
 ·repeat'(first|refine gz ?_|(apply kq;(·exact rfl);(·intro w1 h1;exact CallsTo.q (show CallsTo Tryz.prog 245 [.int .u64 (IntKind.u64.wrap (andI .i64 c 510))] w1 _ from r245 _ w1 (by rw [ha1,ha2];omega) (h1.rd_of memZ)) h1))|(refine gs ?_ ?_;all_goals(intro hc;try simp only[hcs]at hc;try exact abz)))
  all_goals (try (exfalso;omega))
  (apply ret1;(·exact rfl);intro w' hS)
  rw [← hl (by omega) (by assumption)]
  exact ⟨rfl,hS.toKeep⟩
theorem find_first {n k : Int} : ∀ {L : List Int},L.Pairwise (·< ·) → k ∈ L → n < k → (∀ m ∈ L,n < m → k ≤ m) → L.find? (fun x=>decide (n < x)) = some k
 | x :: r,hp,hk,hn,hm=>by
  rw [List.pairwise_cons] at hp
  rw [List.find?_cons]
  by_cases hx : n < x
  ·rw [decide_eq_true hx]
   have h1 := hm x (List.mem_cons_self ..) hx
   rcases List.mem_cons.1 hk with rfl | hk
   ·rfl
   ·have := hp.1 k hk
    omega
  ·rw [decide_eq_false hx]
   rcases List.mem_cons.1 hk with rfl | hk
   ·exact absurd hn hx
   ·exact find_first hp.2 hk hn (fun m h=>hm m (List.mem_cons_of_mem _ h))
theorem mem_crewL {c k : Int} : k ∈ crewL c ↔ hasC c k = true := by
 constructor
 ·intro h;exact (crewTo_mem h).2.2
 ·intro h
  have hr := hasC_rng h
  unfold crewL crewTo
  refine List.mem_filter.2 ⟨List.mem_map.2 ⟨k.toNat - 1,List.mem_range.2 (by omega),by omega⟩,h⟩
theorem next_some {c n k : Int} (hk : hasC c k = true) (hn : n < k) (hm : ∀ m,n < m → m < k → hasC c m = false) : nextC c n = k := by
 unfold nextC
 rw [find_first (crewTo_asc c 8) (mem_crewL.2 hk) hn (fun m h1 h2=>Int.not_lt.1 fun h3=>by
  have h4 := mem_crewL.1 h1
  rw [hm m h2 h3] at h4
  cases h4)]
 rfl
theorem next_none {c n : Int} (hm : ∀ m,n < m → m ≤ 8 → hasC c m = false) : nextC c n = leastC c := by
 unfold nextC
 rw [List.find?_eq_none.2 (fun m h1 h2=>by
  have h4 := mem_crewL.1 h1
  have h5 := hasC_rng h4
  rw [hm m (by simpa using h2) h5.2] at h4
  cases h4)]
 rfl
theorem r185 (c n : Int) (w : World) (hcr : crewOk c = true) (hn : 1 ≤ n ∧ n ≤ 8) (ht : Rd w (some ⟨1,0,none⟩) (bv tab64)) : CallsTo Tryz.prog 185 [.int .i64 c,.int .i64 n] w fun v w'=>v = .int .i64 (nextC c n) ∧ Grew w w' := by
 refine go_in (n := 23) (St.rd1 ht) Tryz.func185 rfl rfl ?_
 have hmx : (if (0 : Int) > n then 0 else n) = n := if_neg (by omega)
 repeat'(first|refine gz ?_|(apply LR.ev;(·apply Ev.max2;(·exact rfl);(·exact rfl));(·exact rfl))|(apply addX;(iterate 2 exact rfl);(iterate 2(first|omega));exact rfl))
 rw [hmx]
 apply CW.loop [4,5,9,10,11,12,13,14,15,16,17,18,19,20] (fun k : Nat=>n < (k : Int) ∧ k ≤ 9 ∧ ∀ m,n < m → m < (k : Int) → hasC c m = false) (fun k : Nat=>[(5,Value.int .i64 (k : Int))]) (fun _=>St w NoF [rdA (some ⟨1,0,none⟩) (bv tab64)]) (fun k=>9 - k)
 ·exact fun w' hw'=>⟨(n + 1).toNat,⟨by omega,by omega,fun m h1 h2=>by omega⟩,⟨congrArg (Value.int .i64) (by omega),trivial⟩,hw'⟩
 rintro k g ⟨h1,h2,h3⟩
 by_cases h9 : k = 9
 ·subst h9
  rw [next_none (fun m h4 h5=>h3 m h4 (by omega))]
  repeat'(first|refine gz ?_|(apply kq;(·exact rfl);(·intro w1 hw1;exact CallsTo.q (r186 c w1 hcr (hw1.rd_of memZ)) hw1))|(refine gs ?_ ?_;all_goals(intro hc;try simp only[hcs]at hc;try exact abz)))
  all_goals (try (exfalso;omega))
  (apply ret1;(·exact rfl);intro w' hS)
  exact ⟨rfl,hS.toKeep⟩
 ·cases hx : hasC c (k : Int)
  ·repeat'(first|refine gz ?_|(apply kq;(·exact rfl);(·intro w1 hw1;have hq := CallsTo.q (show CallsTo Tryz.prog 53 [.int .i64 c,.int .i64 (k : Int)] w1 _ from q23 c (k : Int) w1) hw1;rw [hx] at hq;exact hq))|(apply addX;(iterate 2 exact rfl);(iterate 2(first|omega));exact rfl)|(refine gs ?_ ?_;all_goals(intro hc;try simp only[hcs]at hc;try exact abz)))
   all_goals (try (exfalso;omega))
   refine At.again (k + 1) ⟨by omega,by omega,fun m h4 h5=>?_⟩ ?_ ⟨congrArg (Value.int .i64) (by omega),trivial⟩ (fun w' hw'=>hw') (by omega)
   ·by_cases e : m = k
    ·rw [e];exact hx
    ·exact h3 m h4 (by omega)
   ·exact outZ
  ·rw [next_some hx h1 h3]
   repeat'(first|refine gz ?_|(apply kq;(·exact rfl);(·intro w1 hw1;have hq := CallsTo.q (show CallsTo Tryz.prog 53 [.int .i64 c,.int .i64 (k : Int)] w1 _ from q23 c (k : Int) w1) hw1;rw [hx] at hq;exact hq))|(refine gs ?_ ?_;all_goals(intro hc;try simp only[hcs]at hc;try exact abz)))
   all_goals (try (exfalso;omega))
   (apply ret1;(·exact rfl);intro w' hS)
   exact ⟨rfl,hS.toKeep⟩
theorem IntWalk_u64 {s : Int} (h : 0 ≤ s ∧ s ≤ 9007199254740991) : IntKind.u64.wrap s = s := by
 unfold IntKind.wrap
 have e1 : IntKind.u64.bits = 64 := rfl
 have e2 : IntKind.u64.signed = false := rfl
 rw [e1,e2]
 simp only [Bool.false_and,Bool.false_eq_true,if_false]
 omega
theorem Ev.min3 {P : Program} {C : World → Prop} {f : Frm} {T : TypeId} {x y z : Operand} {k k' k'' : IntKind} {a b c : Int} {ts : Array TypeId} (hx : f.ev x = .int k a) (hy : f.ev y = .int k' b) (hz : f.ev z = .int k'' c) : Ev P C f (.call ⟨.builtin .min,[x,y,z].toArray,ts⟩) T (.int k (if c < (if b < a then b else a) then c else (if b < a then b else a))) := by
 unfold Ev
 intro w _ d p af g
 simp [execOp,resolve,invoke,builtin,hx,hy,hz,Builtin.min_,Builtin.min2]
theorem r240 (n s a : Int) (w : World) (hn : 0 ≤ n ∧ n ≤ 1000000) (hs : 0 ≤ s ∧ s ≤ 9007199254740991) (ha : 0 ≤ a ∧ a ≤ 9007199254740991) : CallsTo Tryz.prog 240 [.int .i64 n,.int .i64 s,.int .i64 a] w fun v w'=>v = .int .i64 (allow n s a) ∧ Grew w w' := by
 refine go_in (n := 24) (St.refl _ NoF) Tryz.func240 rfl rfl ?_
 have e1 : IntKind.u64.wrap s = s := IntWalk_u64 hs
 have e2 : IntKind.u64.wrap a = a := IntWalk_u64 ha
 repeat'(first|refine gz ?_|(apply LR.ev;(·apply Ev.min3;(·exact rfl);(·exact rfl);(·exact rfl));(·exact rfl))|(apply LR.ev;(·apply Ev.min2;(·exact rfl);(·exact rfl));(·exact rfl))|(apply LR.ev;(·apply Ev.max2;(·exact rfl);(·exact rfl));(·exact rfl))|(apply LR.ev;(·apply Ev.subW;(·exact rfl);(·exact rfl));(·exact rfl))|(refine gs ?_ ?_;all_goals(intro hc;try simp only[hcs]at hc;try exact abz)))
 ·(apply ret1;(·exact rfl);intro w' hS)
  refine ⟨congrArg (Value.int .i64) ?_,hS.toKeep⟩
  rw [e1,e2,IntWalk_u64 (s := s - a) (by omega)]
  have e3 : (if (32 : Int) < s - a then 32 else s - a) = min (s - a) 32 := by
   split <;> omega
  rw [e3,wrap_i64 (a := min (s - a) 32) (by omega) (by omega),wrap_i64 (a := 32 - min (s - a) 32) (by omega) (by omega)]
  unfold allow
  rw [if_pos (show a < s by assumption)]
  generalize 32 - min (s - a) 32 = r
  repeat' split
  all_goals omega
 ·(apply ret1;(·exact rfl);intro w' hS)
  refine ⟨congrArg (Value.int .i64) ?_,hS.toKeep⟩
  unfold allow
  rw [if_neg (show ¬ a < s by omega)]
  repeat' split
  all_goals omega
theorem r246 (s r : Int) (w : World) : CallsTo Tryz.prog 246 [.agg [.int .i64 s,.int .i64 r].toArray] w fun v w'=>v = .bool (liveR s r) ∧ Grew w w' := by
 refine go_in (n := 11) (St.refl _ NoF) Tryz.func246 rfl rfl ?_
 repeat'(first|refine gz ?_|refine gy fun _=>?_|(apply kq;(·exact rfl);(·intro w1 h1;exact CallsTo.q (show CallsTo Tryz.prog 121 [.agg [.int .i64 s,.int .i64 r].toArray] w1 _ from c81 s r w1) h1))|(refine gs ?_ ?_;all_goals(intro hc;try simp only[hcs]at hc;try exact abz)))
 all_goals (
  (apply ret1;(·exact rfl);intro w' hS)
  refine ⟨congrArg Value.bool ?_,hS.toKeep⟩
  unfold liveR
  simp_all)
theorem r247 (x a b : Int) (w : World) : CallsTo Tryz.prog 247 [.int .i64 x,.int .i64 a,.int .i64 b] w fun v w'=>v = .bool (withinB x a b) ∧ Grew w w' := by
 refine go_in (n := 15) (St.refl _ NoF) Tryz.func247 rfl rfl ?_
 repeat'(first|refine gz ?_|(refine gs ?_ ?_;all_goals(intro hc;try simp only[hcs]at hc;try exact abz)))
 all_goals (
  (apply ret1;(·exact rfl);intro w' hS)
  refine ⟨congrArg Value.bool ?_,hS⟩
  simp [withinB, *];try omega)
def entB (e : Ent) : Bool := liveR e.o1 e.o2 && withinB e.high 0 9007199254740991 && withinB e.aru 0 e.high && withinB e.clock 0 9007199254740991
theorem entOk_eq (e : Ent) (n : Int) : entOk e n = (decide (e.node = n) && entB e) := by
 unfold entOk entB withinB numB
 rw [Bool.eq_iff_iff]
 simp only [Bool.and_eq_true,decide_eq_true_eq,List.all_cons,List.all_nil,Bool.and_true]
 constructor
 ·rintro ⟨⟨⟨h1,h2⟩,h3,h4,h5⟩,h6⟩
  refine ⟨h1,⟨⟨h2,?_⟩,?_⟩,?_⟩ <;> omega
 ·rintro ⟨h1,⟨⟨h2,h3⟩,h4⟩,h5⟩
  refine ⟨⟨⟨h1,h2⟩,?_⟩,?_⟩ <;> omega
theorem r248 (e : Ent) (w : World) : CallsTo Tryz.prog 248 [.agg e.cells.toArray] w fun v w'=>v = .bool (entB e) ∧ Grew w w' := by
 refine go_in (n := 23) (St.refl _ NoF) Tryz.func248 rfl rfl ?_
 repeat'(first|refine gz ?_|refine gy fun _=>?_|(apply kq;(·exact rfl);(·intro w1 h1;first | exact CallsTo.q (show CallsTo Tryz.prog 246 [.agg [.int .i64 e.o1,.int .i64 e.o2].toArray] w1 _ from r246 e.o1 e.o2 w1) h1 | exact CallsTo.q (r247 e.high 0 9007199254740991 w1) h1 | exact CallsTo.q (r247 e.aru 0 e.high w1) h1 | exact CallsTo.q (r247 e.clock 0 9007199254740991 w1) h1))|(refine gs ?_ ?_;all_goals(intro hc;try simp only[hcs]at hc;try exact abz)))
 all_goals (
  (apply ret1;(·exact rfl);intro w' hS)
  refine ⟨congrArg Value.bool ?_,hS.toKeep⟩
  unfold entB
  simp_all)
def memL (m : Int) : List Int := if crewOk m then crewL m else []
theorem r189 (x : Cmt) (a : Option Addr) (c : Nat) (w : World) (hI : -9223372036854775808 ≤ x.mem ∧ x.mem ≤ 9223372036854775807) :
  CallsTo Tryz.prog 189 [x.val a c] w fun v w'=>∃ a' c',v = .slice a' (memL x.mem).length c' ∧ NewSl w w' (.slice a' (memL x.mem).length c') 3 1 (memL x.mem).length (iv (memL x.mem)) := by
 refine go_in (n := 10) (St.refl _ NoF) Tryz.func189 rfl rfl ?_
 cases hc : crewOk x.mem
 ·have e : memL x.mem = [] := by unfold memL;rw [hc];rfl
  rw [e]
  repeat'(first|refine gz ?_|refine gy fun _=>?_|(apply kq;(·exact rfl);(·intro w1 h1;have hq := CallsTo.q (show CallsTo Tryz.prog 73 [.int .i64 x.mem] w1 _ from q61 x.mem w1 hI) h1;rw [hc] at hq;exact hq))|fail)
  (apply ret1;(·exact rfl);intro w' hS)
  exact ⟨none,0,rfl,(hS.sub (List.nil_sublist _)).toKeep,World.ownsRow_nil _ _ _ _⟩
 ·have e : memL x.mem = crewL x.mem := by unfold memL;rw [hc];rfl
  rw [e]
  repeat'(first|refine gz ?_|refine gy fun _=>?_|(apply kq;(·exact rfl);(·intro w1 h1;have hq := CallsTo.q (show CallsTo Tryz.prog 73 [.int .i64 x.mem] w1 _ from q61 x.mem w1 hI) h1;rw [hc] at hq;exact hq))|(apply LR.call;(·exact rfl);(intro w1 h1;refine CallsTo.mono (show CallsTo Tryz.prog 120 [.int .i64 x.mem] w1 _ from p97 x.mem w1) ?_;rintro v w2 ⟨a2,c2,rfl,hn⟩;refine LR.back (h1.newSl hn) ?_;clear hn h1))|fail)
  (apply ret1;(·exact rfl);intro w' hS)
  exact ⟨a2,c2,rfl,hS.toNew memZ⟩
set_option maxHeartbeats 8000000 in
theorem r190 (x : Cmt) (a : Option Addr) (c : Nat) (w : World) (hr : Rd w a (x.ents.flatMap Ent.cells)) (hI : -9223372036854775808 ≤ x.mem ∧ x.mem ≤ 9223372036854775807) :
  CallsTo Tryz.prog 190 [x.val a c] w fun v w'=>v = .int .i64 (if cmtB x then 0 else 2) ∧ Grew w w' := by
 refine go_in (n := 67) (St.rd1 hr) Tryz.func190 rfl rfl ?_
 have hlen0 : crewOk x.mem = false ∨ x.mem = 0 → (memL x.mem) = [] ∧ cmtB x = false := by
  rintro (h | h)
  ·refine ⟨by unfold memL;rw [h];rfl,?_⟩
   unfold cmtB comHead
   rw [h]
   rfl
  ·refine ⟨by unfold memL;rw [h];decide +kernel,?_⟩
   unfold cmtB comHead
   rw [decide_eq_true h]
   simp
 by_cases hbad : crewOk x.mem = false ∨ x.mem = 0
 ·obtain ⟨e1,e2⟩ := hlen0 hbad
  rw [e2]
  repeat'(first|(refine kB' fun b1=>?_)|(apply CW.reg_heldC)|refine gz ?_|(apply LR.call;(·exact rfl);(intro w1 h1;refine (r189 x a c w1 hI).mono ?_;rintro v w2 ⟨a2,c2,rfl,hn⟩;rw [e1] at hn ⊢;refine LR.back (h1.newSl hn) ?_;clear hn h1))|fail)
  all_goals (
   apply DW.quiet [0,1,2,3,4,5]
   ·decide +kernel
   ·exact stZ
   repeat'(first|refine gq ?_|apply QL.nil)
   all_goals (show DW _ _ _ _ _ _ _ _))
  all_goals (
   apply DW.loud 6
   ·exact rfl
   ·decide +kernel
   repeat'(first|refine gw ?_)
   all_goals (refine ats ?_))
  all_goals (
   apply DW.quiet [7,8,9,10,11,12,13,14,15,16,17,18,19,20,21,22,23]
   ·decide +kernel
   ·exact stZ
   repeat'(first|refine gq ?_|apply QL.nil)
   all_goals (show DW _ _ _ _ _ _ _ _))
  all_goals (
   apply DW.loud 24
   ·exact rfl
   ·decide +kernel
   repeat'(first|refine gw ?_)
   all_goals (refine ats ?_))
  all_goals (
   apply DW.quiet [25,26,27,28,29,30,31,32,33,34,35,36,37]
   ·decide +kernel
   ·exact stZ
   repeat'(first|refine gq ?_|apply QL.nil)
   all_goals (show DW _ _ _ _ _ _ _ _))
  all_goals (first | (apply DW.done_thn;(·decide +kernel)) |fail)
  repeat'(first|refine gz ?_)
  all_goals (try (exfalso;omega))
  (apply ret1;(·exact rfl);intro w' hS)
  exact ⟨rfl,hS.toKeep⟩
 ·have hck : crewOk x.mem = true := by
   cases h : crewOk x.mem with
   | true=>rfl
   | false=>exact absurd (.inl h) hbad
  have hm0 : x.mem ≠ 0 := fun h=>hbad (.inr h)
  have hlp := crewL_pos hck hm0
  have hl8 : (crewL x.mem).length ≤ 8 := crewTo_len x.mem 8
  have e1 : memL x.mem = crewL x.mem := by unfold memL;rw [hck];rfl
  have hmt : cmtB x = (liveR x.r1 x.r2 && cmtMid x (crewL x.mem) && entsOk x.ents (crewL x.mem)) := by unfold cmtB comHead;rw [hck,decide_eq_false hm0];rfl
  rw [hmt]
  repeat'(first|(refine kB' fun b1=>?_)|refine gz ?_)
  apply LR.call
  ·exact rfl
  intro w1 h1
  refine (r189 x a c w1 hI).mono ?_
  rintro v w2 ⟨a2,c2,rfl,hn⟩
  rw [e1] at hn ⊢
  obtain ⟨l,hl⟩ : ∃ l,crewL x.mem = l := ⟨_,rfl⟩
  rw [hl] at hn hlp hl8 ⊢
  obtain ⟨bg,og,rfl⟩ := (ownsRow_rd (ownsRow_zero hn.own)).form (fun e=>by have h2 := congrArg List.length e;simp only [iv_length,List.length_nil] at h2;omega)
  refine LR.back (h1.newSl hn) ?_
  clear hn h1
  have hl0 : (iv l)[(0 : Int).toNat * 1]? = some (.int .i64 (l.getD 0 0)) := by
   rw [show (0 : Int).toNat * 1 = 0 from rfl,iv_get hlp,List.getD_eq_getElem?_getD,List.getElem?_eq_getElem hlp]
   rfl
  have hif2 : (if false = true then (0 : Int) else 2) = 2 := rfl
  have hlv : ∀ w1,CallsTo Tryz.prog 246 [.agg [.int .i64 x.r1,.int .i64 x.r2].toArray] w1 fun v w'=>v = .bool (liveR x.r1 x.r2) ∧ Grew w1 w' := fun w1=>r246 x.r1 x.r2 w1
  generalize liveR x.r1 x.r2 = lv at hlv ⊢
  cases lv
  ·rw [Bool.false_and,Bool.false_and]
   repeat'(first|(apply CW.reg_heldC)|refine gz ?_)
   all_goals (
    apply DW.quiet [0,1,2,3,4,5]
    ·decide +kernel
    ·exact stZ
    repeat'(first|refine gq ?_|(refine us' ?_ ?_;all_goals(intro hc;try simp only[hcs]at hc;try exact abz))|apply QL.nil)
    all_goals (show DW _ _ _ _ _ _ _ _))
   all_goals (
    apply DW.loud 6
    ·exact rfl
    ·decide +kernel
    repeat'(first|refine gw ?_|(apply kq;(·exact rfl);(·intro w1 h1;exact CallsTo.q (hlv w1) h1)))
    all_goals (refine ats ?_))
   all_goals (
    apply DW.quiet [7,8,9,10,11,12,13,14,15,16,17,18,19,20,21,22,23]
    ·decide +kernel
    ·exact stZ
    repeat'(first|refine gq ?_|apply QL.nil)
    all_goals (show DW _ _ _ _ _ _ _ _))
   all_goals (
    apply DW.loud 24
    ·exact rfl
    ·decide +kernel
    repeat'(first|refine gw ?_)
    all_goals (refine ats ?_))
   all_goals (
    apply DW.quiet [25,26,27,28,29,30,31,32,33,34,35,36,37]
    ·decide +kernel
    ·exact stZ
    repeat'(first|refine gq ?_|apply QL.nil)
    all_goals (show DW _ _ _ _ _ _ _ _))
   all_goals (first | (apply DW.done_thn;(·decide +kernel)) |fail)
   repeat'(first|refine gz ?_)
   all_goals (try (exfalso;omega))
   (apply ret1;(·exact rfl);intro w' hS)
   exact ⟨rfl,hS.toKeep⟩
  rw [Bool.true_and]
  have hw2 : withinB x.hop 1 (2 * (l.length : Int)) = decide (1 ≤ x.hop ∧ x.hop ≤ 2 * (l.length : Int)) := by unfold withinB;simp
  repeat'(first|(apply CW.reg_heldC)|refine gz ?_)
  all_goals (
   apply DW.quiet [0,1,2,3,4,5]
   ·decide +kernel
   ·exact stZ
   repeat'(first|refine gq ?_|(refine us' ?_ ?_;all_goals(intro hc;try simp only[hcs]at hc;try exact abz))|apply QL.nil)
   all_goals (show DW _ _ _ _ _ _ _ _))
  all_goals (
   apply DW.loud 6
   ·exact rfl
   ·decide +kernel
   repeat'(first|refine gw ?_|(apply kq;(·exact rfl);(·intro w1 h1;first | exact CallsTo.q (hlv w1) h1 )))
   all_goals (refine ats ?_))
  all_goals (
   apply DW.quiet [7,8,9,10,11,12,13,14,15,16,17,18,19,20,21,22,23]
   ·decide +kernel
   ·exact stZ
   repeat'(first|(apply QL.evg;(iterate 3 exact rfl);(·first | (apply Ev.indexAddr;(·exact rfl);(·exact rfl);(·omega);(·omega)) | (apply Ev.load_osl;(·exact rfl);(·exact memZ);(·exact hl0)) | (apply Ev.mul;(·exact rfl);(·exact rfl);(·omega);(·omega)) |fail);(·exact rfl))|refine gq ?_|(refine us' ?_ ?_;all_goals(intro hc;try simp only[hcs]at hc;try exact abz))|apply QL.nil)
   all_goals (show DW _ _ _ _ _ _ _ _))
  all_goals (
   apply DW.loud 24
   ·exact rfl
   ·decide +kernel
   repeat'(first|refine gw ?_|(apply kq;(·exact rfl);(·intro w1 h1;first | exact CallsTo.q (r247 x.hop 1 (2 * (l.length : Int)) w1) h1)))
   all_goals (refine ats ?_))
  all_goals (
   apply DW.quiet [25,26,27,28,29,30,31,32,33,34,35,36,37]
   ·decide +kernel
   ·exact stZ
   repeat'(first|(apply QL.evg;(iterate 3 exact rfl);(·first | (exact Ev.min2 rfl rfl));(·exact rfl))|refine gq ?_|(refine us' ?_ ?_;all_goals(intro hc;try simp only[hcs]at hc;try exact abz))|apply QL.nil)
   all_goals (show DW _ _ _ _ _ _ _ _))
  all_goals (first | (apply DW.done_thn;(·decide +kernel)) |fail)
  repeat'(first|refine gz ?_|(refine gs ?_ ?_;all_goals(intro hc;try simp only[hcs]at hc;try exact abz)))
  all_goals try (
   (apply ret1;(·exact rfl);intro w' hS)
   refine ⟨congrArg (Value.int .i64) ?_,hS.toKeep⟩
   cases hcm : cmtMid x l
   ·rfl
   ·exfalso
    unfold cmtMid minE at hcm
    rw [← hw2] at hcm
    simp only [Bool.and_eq_true,decide_eq_true_eq] at hcm
    obtain ⟨⟨g1,g2⟩,g3⟩ := hcm
    first | exact absurd g1 (by assumption) | exact absurd (g2.symm.trans (show withinB x.hop 1 (2 * (l.length : Int)) = false by assumption)) (by decide) | exact absurd g3 (by assumption))
  have hcm : cmtMid x l = true := by
   unfold cmtMid minE
   rw [← hw2]
   simp only [Bool.and_eq_true,decide_eq_true_eq]
   exact ⟨⟨by assumption,by assumption⟩,by assumption⟩
  have hel : x.ents.length ≤ l.length ∧ x.ents.length ≤ 1000 := by
   unfold cmtMid minE at hcm
   simp only [Bool.and_eq_true,decide_eq_true_eq] at hcm
   have := hcm.2
   split at this <;> omega
  rw [hcm,Bool.true_and]
  apply CW.loop [2,4,5,49,50,51,52,53,54,55,56,57,58,59,60,61,62,63,64,65,66] (fun i : Nat=>i ≤ x.ents.length ∧ entsOk x.ents l = entsOk (x.ents.drop i) (l.drop i)) (fun i=>[(49,Value.int .i64 (i : Int))])
   (fun _=>St w NoF [osl (.slice (some ⟨bg,og,none⟩) l.length c2) 3 1 l.length (iv l),rdA a (x.ents.flatMap Ent.cells)]) (fun i=>x.ents.length - i)
  ·intro w' hw'
   exact ⟨0,⟨by simp,by simp⟩,⟨rfl,trivial⟩,hw'.sub subN⟩
  intro i g1 ⟨hi,heq⟩
  by_cases hlt : i < x.ents.length
  ·have hil : i < l.length := by omega
   obtain ⟨be,oe,rfl⟩ := hr.form (rows_ne Ent.cells_len (by omega) hlt)
   rw [List.drop_eq_getElem_cons hlt,List.drop_eq_getElem_cons hil,entsOk_cons] at heq
   obtain ⟨e,he⟩ : ∃ e,x.ents[i] = e := ⟨_,rfl⟩
   have hcl : ∀ w',Rd w' (some ⟨be,oe,none⟩) (x.ents.flatMap Ent.cells) → ∀ j v,e.cells[j]? = some v → w'.cell? ((⟨be,oe + (i : Int).toNat * 6,none⟩ : Addr).add j) = some v := fun w' h=>by
    rw [← he]
    exact rd_row Ent.cells_len h hlt (by omega)
   rw [he,entOk_eq] at heq
   have hnv : (iv l)[(i : Int).toNat * 1]? = some (.int .i64 l[i]) := iv_at (by omega) hil
   obtain ⟨n,hn⟩ : ∃ n,l[i] = n := ⟨_,rfl⟩
   rw [hn] at hnv heq
   repeat'(first|(apply CW.reg_heldC)|refine gz ?_|refine gy fun _=>?_|(apply idxX;(iterate 2 exact rfl);(iterate 2(first|omega));exact rfl)|(apply LR.ev;(·apply Ev.load_agg_at (cs := e.cells);(·exact rfl);(·exact rfl);(·intro w' hw';exact hcl w' (hw'.rd_of memZ)));(·exact rfl))|(refine gs ?_ ?_;all_goals(intro hc;try simp only[hcs]at hc;try exact abz)))
   all_goals (
    apply DW.quiet [0,1,2,3,4,5,6,7,8]
    ·decide +kernel
    ·exact stZ
    repeat'(first|(apply QL.ev;(·exact rfl);(·first | (apply Ev.indexAddr;(·exact rfl);(·exact rfl);(·omega);(·omega)) | (apply Ev.load_osl;(·exact rfl);(·exact memZ);(·exact hnv)));(·exact rfl))|refine gq ?_|(refine us' ?_ ?_;all_goals(intro hc;try simp only[hcs]at hc;try exact abz))|apply QL.nil)
    all_goals (show DW _ _ _ _ _ _ _ _))
   all_goals (
    apply DW.loud 9
    ·exact rfl
    ·decide +kernel
    repeat'(first|refine gw ?_|(apply kq;(·exact rfl);(·intro w1 h1;exact CallsTo.q (show CallsTo Tryz.prog 248 [.agg e.cells.toArray] w1 _ from r248 e w1) h1)))
    all_goals (refine ats ?_))
   all_goals (
    apply DW.quiet [10,11]
    ·decide +kernel
    ·exact stZ
    repeat'(first|refine gq ?_|apply QL.nil)
    all_goals (show DW _ _ _ _ _ _ _ _))
   all_goals (first | (apply DW.done_thn;(·decide +kernel)) |fail)
   repeat'(first|refine gz ?_|(apply addX;(iterate 2 exact rfl);(iterate 2(first|omega));exact rfl)|(refine gs ?_ ?_;all_goals(intro hc;try simp only[hcs]at hc;try exact abz)))
   all_goals try (
    (apply ret1;(·exact rfl);intro w' hS)
    refine ⟨congrArg (Value.int .i64) ?_,hS.toKeep⟩
    rw [heq]
    first
     | (rw [decide_eq_false (show ¬ e.node = n by assumption)];rfl)
     | (rw [show entB e = false by assumption,Bool.and_false];rfl))
   rw [decide_eq_true (show e.node = n by assumption),show entB e = true by assumption,Bool.true_and,Bool.true_and] at heq
   refine At.again (i + 1) ⟨by omega,heq⟩ ?_ ⟨rfl,trivial⟩ (fun w' hw'=>hw'.sub subN) (by omega)
   exact outZ
  ·have hie : i = x.ents.length := by omega
   subst hie
   rw [List.drop_length] at heq
   rw [heq]
   repeat'(first|refine gz ?_|(refine gs ?_ ?_;all_goals(intro hc;try simp only[hcs]at hc;try exact abz)))
   (apply ret1;(·exact rfl);intro w' hS)
   exact ⟨rfl,hS.toKeep⟩
abbrev enS (a : Option Addr) (c : Nat) (l : List Ent) : Asrt := osl (.slice a l.length c) 91 6 l.length (l.flatMap Ent.cells)
theorem ents_len (l : List Ent) : (l.flatMap Ent.cells).length = l.length * 6 := Go.Hb.rows_len Ent.cells_len l
theorem ents_one : ∀ l : List Ent,(l.flatMap Ent.cells).all Value.oneCell' = true
 | []=>rfl
 | e :: r=>by
  rw [List.flatMap_cons,List.all_append,ents_one r]
  rfl
set_option maxHeartbeats 2000000 in
theorem r311 (m : Nat) (w : World) (hm : m ≤ 1000) :
  CallsTo Tryz.prog 311 [.slice none 0 0,.int .i64 (m : Int)] w fun v w'=>∃ a' c',v = .slice a' 0 c' ∧ NewSl w w' (.slice a' 0 c') 91 6 0 [] := by
 refine go_in (n := 27) ((St.refl w NoF).nilsl 91 6) Tryz.func311 rfl rfl ?_
 by_cases h0 : m = 0
 ·subst h0
  repeat'(first|refine gz ?_|(apply subX;(iterate 2 exact rfl);(iterate 2(first|omega));exact rfl)|(apply LR.ev;(·exact Ev.cap rfl);(·exact rfl))|fail)
  (apply ret1;(·exact rfl);intro w' hS)
  exact ⟨none,0,rfl,hS.toNew memZ⟩
 ·repeat'(first|refine gz ?_|(apply subX;(iterate 2 exact rfl);(iterate 2(first|omega));exact rfl)|(apply LR.ev;(·first | exact Ev.cap rfl | exact Ev.slice_hi0 (a := none) (c := 0) (j := 0) (subA_own (.inl rfl)) rfl (Nat.le_refl _) rfl rfl);(·exact rfl))|(refine gs ?_ ?_;all_goals(intro hc;try simp only[hcs]at hc;try exact abz)))
  refine LR.grow (m := m) (c := 0) (k := 0) (xs := []) rfl (congrArg (Value.int .i64) (by omega)) (fun b' c'=>sH _ _ _) (by omega) (by omega) (by unfold maxLen;omega) rfl ?_
  intro b' c' hkc
  repeat'(first|refine gz ?_|(apply LR.ev;(·exact Ev.slice_hi0 (a := some ⟨b',0,none⟩) (c := c') (j := 0) subA_zero rfl hkc rfl rfl);(·exact rfl))|fail)
  (apply ret1;(·exact rfl);intro w' hS)
  exact ⟨some ⟨b',0,none⟩,c',rfl,hS.toNew memZ⟩
structure EnA where
 a : Option Addr
 c : Nat
 l : List Ent
def EnA.row (x : EnA) : List Value := [.slice x.a x.l.length x.c]
theorem EnA.row_len (x : EnA) : x.row.length = 1 := rfl
def entsOf (X : List EnA) : List Ent := X.flatMap EnA.l
theorem entsOf_take {X : List EnA} {i : Nat} (h : i < X.length) : entsOf (X.take (i + 1)) = entsOf (X.take i) ++ X[i].l := by
 unfold entsOf
 rw [List.take_add_one,List.getElem?_eq_getElem h,List.flatMap_append]
 simp
structure EnR (w : World) (x : EnA) : Prop where
 r : Rd w x.a (x.l.flatMap Ent.cells)
 z : x.a = none → x.c = 0
theorem entsOf_le {X : List EnA} (i : Nat) : (entsOf (X.take i)).length ≤ (entsOf X).length := by
 have h : entsOf X = entsOf (X.take i) ++ entsOf (X.drop i) := by
  unfold entsOf
  rw [← List.flatMap_append,List.take_append_drop]
 rw [h,List.length_append]
 omega
structure Cts where
 i : Nat
 a : Option Addr
 c : Nat
set_option maxHeartbeats 4000000 in
theorem r249 (bs : Nat) (X : List EnA) (c : Nat) (w : World) (hx : Rd w (some ⟨bs,0,none⟩) (X.flatMap EnA.row)) (hX : ∀ x ∈ X,EnR w x) (hl : X.length ≤ 10) (hn : (entsOf X).length ≤ 1000) :
  CallsTo Tryz.prog 249 [.slice (some ⟨bs,0,none⟩) X.length c] w fun v w'=>∃ a' c',v = .slice a' (entsOf X).length c' ∧ NewSl w w' (.slice a' (entsOf X).length c') 91 6 (entsOf X).length ((entsOf X).flatMap Ent.cells) := by
 refine go_in (n := 36) (St.rd1 hx) Tryz.func249 rfl rfl ?_
 repeat'(first|refine gz ?_)
 apply CW.loop [3,5,11,12,13,14,15,16,17,18,19,20,21,22] (fun i : Nat=>i ≤ X.length) (fun i : Nat=>[(11,Value.int .i64 (i : Int)),(3,.int .i64 ((entsOf (X.take i)).length : Int))]) (fun _=>St w NoF [rdA (some ⟨bs,0,none⟩) (X.flatMap EnA.row)]) (fun i=>X.length - i)
 ·exact fun w' hw'=>⟨0,Nat.zero_le _,⟨rfl,rfl,trivial⟩,hw'⟩
 intro i g hi
 by_cases hlt : i < X.length
 ·have hst := entsOf_take hlt
  have hle := entsOf_le (X := X) (i + 1)
  obtain ⟨x,hxi⟩ : ∃ x,X[i] = x := ⟨_,rfl⟩
  rw [hxi] at hst
  have hcell : ∀ w',St w NoF [rdA (some ⟨bs,0,none⟩) (X.flatMap EnA.row)] w' → w'.cell? ⟨bs,0 + (i : Int).toNat * 1,none⟩ = some (.slice x.a x.l.length x.c) := fun w' hw'=>by
   have := rd_row (f := EnA.row) EnA.row_len (hw'.rd_of memZ) hlt (q := (i : Int).toNat * 1) (by omega) 0 (.slice x.a x.l.length x.c) (by rw [hxi];rfl)
   rwa [addr_add,Nat.add_zero] at this
  rw [hst,List.length_append] at hle
  repeat'(first|refine gz ?_|(apply idxX;(iterate 2 exact rfl);(iterate 2(first|omega));exact rfl)|(apply addX;(iterate 2 exact rfl);(iterate 2(first|omega));exact rfl)|(apply LR.ev;(·apply Ev.load;(·exact rfl);(·exact hcell));(·exact rfl))|(refine gs ?_ ?_;all_goals(intro hc;try simp only[hcs]at hc;try exact abz)))
  all_goals (try (exfalso;omega))
  refine At.again (i + 1) (by omega) ?_ ⟨rfl,?_,trivial⟩ (fun w' hw'=>hw') (by omega)
  ·exact outZ
  ·show Value.int .i64 _ = .int .i64 _
   rw [hst,List.length_append]
   rfl
 have hie : i = X.length := by omega
 subst hie
 rw [List.take_length]
 repeat'(first|refine gz ?_|(apply LR.call;(·exact rfl);(intro w1 h1;refine CallsTo.mono (show CallsTo Tryz.prog 311 [.slice none 0 0,.int .i64 ((entsOf X).length : Int)] w1 _ from r311 (entsOf X).length w1 hn) ?_;rintro v w2 ⟨a2,c2,rfl,hn2⟩;refine LR.back (h1.newSl hn2) ?_;clear hn2 h1))|(refine gs ?_ ?_;all_goals(intro hc;try simp only[hcs]at hc;try exact abz)))
 apply CW.loop [6,8,27,28,29,30,31,32,33,34] (fun s : Cts=>s.i ≤ X.length) (fun s=>[(27,Value.int .i64 (s.i : Int)),(6,.slice s.a (entsOf (X.take s.i)).length s.c)])
  (fun s=>St w NoF [enS s.a s.c (entsOf (X.take s.i)),rdA (some ⟨bs,0,none⟩) (X.flatMap EnA.row)]) (fun s=>X.length - s.i)
 ·exact fun w' hw'=>⟨⟨0,a2,c2⟩,Nat.zero_le _,⟨rfl,rfl,trivial⟩,hw'⟩
 rintro ⟨i,a6,c6⟩ g hi
 simp only at hi ⊢
 by_cases hlt : i < X.length
 ·have hst := entsOf_take hlt
  have hle := entsOf_le (X := X) (i + 1)
  obtain ⟨x,hxi⟩ : ∃ x,X[i] = x := ⟨_,rfl⟩
  have hxR := hX x (hxi ▸ List.getElem_mem hlt)
  rw [hxi] at hst
  have hcell : ∀ w',St w NoF [enS a6 c6 (entsOf (X.take i)),rdA (some ⟨bs,0,none⟩) (X.flatMap EnA.row)] w' → w'.cell? ⟨bs,0 + (i : Int).toNat * 1,none⟩ = some (.slice x.a x.l.length x.c) := fun w' hw'=>by
   have := rd_row (f := EnA.row) EnA.row_len (hw'.rd_of memZ) hlt (q := (i : Int).toNat * 1) (by omega) 0 (.slice x.a x.l.length x.c) (by rw [hxi];rfl)
   rwa [addr_add,Nat.add_zero] at this
  rw [hst,List.length_append] at hle
  repeat'(first|refine gz ?_|(apply idxX;(iterate 2 exact rfl);(iterate 2(first|omega));exact rfl)|(apply addX;(iterate 2 exact rfl);(iterate 2(first|omega));exact rfl)|(apply LR.ev;(·apply Ev.load;(·exact rfl);(·exact hcell));(·exact rfl))|(apply LR.append (xs := (entsOf (X.take i)).flatMap Ent.cells) (news := x.l.flatMap Ent.cells) (m := x.l.length);(·exact rfl);(·exact rfl);(·intro a' c';exact selZ);(·exact fun w' hw'=>hw'.oldRd hxR.r);(·exact fun e=>⟨by have := (e ▸ hxR.r).none_nil;have h9 := congrArg List.length this;rw [ents_len] at h9;simp at h9;omega,hxR.z e⟩);(·exact ents_len _);(·exact ents_one _);(·omega);(·unfold maxLen;omega);(·exact rfl);(intro a4 c4))|(refine gs ?_ ?_;all_goals(intro hc;try simp only[hcs]at hc;try exact abz)))
  all_goals (try (exfalso;omega))
  refine At.again (⟨i + 1,a4,c4⟩ : Cts) (by show i + 1 ≤ X.length;omega) ?_ ⟨?_,?_,trivial⟩ ?_ (by show X.length - (i + 1) < X.length - i;omega)
  ·exact outZ
  ·rfl
  ·show Value.slice a4 ((entsOf (X.take i)).length + x.l.length) c4 = .slice a4 (entsOf (X.take (i + 1))).length c4
   rw [hst,List.length_append]
  ·intro w' hw'
   show St w NoF [enS a4 c4 (entsOf (X.take (i + 1))),rdA (some ⟨bs,0,none⟩) (X.flatMap EnA.row)] w'
   unfold enS
   rw [hst,List.length_append,List.flatMap_append]
   exact hw'
 ·have hie : i = X.length := by omega
  subst hie
  rw [List.take_length]
  repeat'(first|refine gz ?_|(refine gs ?_ ?_;all_goals(intro hc;try simp only[hcs]at hc;try exact abz)))
  (apply ret1;(·exact rfl);intro w' hS)
  exact ⟨a6,c6,rfl,hS.toNew memZ⟩
def chkA (x : Cmt) (a : Option Addr) (c : Nat) : Value := if cmtB x then x.val a c else noCmt.val none 0
def chkE (x : Cmt) : Int := if cmtB x then 0 else 2
def memI (m : Int) : Prop := -9223372036854775808 ≤ m ∧ m ≤ 9223372036854775807
theorem r197 (x : Cmt) (a : Option Addr) (c : Nat) (w : World) (hr : Rd w a (x.ents.flatMap Ent.cells)) (hI : memI x.mem) :
  CallsTo Tryz.prog 197 [x.val a c] w fun v w'=>v = .tuple [chkA x a c,.int .i64 (chkE x)].toArray ∧ Grew w w' := by
 refine go_in (n := 12) (St.rd1 hr) Tryz.func197 rfl rfl ?_
 unfold chkA chkE
 have hq : ∀ w1,Rd w1 a (x.ents.flatMap Ent.cells) → CallsTo Tryz.prog 190 [x.val a c] w1 fun v w'=>v = .int .i64 (if cmtB x then 0 else 2) ∧ Grew w1 w' := fun w1 h=>r190 x a c w1 h hI
 cases hb : cmtB x
 ·rw [hb] at hq
  repeat'(first|(refine kB' fun b1=>?_)|(refine kA' fun b2=>?_)|refine gz ?_|(apply kq;(·exact rfl);(·intro w1 h1;exact CallsTo.q (hq w1 (h1.rd_of memZ)) h1))|fail)
  (apply ret2c;(·exact rfl);(·exact inferInstance);(·exact rfl);(·exact memY);(·exact rfl);intro w' hS)
  exact ⟨rfl,hS.toKeep⟩
 ·rw [hb] at hq
  repeat'(first|(refine kB' fun b1=>?_)|(refine kA' fun b2=>?_)|refine gz ?_|(apply kq;(·exact rfl);(·intro w1 h1;exact CallsTo.q (hq w1 (h1.rd_of memZ)) h1))|fail)
  (apply ret2c;(·exact rfl);(·exact inferInstance);(·exact rfl);(·exact memY);(·exact rfl);intro w' hS)
  exact ⟨rfl,hS.toKeep⟩
def NewC (w w' : World) (x : Cmt) (v : Value) : Prop := ∃ a c,v = .tuple [(chkdC x).1.val a c,.int .i64 (chkdC x).2].toArray ∧ NewSl w w' (.slice a (chkdC x).1.ents.length c) 91 6 (chkdC x).1.ents.length ((chkdC x).1.ents.flatMap Ent.cells)
theorem new_c {w w' : World} {x : Cmt} {a : Option Addr} {c : Nat} (h : NewSl w w' (.slice a x.ents.length c) 91 6 x.ents.length (x.ents.flatMap Ent.cells)) : NewC w w' x (.tuple [chkA x a c,.int .i64 (chkE x)].toArray) := by
 unfold NewC chkA chkE chkdC
 cases cmtB x
 ·exact ⟨none,0,rfl,h.grew,World.ownsRow_nil _ _ _ _⟩
 ·exact ⟨a,c,rfl,h⟩
theorem r141 (r1 r2 mem : Int) (own : Ent) (w : World) (hI : memI mem) :
  CallsTo Tryz.prog 141 [.agg [.int .i64 r1,.int .i64 r2].toArray,.int .i64 mem,.agg own.cells.toArray] w fun v w'=>NewC w w' ⟨r1,r2,mem,1,[own]⟩ v := by
 refine go_in (n := 16) (St.refl _ NoF) Tryz.func141 rfl rfl ?_
 obtain ⟨x,hx⟩ : ∃ x : Cmt,x = ⟨r1,r2,mem,1,[own]⟩ := ⟨_,rfl⟩
 have hfin : ∀ (b3 : Nat) (R : List Asrt) (w' : World),St w NoF (.own b3 (.cells own.cells.toArray 91 (0,0)) :: R) w' → NewSl w w' (.slice (some ⟨b3,0,none⟩) x.ents.length 1) 91 6 x.ents.length (x.ents.flatMap Ent.cells) := fun b3 R w' hS=>by
  subst hx
  have h1 := hS.own_osl (k := 1) (sz := 6) (sH _ _ _) rfl (by decide)
  exact h1.toNew (mH _ _)
 have hq : ∀ (b3 : Nat) w1,Rd w1 (some ⟨b3,0,none⟩) own.cells → CallsTo Tryz.prog 197 [x.val (some ⟨b3,0,none⟩) 1] w1 fun v w'=>v = .tuple [chkA x (some ⟨b3,0,none⟩) 1,.int .i64 (chkE x)].toArray ∧ Grew w1 w' := fun b3 w1 h=>
  r197 x (some ⟨b3,0,none⟩) 1 w1 (by subst hx;simpa using h) (by subst hx;exact hI)
 have hv : ∀ b3 : Nat,x.val (some ⟨b3,0,none⟩) 1 = .agg [.int .i64 r1,.int .i64 r2,.int .i64 mem,.int .i64 1,.slice (some ⟨b3,0,none⟩) 1 1].toArray := fun b3=>by subst hx;rfl
 rw [← hx]
 have hn := fun (b3 : Nat) (w' : World) (h : NewSl w w' (.slice (some ⟨b3,0,none⟩) x.ents.length 1) 91 6 x.ents.length (x.ents.flatMap Ent.cells))=>new_c h
 unfold chkA chkE at hq hn
 cases hb : cmtB x
 ·rw [hb] at hq hn
  repeat'(first|(refine kB' fun b1=>?_)|(refine kA' fun b2=>?_)|(refine kK' fun b3=>?_)|refine gz ?_|(apply kq;(·exact rfl);(·intro w1 h1;exact CallsTo.q (by have h9 := hq b3 w1 (h1.rd_of_blk memZ);rw [hv] at h9;exact h9) h1))|fail)
  (apply ret2c;(·exact rfl);(·exact inferInstance);(·exact rfl);(·exact memY);(·exact rfl);intro w' hS)
  exact hn b3 w' (hfin b3 _ w' hS)
 ·rw [hb] at hq hn
  repeat'(first|(refine kB' fun b1=>?_)|(refine kA' fun b2=>?_)|(refine kK' fun b3=>?_)|refine gz ?_|(apply kq;(·exact rfl);(·intro w1 h1;exact CallsTo.q (by have h9 := hq b3 w1 (h1.rd_of_blk memZ);rw [hv] at h9;exact h9) h1))|fail)
  (apply ret2c;(·exact rfl);(·exact inferInstance);(·exact rfl);(·exact memY);(·exact rfl);intro w' hS)
  have h9 := hn b3 w' (hfin b3 _ w' hS)
  rw [hv] at h9
  exact h9
theorem EnR.mk2 {w : World} {a : Option Addr} {c : Nat} {l : List Ent} (hr : Rd w a (l.flatMap Ent.cells)) (hz : a = none → c = 0) : EnR w ⟨a,c,l⟩ := ⟨hr,hz⟩
theorem r191 (x : Cmt) (a : Option Addr) (c : Nat) (am : Option Addr) (cm : Nat) (lm : List Ent) (w : World) (hr : Rd w a (x.ents.flatMap Ent.cells)) (hz : a = none → c = 0) (hrm : Rd w am (lm.flatMap Ent.cells)) (hzm : am = none → cm = 0) (hI : memI x.mem)
  (hh : -9223372036854775808 ≤ x.hop + 1 ∧ x.hop + 1 ≤ 9223372036854775807) (hl : x.ents.length ≤ 100) (hlm : lm.length ≤ 100) :
  CallsTo Tryz.prog 191 [x.val a c,.slice am lm.length cm] w fun v w'=>NewC w w' { x with hop := x.hop + 1,ents := x.ents ++ lm } v := by
 refine go_in (n := 20) (St.rd2 hr hrm) Tryz.func191 rfl rfl ?_
 obtain ⟨y,hy⟩ : ∃ y : Cmt,y = { x with hop := x.hop + 1,ents := x.ents ++ lm } := ⟨_,rfl⟩
 have hye : y.ents = x.ents ++ lm := by rw [hy]
 rw [← hy]
 have hX : entsOf [⟨a,c,x.ents⟩,⟨am,cm,lm⟩] = y.ents := by rw [hye];simp [entsOf]
 have hq : ∀ (a2 : Option Addr) (c2 : Nat) w1,Rd w1 a2 (y.ents.flatMap Ent.cells) → CallsTo Tryz.prog 197 [y.val a2 c2] w1 fun v w'=>v = .tuple [chkA y a2 c2,.int .i64 (chkE y)].toArray ∧ Grew w1 w' := fun a2 c2 w1 h=>
  r197 y a2 c2 w1 h (by rw [hy];exact hI)
 have hv : ∀ (a2 : Option Addr) (c2 : Nat),y.val a2 c2 = .agg [.int .i64 x.r1,.int .i64 x.r2,.int .i64 x.mem,.int .i64 (x.hop + 1),.slice a2 y.ents.length c2].toArray := fun a2 c2=>by rw [hy];rfl
 have hn := fun (a2 : Option Addr) (c2 : Nat) (w' : World) (h : NewSl w w' (.slice a2 y.ents.length c2) 91 6 y.ents.length (y.ents.flatMap Ent.cells))=>new_c h
 unfold chkA chkE at hq hn
 cases hb : cmtB y
 ·skip
  rw [hb] at hq hn
  repeat'(first|(refine kB' fun b1=>?_)|(refine kA' fun b2=>?_)|(refine kK' fun b3=>?_)|refine gz ?_|(apply addX;(iterate 2 exact rfl);(iterate 2(first|omega));exact rfl))
  apply LR.call
  ·exact rfl
  intro w1 h1
  have hx9 : Rd w1 (some ⟨b3,0,none⟩) (([⟨a,c,x.ents⟩,⟨am,cm,lm⟩] : List EnA).flatMap EnA.row) := h1.rd_of_blk memZ
  have hX9 : ∀ z ∈ ([⟨a,c,x.ents⟩,⟨am,cm,lm⟩] : List EnA),EnR w1 z := by
   intro z hz9
   simp only [List.mem_cons,List.not_mem_nil,or_false] at hz9
   rcases hz9 with rfl | rfl
   ·exact .mk2 (h1.rd_of memZ) hz
   ·exact .mk2 (h1.rd_of memZ) hzm
  refine CallsTo.mono (show CallsTo Tryz.prog 249 [.slice (some ⟨b3,0,none⟩) 2 2] w1 _ from r249 b3 [⟨a,c,x.ents⟩,⟨am,cm,lm⟩] 2 w1 hx9 hX9 (by simp) (by rw [hX,hye,List.length_append];omega)) ?_
  rintro v w2 ⟨a2,c2,rfl,hn2⟩
  rw [hX] at hn2 ⊢
  refine LR.back (h1.newSl hn2) ?_
  clear hn2 h1
  repeat'(first|refine gz ?_|(apply kq;(·exact rfl);(·intro w1 h1;exact CallsTo.q (by have h9 := hq a2 c2 w1 (h1.rd_of_own memZ);rw [hv] at h9;exact h9) h1))|fail)
  (apply ret2c;(·exact rfl);(·exact inferInstance);(·exact rfl);(·exact memY);(·exact rfl);intro w' hS)
  have h9 := hn a2 c2 w' (hS.toNew memZ)
  exact h9
 ·skip
  rw [hb] at hq hn
  repeat'(first|(refine kB' fun b1=>?_)|(refine kA' fun b2=>?_)|(refine kK' fun b3=>?_)|refine gz ?_|(apply addX;(iterate 2 exact rfl);(iterate 2(first|omega));exact rfl))
  apply LR.call
  ·exact rfl
  intro w1 h1
  have hx9 : Rd w1 (some ⟨b3,0,none⟩) (([⟨a,c,x.ents⟩,⟨am,cm,lm⟩] : List EnA).flatMap EnA.row) := h1.rd_of_blk memZ
  have hX9 : ∀ z ∈ ([⟨a,c,x.ents⟩,⟨am,cm,lm⟩] : List EnA),EnR w1 z := by
   intro z hz9
   simp only [List.mem_cons,List.not_mem_nil,or_false] at hz9
   rcases hz9 with rfl | rfl
   ·exact .mk2 (h1.rd_of memZ) hz
   ·exact .mk2 (h1.rd_of memZ) hzm
  refine CallsTo.mono (show CallsTo Tryz.prog 249 [.slice (some ⟨b3,0,none⟩) 2 2] w1 _ from r249 b3 [⟨a,c,x.ents⟩,⟨am,cm,lm⟩] 2 w1 hx9 hX9 (by simp) (by rw [hX,hye,List.length_append];omega)) ?_
  rintro v w2 ⟨a2,c2,rfl,hn2⟩
  rw [hX] at hn2 ⊢
  refine LR.back (h1.newSl hn2) ?_
  clear hn2 h1
  repeat'(first|refine gz ?_|(apply kq;(·exact rfl);(·intro w1 h1;exact CallsTo.q (by have h9 := hq a2 c2 w1 (h1.rd_of_own memZ);rw [hv] at h9;exact h9) h1))|fail)
  (apply ret2c;(·exact rfl);(·exact inferInstance);(·exact rfl);(·exact memY);(·exact rfl);intro w' hS)
  have h9 := hn a2 c2 w' (hS.toNew memZ)
  rw [hv] at h9
  exact h9
theorem r130 (x : Cmt) (a : Option Addr) (c : Nat) (node : Int) (w : World) (hr : Rd w a (x.ents.flatMap Ent.cells)) (hI : memI x.mem) :
  CallsTo Tryz.prog 130 [x.val a c,.int .i64 node] w fun v w'=>v = .int .i64 (visC x node) ∧ Grew w w' := by
 refine go_in (n := 37) (St.rd1 hr) Tryz.func130 rfl rfl ?_
 have hq : ∀ w1,Rd w1 a (x.ents.flatMap Ent.cells) → CallsTo Tryz.prog 190 [x.val a c] w1 fun v w'=>v = .int .i64 (if cmtB x then 0 else 2) ∧ Grew w1 w' := fun w1 h=>r190 x a c w1 h hI
 cases hb : cmtB x
 ·rw [hb] at hq
  have e : visC x node = 0 := by unfold visC;rw [hb];rfl
  rw [e]
  repeat'(first|(refine kB' fun b1=>?_)|refine gz ?_|(apply LR.call;(·exact rfl);(intro w1 h1;refine (r189 x a c w1 hI).mono ?_;rintro v w2 ⟨a2,c2,rfl,hn⟩;refine LR.back (h1.newSl hn) ?_;clear hn h1))|(apply kq;(·exact rfl);(·intro w1 h1;exact CallsTo.q (hq w1 (h1.rd_of memZ)) h1))|fail)
  (apply ret1;(·exact rfl);intro w' hS)
  exact ⟨rfl,hS.toKeep⟩
 ·rw [hb] at hq
  have hb2 := hb
  unfold cmtB comHead cmtMid at hb2
  simp only [Bool.and_eq_true,Bool.not_eq_true',decide_eq_false_iff_not,decide_eq_true_eq] at hb2
  obtain ⟨⟨⟨⟨hck,hm0⟩,_⟩,⟨_,hhop⟩,_⟩,_⟩ := hb2
  have hlp := crewL_pos hck hm0
  have hl8 : (crewL x.mem).length ≤ 8 := crewTo_len x.mem 8
  have e1 : memL x.mem = crewL x.mem := by unfold memL;rw [hck];rfl
  repeat'(first|(refine kB' fun b1=>?_)|refine gz ?_)
  apply LR.call
  ·exact rfl
  intro w1 h1
  refine (r189 x a c w1 hI).mono ?_
  rintro v w2 ⟨a2,c2,rfl,hn⟩
  rw [e1] at hn ⊢
  unfold visC nextN
  rw [hb,Bool.true_and]
  obtain ⟨l,hl⟩ : ∃ l,crewL x.mem = l := ⟨_,rfl⟩
  rw [hl] at hn hlp hl8 hhop ⊢
  obtain ⟨bg,og,rfl⟩ := (ownsRow_rd (ownsRow_zero hn.own)).form (fun e=>by have h2 := congrArg List.length e;simp only [iv_length,List.length_nil] at h2;omega)
  refine LR.back (h1.newSl hn) ?_
  clear hn h1
  have htm : 0 ≤ x.hop.tmod (l.length : Int) ∧ x.hop.tmod (l.length : Int) < (l.length : Int) := ⟨Int.tmod_nonneg _ (by omega),(tmod_bdP x.hop l.length (by omega)).2⟩
  have hlk : (iv l)[(x.hop.tmod (l.length : Int)).toNat * 1]? = some (.int .i64 (l.getD (x.hop.tmod (l.length : Int)).toNat 0)) := by
   rw [Nat.mul_one,iv_get (by omega),List.getD_eq_getElem?_getD,List.getElem?_eq_getElem (by omega)]
   rfl
  obtain ⟨q,hq9⟩ : ∃ q,l.getD (x.hop.tmod (l.length : Int)).toNat 0 = q := ⟨_,rfl⟩
  rw [hq9] at hlk ⊢
  repeat'(first|refine gz ?_|(apply kq;(·exact rfl);(·intro w1 h1;exact CallsTo.q (hq w1 (h1.rd_of memZ)) h1))|(apply LR.ev;(·first | (apply Ev.rem;(·exact rfl);(·exact rfl);(·omega)) | (apply Ev.indexAddr;(·exact rfl);(·exact rfl);(·omega);(·omega)) | (apply Ev.load_osl;(·exact rfl);(·exact memZ);(·exact hlk)) | (apply Ev.mul;(·exact rfl);(·exact rfl);(·omega);(·omega)));(·exact rfl))|(refine gs ?_ ?_;all_goals(intro hc;try simp only[hcs]at hc;try exact abz)))
  all_goals (
   (apply ret1;(·exact rfl);intro w' hS)
   refine ⟨congrArg (Value.int .i64) ?_,hS.toKeep⟩
   simp only [decide_eq_true_eq]
   (repeat' split) <;> first | rfl | (exfalso;omega))
def NewC2 (w w' : World) (y : Cmt × Int) (v : Value) : Prop := ∃ a c,v = .tuple [y.1.val a c,.int .i64 y.2].toArray ∧ NewSl w w' (.slice a y.1.ents.length c) 91 6 y.1.ents.length (y.1.ents.flatMap Ent.cells)
theorem visC_hop {x : Cmt} {n : Int} (h : cmtB x = true) : -9223372036854775808 ≤ x.hop + 1 ∧ x.hop + 1 ≤ 9223372036854775807 ∧ x.ents.length ≤ 100 := by
 unfold cmtB comHead cmtMid at h
 simp only [Bool.and_eq_true,Bool.not_eq_true',decide_eq_false_iff_not,decide_eq_true_eq] at h
 obtain ⟨⟨⟨⟨hck,hm0⟩,_⟩,⟨_,hhop⟩,he⟩,_⟩ := h
 have hl8 : (crewL x.mem).length ≤ 8 := crewTo_len x.mem 8
 unfold minE at he
 split at he <;> omega
theorem vis_ok {x : Cmt} {n k : Int} (h : visC x n = k) (hk : k ≠ 0) : cmtB x = true := by
 unfold visC at h
 cases hb : cmtB x with
 | true=>rfl
 | false=>
  rw [hb] at h
  exact absurd h.symm hk
theorem r133 (x : Cmt) (a : Option Addr) (c : Nat) (own : Ent) (w : World) (hr : Rd w a (x.ents.flatMap Ent.cells)) (hz : a = none → c = 0) (hI : memI x.mem) :
  CallsTo Tryz.prog 133 [x.val a c,.agg own.cells.toArray] w fun v w'=>NewC2 w w' (addC x own) v := by
 refine go_in (n := 18) (St.rd1 hr) Tryz.func133 rfl rfl ?_
 have hq : ∀ w1,Rd w1 a (x.ents.flatMap Ent.cells) → CallsTo Tryz.prog 130 [x.val a c,.int .i64 own.node] w1 fun v w'=>v = .int .i64 (visC x own.node) ∧ Grew w1 w' := fun w1 h=>r130 x a c own.node w1 h hI
 unfold addC
 generalize hvv : visC x own.node = vv at hq ⊢
 by_cases h1 : vv = 1
 ·subst h1
  rw [if_pos rfl]
  have hok := visC_hop (n := 0) (vis_ok hvv (by decide))
  obtain ⟨y,hy⟩ : ∃ y,onC x [own] = y := ⟨_,rfl⟩
  rw [hy]
  have hr191 : ∀ (b3 : Nat) w1,Rd w1 a (x.ents.flatMap Ent.cells) → Rd w1 (some ⟨b3,0,none⟩) own.cells → CallsTo Tryz.prog 191 [x.val a c,.slice (some ⟨b3,0,none⟩) 1 1] w1 fun v w'=>NewC2 w1 w' y v := fun b3 w1 h1 h2=>by
   rw [← hy]
   exact r191 x a c (some ⟨b3,0,none⟩) 1 [own] w1 h1 hz (by simpa using h2) (fun e=>by cases e) hI ⟨hok.1,hok.2.1⟩ hok.2.2 (by simp)
  obtain ⟨z,e⟩ := y
  repeat'(first|(refine kB' fun b1=>?_)|(refine kA' fun b4=>?_)|(refine kK' fun b3=>?_)|refine gz ?_|(apply kq;(·exact rfl);(·intro w1 h1;exact CallsTo.q (hq w1 (h1.rd_of memZ)) h1))|(apply LR.call;(·exact rfl);(intro w1 h1;refine (hr191 b3 w1 (h1.rd_of memZ) (h1.rd_of_blk memZ)).mono ?_;rintro v w2 ⟨a2,c2,rfl,hn⟩;refine LR.back (h1.newSl hn) ?_;clear hn h1))|fail)
  (apply ret2c;(·exact rfl);(·exact inferInstance);(·exact rfl);(·exact memY);(·exact rfl);intro w' hS)
  exact ⟨a2,c2,rfl,hS.toNew memZ⟩
 ·rw [if_neg h1]
  repeat'(first|(refine kB' fun b1=>?_)|(refine kA' fun b4=>?_)|refine gz ?_|(apply kq;(·exact rfl);(·intro w1 h1;exact CallsTo.q (hq w1 (h1.rd_of memZ)) h1))|(refine gs ?_ ?_;all_goals(intro hc;try simp only[hcs]at hc;try exact abz)))
  all_goals (try (exfalso;omega))
  (apply ret2c;(·exact rfl);(·exact inferInstance);(·exact rfl);(·exact memY);(·exact rfl);intro w' hS)
  exact ⟨none,0,rfl,(hS.sub (List.nil_sublist _)).toKeep,World.ownsRow_nil _ _ _ _⟩
theorem r135 (x : Cmt) (a : Option Addr) (c : Nat) (w : World) (hr : Rd w a (x.ents.flatMap Ent.cells)) (hz : a = none → c = 0) (hI : memI x.mem) :
  CallsTo Tryz.prog 135 [x.val a c] w fun v w'=>NewC2 w w' (passC x) v := by
 refine go_in (n := 20) (St.rd1 hr) Tryz.func135 rfl rfl ?_
 have hq : ∀ w1,Rd w1 a (x.ents.flatMap Ent.cells) → CallsTo Tryz.prog 190 [x.val a c] w1 fun v w'=>v = .int .i64 (if cmtB x then 0 else 2) ∧ Grew w1 w' := fun w1 h=>r190 x a c w1 h hI
 unfold passC
 cases hb : cmtB x
 ·rw [hb] at hq
  repeat'(first|(refine kB' fun b1=>?_)|(refine kA' fun b2=>?_)|(apply CW.reg_heldC)|refine gz ?_)
  all_goals (
   apply DW.quiet [0]
   ·decide +kernel
   ·exact stZ
   repeat'(first|refine gq ?_|apply QL.nil)
   all_goals (show DW _ _ _ _ _ _ _ _))
  all_goals (
   apply DW.loud 1
   ·exact rfl
   ·decide +kernel
   repeat'(first|refine gw ?_|(apply kq;(·exact rfl);(·intro w1 h1;exact CallsTo.q (hq w1 (h1.rd_of memZ)) h1)))
   all_goals (refine ats ?_))
  all_goals (
   apply DW.quiet [2,3,4,5,6,7]
   ·decide +kernel
   ·exact stZ
   repeat'(first|refine gq ?_|apply QL.nil)
   all_goals (show DW _ _ _ _ _ _ _ _))
  all_goals (
   apply DW.loud 8
   ·exact rfl
   ·decide +kernel
   repeat'(first|refine gw ?_)
   all_goals (refine ats ?_))
  all_goals (
   apply DW.quiet [9,10]
   ·decide +kernel
   ·exact stZ
   repeat'(first|refine gq ?_|apply QL.nil)
   all_goals (show DW _ _ _ _ _ _ _ _))
  all_goals (first | (apply DW.done_thn;(·decide +kernel)) |fail)
  repeat'(first|refine gz ?_)
  (apply ret2c;(·exact rfl);(·exact inferInstance);(·exact rfl);(·exact memY);(·exact rfl);intro w' hS)
  exact ⟨none,0,rfl,(hS.sub (List.nil_sublist _)).toKeep,World.ownsRow_nil _ _ _ _⟩
 ·rw [hb] at hq
  have hok := visC_hop (n := 0) hb
  have hcr : crewOk x.mem = true := by
   unfold cmtB comHead at hb
   simp only [Bool.and_eq_true] at hb
   exact hb.1.1.1.1
  rw [Bool.true_and]
  by_cases hlt : x.hop < cntC x.mem
  ·rw [decide_eq_true hlt]
   repeat'(first|(refine kB' fun b1=>?_)|(refine kA' fun b2=>?_)|(apply CW.reg_heldC)|refine gz ?_)
   all_goals (
    apply DW.quiet [0]
    ·decide +kernel
    ·exact stZ
    repeat'(first|refine gq ?_|apply QL.nil)
    all_goals (show DW _ _ _ _ _ _ _ _))
   all_goals (
    apply DW.loud 1
    ·exact rfl
    ·decide +kernel
    repeat'(first|refine gw ?_|(apply kq;(·exact rfl);(·intro w1 h1;first | exact CallsTo.q (hq w1 (h1.rd_of memZ)) h1 )))
    all_goals (refine ats ?_))
   all_goals (
    apply DW.quiet [2,3,4,5,6,7]
    ·decide +kernel
    ·exact stZ
    repeat'(first|refine gq ?_|apply QL.nil)
    all_goals (show DW _ _ _ _ _ _ _ _))
   all_goals (
    apply DW.loud 8
    ·exact rfl
    ·decide +kernel
    repeat'(first|refine gw ?_|(apply kq;(·exact rfl);(·intro w1 h1;first | exact CallsTo.q (r25 x.mem w1 hcr) h1)))
    all_goals (refine ats ?_))
   all_goals (
    apply DW.quiet [9,10]
    ·decide +kernel
    ·exact stZ
    repeat'(first|refine gq ?_|apply QL.nil)
    all_goals (show DW _ _ _ _ _ _ _ _))
   all_goals (first | (apply DW.done_thn;(·decide +kernel)) |fail)
   repeat'(first|refine gz ?_|(refine gs ?_ ?_;all_goals(intro hc;try simp only[hcs]at hc;try exact abz)))
   all_goals (try (exfalso;omega))
   (apply ret2c;(·exact rfl);(·exact inferInstance);(·exact rfl);(·exact memY);(·exact rfl);intro w' hS)
   exact ⟨none,0,rfl,(hS.sub (List.nil_sublist _)).toKeep,World.ownsRow_nil _ _ _ _⟩
  ·rw [decide_eq_false hlt]
   show CW _ _ _ (finK _ _ _ fun v w'=>NewC2 w w' (onC x []) v) _ _
   obtain ⟨y,hy⟩ : ∃ y,onC x [] = y := ⟨_,rfl⟩
   rw [hy]
   have hr191 : ∀ w1,Rd w1 a (x.ents.flatMap Ent.cells) → CallsTo Tryz.prog 191 [x.val a c,.slice none 0 0] w1 fun v w'=>NewC2 w1 w' y v := fun w1 h1=>by
    rw [← hy]
    exact r191 x a c none 0 [] w1 h1 hz (Rd.nil _ _) (fun _=>rfl) hI ⟨hok.1,hok.2.1⟩ hok.2.2 (by simp)
   obtain ⟨z,e⟩ := y
   repeat'(first|(refine kB' fun b1=>?_)|(refine kA' fun b2=>?_)|(apply CW.reg_heldC)|refine gz ?_)
   all_goals (
    apply DW.quiet [0]
    ·decide +kernel
    ·exact stZ
    repeat'(first|refine gq ?_|apply QL.nil)
    all_goals (show DW _ _ _ _ _ _ _ _))
   all_goals (
    apply DW.loud 1
    ·exact rfl
    ·decide +kernel
    repeat'(first|refine gw ?_|(apply kq;(·exact rfl);(·intro w1 h1;first | exact CallsTo.q (hq w1 (h1.rd_of memZ)) h1 )))
    all_goals (refine ats ?_))
   all_goals (
    apply DW.quiet [2,3,4,5,6,7]
    ·decide +kernel
    ·exact stZ
    repeat'(first|refine gq ?_|apply QL.nil)
    all_goals (show DW _ _ _ _ _ _ _ _))
   all_goals (
    apply DW.loud 8
    ·exact rfl
    ·decide +kernel
    repeat'(first|refine gw ?_|(apply kq;(·exact rfl);(·intro w1 h1;first | exact CallsTo.q (r25 x.mem w1 hcr) h1)))
    all_goals (refine ats ?_))
   all_goals (
    apply DW.quiet [9,10]
    ·decide +kernel
    ·exact stZ
    repeat'(first|refine gq ?_|apply QL.nil)
    all_goals (show DW _ _ _ _ _ _ _ _))
   all_goals (first | (apply DW.done_thn;(·decide +kernel)) |fail)
   repeat'(first|refine gz ?_|(apply LR.call;(·exact rfl);(intro w1 h1;refine (hr191 w1 (h1.rd_of memZ)).mono ?_;rintro v w2 ⟨a2,c2,rfl,hn⟩;refine LR.back (h1.newSl hn) ?_;clear hn h1))|(refine gs ?_ ?_;all_goals(intro hc;try simp only[hcs]at hc;try exact abz)))
   all_goals (try (exfalso;omega))
   (apply ret2c;(·exact rfl);(·exact inferInstance);(·exact rfl);(·exact memY);(·exact rfl);intro w' hS)
   exact ⟨a2,c2,rfl,hS.toNew memZ⟩
theorem entsOk_mem : ∀ {es : List Ent} {l : List Int},entsOk es l = true → ∀ e ∈ es,entB e = true ∧ e.node ∈ l
 | [],_,_,e,he=>by cases he
 | _ :: _,[],h,_,_=>by cases h
 | e0 :: r,n :: l,h,e,he=>by
  rw [entsOk_cons,entOk_eq] at h
  simp only [Bool.and_eq_true,decide_eq_true_eq] at h
  rcases List.mem_cons.1 he with rfl | he
  ·exact ⟨h.1.2,by rw [h.1.1];exact List.mem_cons_self ..⟩
  ·have := entsOk_mem h.2 e he
   exact ⟨this.1,List.mem_cons_of_mem _ this.2⟩
theorem cmt_ents {x : Cmt} (h : cmtB x = true) : (∀ e ∈ x.ents,entB e = true ∧ hasC x.mem e.node = true) ∧ x.ents.length ≤ 8 ∧ 1 ≤ x.ents.length := by
 have h2 := h
 unfold cmtB comHead cmtMid at h2
 simp only [Bool.and_eq_true,Bool.not_eq_true',decide_eq_false_iff_not,decide_eq_true_eq] at h2
 obtain ⟨⟨⟨⟨hck,hm0⟩,_⟩,⟨_,hhop⟩,he⟩,h3⟩ := h2
 have hl8 : (crewL x.mem).length ≤ 8 := crewTo_len x.mem 8
 have hlp := crewL_pos hck hm0
 refine ⟨fun e h4=>⟨(entsOk_mem h3 e h4).1,mem_crewL.1 (entsOk_mem h3 e h4).2⟩,?_⟩
 unfold minE at he
 split at he <;> omega
def highE (l : List Ent) : Int := l.foldl (fun m e=>max m e.high) 0
def kinH (x : Cmt) (o1 o2 : Int) : Int := if cmtB x then highE (kinE x.ents o1 o2) else 0
theorem kinE_take {l : List Ent} {o1 o2 : Int} {i : Nat} (h : i < l.length) : kinE (l.take (i + 1)) o1 o2 = kinE (l.take i) o1 o2 ++ if l[i].o1 = o1 ∧ l[i].o2 = o2 then [l[i]] else [] := by
 unfold kinE
 rw [List.take_add_one,List.getElem?_eq_getElem h,Option.toList_some,List.filter_append,List.filter_cons,List.filter_nil]
 congr 1
 by_cases h2 : l[i].o1 = o1 ∧ l[i].o2 = o2
 ·rw [if_pos (by simpa using h2),if_pos h2]
 ·rw [if_neg (by simpa using h2),if_neg h2]
theorem memE_snoc (l : List Ent) (e : Ent) : memE (l ++ [e]) = orI .i64 (memE l) (2 ^ e.node.toNat) := by unfold memE;rw [List.foldl_append];rfl
theorem highE_snoc (l : List Ent) (e : Ent) : highE (l ++ [e]) = max (highE l) e.high := by unfold highE;rw [List.foldl_append];rfl
theorem lowE_snoc (l : List Ent) (e : Ent) : lowE (l ++ [e]) = if l = [] then e.aru else min (lowE l) e.aru := by
 cases l with
 | nil=>rfl
 | cons q r=>
  rw [if_neg (by simp)]
  show (r ++ [e]).foldl (fun m x=>min m x.aru) q.aru = _
  rw [List.foldl_append]
  rfl
theorem memE_acc : ∀ (l : List Ent) (c : Int),crewOk c = true → (∀ e ∈ l,1 ≤ e.node ∧ e.node ≤ 8) →
  crewOk (l.foldl (fun m e=>orI .i64 m (2 ^ e.node.toNat)) c) = true ∧ ∀ n,1 ≤ n ∧ n ≤ 8 → hasC (l.foldl (fun m e=>orI .i64 m (2 ^ e.node.toNat)) c) n = (hasC c n || l.any fun e=>decide (n = e.node))
 | [],c,hc,_=>⟨hc,fun n _=>by simp⟩
 | e :: r,c,hc,h=>by
  have he := h e (List.mem_cons_self ..)
  obtain ⟨h1,h2⟩ := memE_acc r (orI .i64 c (2 ^ e.node.toNat)) (crew_or hc he) fun x hx=>h x (List.mem_cons_of_mem _ hx)
  refine ⟨h1,fun n hn=>?_⟩
  show hasC (r.foldl _ (orI .i64 c (2 ^ e.node.toNat))) n = _
  rw [h2 n hn,hasC_or he hn,List.any_cons,Bool.or_assoc]
theorem hasC_zero (n : Int) : hasC 0 n = false := by
 unfold hasC tb
 simp
theorem memE_ok {l : List Ent} (h : ∀ e ∈ l,1 ≤ e.node ∧ e.node ≤ 8) : crewOk (memE l) = true := (memE_acc l 0 (by decide) h).1
theorem memE_has {l : List Ent} (h : ∀ e ∈ l,1 ≤ e.node ∧ e.node ≤ 8) {n : Int} (hn : 1 ≤ n ∧ n ≤ 8) : hasC (memE l) n = l.any fun e=>decide (n = e.node) := by
 have := (memE_acc l 0 (by decide) h).2 n hn
 rw [hasC_zero,Bool.false_or] at this
 exact this
theorem memE_zero {l : List Ent} (h : ∀ e ∈ l,1 ≤ e.node ∧ e.node ≤ 8) : memE l = 0 ↔ l = [] := by
 constructor
 ·intro h0
  cases l with
  | nil=>rfl
  | cons e r=>
   have he := h e (List.mem_cons_self ..)
   have h1 := memE_has h he
   rw [h0,hasC_zero,List.any_cons,decide_eq_true rfl,Bool.true_or] at h1
   cases h1
 ·rintro rfl;rfl
theorem ent_node {e : Ent} {m : Int} (h : hasC m e.node = true) : 1 ≤ e.node ∧ e.node ≤ 8 := hasC_rng h
set_option maxHeartbeats 4000000 in
theorem r192 (x : Cmt) (a : Option Addr) (c : Nat) (o1 o2 : Int) (w : World) (hr : Rd w a (x.ents.flatMap Ent.cells)) (hI : memI x.mem) :
  CallsTo Tryz.prog 192 [x.val a c,.agg [.int .i64 o1,.int .i64 o2].toArray] w fun v w'=>v = .tuple [.int .i64 (kinC2 x o1 o2).1,.int .i64 (kinC2 x o1 o2).2,.int .i64 (kinH x o1 o2)].toArray ∧ Grew w w' := by
 refine go_in (n := 44) (St.rd1 hr) Tryz.func192 rfl rfl ?_
 have hq : ∀ w1,Rd w1 a (x.ents.flatMap Ent.cells) → CallsTo Tryz.prog 190 [x.val a c] w1 fun v w'=>v = .int .i64 (if cmtB x then 0 else 2) ∧ Grew w1 w' := fun w1 h=>r190 x a c w1 h hI
 unfold kinC2 kinH
 cases hb : cmtB x
 ·rw [hb] at hq
  repeat'(first|(refine kB' fun b1=>?_)|refine gz ?_|(apply kq;(·exact rfl);(·intro w1 h1;exact CallsTo.q (hq w1 (h1.rd_of memZ)) h1))|fail)
  (apply ret3;(·exact rfl);intro w' hS)
  exact ⟨rfl,hS.toKeep⟩
 ·rw [hb] at hq
  obtain ⟨hE,hl8,hl1⟩ := cmt_ents hb
  obtain ⟨L,hL⟩ : ∃ L,x.ents = L := ⟨_,rfl⟩
  repeat'(first|(refine kB' fun b1=>?_)|refine gz ?_|(apply kq;(·exact rfl);(·intro w1 h1;exact CallsTo.q (hq w1 (h1.rd_of memZ)) h1))|fail)
  apply CW.loop [4,5,6,8,15,16,17,18,19,20,21,22,23,24,25,26,27,28,29,30,31,32,33,34,35,36,37,38,39,40] (fun i : Nat=>i ≤ x.ents.length) (fun i : Nat=>[(15,Value.int .i64 (i : Int)),(4,.int .i64 (memE (kinE (x.ents.take i) o1 o2))),(5,.int .i64 (lowE (kinE (x.ents.take i) o1 o2))),(6,.int .i64 (highE (kinE (x.ents.take i) o1 o2)))])
   (fun _=>St w NoF [.own b1 (.cells [Value.int .i64 o1,.int .i64 o2].toArray 45 (0,0)),rdA a (x.ents.flatMap Ent.cells)]) (fun i=>x.ents.length - i)
  ·exact fun w' hw'=>⟨0,Nat.zero_le _,⟨rfl,rfl,rfl,rfl,trivial⟩,hw'.sub subN⟩
  intro i g hi
  by_cases hlt : i < x.ents.length
  ·have hst := kinE_take (o1 := o1) (o2 := o2) hlt
   obtain ⟨e,he⟩ : ∃ e,x.ents[i] = e := ⟨_,rfl⟩
   have hem : e ∈ x.ents := he ▸ List.getElem_mem hlt
   have hen := ent_node (hE e hem).2
   obtain ⟨be,oe,rfl⟩ := hr.form (rows_ne Ent.cells_len (by omega) hlt)
   have hcl : ∀ w',Rd w' (some ⟨be,oe,none⟩) (x.ents.flatMap Ent.cells) → ∀ j v,e.cells[j]? = some v → w'.cell? ((⟨be,oe + (i : Int).toNat * 6,none⟩ : Addr).add j) = some v := fun w' h=>by
    rw [← he]
    exact rd_row Ent.cells_len h hlt (by omega)
   rw [he] at hst
   have hkn : ∀ z ∈ kinE (x.ents.take i) o1 o2,1 ≤ z.node ∧ z.node ≤ 8 := fun z hz=>ent_node (hE z (List.mem_of_mem_take (List.mem_filter.1 hz).1)).2
   have hz0 := memE_zero hkn
   generalize kinE (x.ents.take i) o1 o2 = K at hst hz0 ⊢
   by_cases hk : e.o1 = o1 ∧ e.o2 = o2
   ·rw [if_pos hk] at hst
    by_cases hK : K = []
    ·have hM : memE K = 0 := hz0.2 hK
     repeat'(first|(apply LR.ev;(·apply Ev.shl1;(·exact rfl);(·exact rfl);(·exact hen));(·exact rfl))|(apply CW.reg_heldC)|refine gz ?_|refine gy fun _=>?_|(apply idxX;(iterate 2 exact rfl);(iterate 2(first|omega));exact rfl)|(apply LR.ev;(·apply Ev.load_agg_at (cs := e.cells);(·exact rfl);(·exact rfl);(·intro w' hw';exact hcl w' (hw'.rd_of memZ)));(·exact rfl))|(refine gs ?_ ?_;all_goals(intro hc;try simp only[hcs]at hc;try exact abz)))
     all_goals (
      apply DW.quiet [0,1,2,3,4,5,6,7,8,9]
      ·decide +kernel
      ·exact stZ
      repeat'(first|(apply QL.ev;(·exact rfl);(·first | (exact Ev.min2 rfl rfl) | (exact Ev.max2 rfl rfl));(·exact rfl))|refine gq ?_|apply QL.nil)
      all_goals (show DW _ _ _ _ _ _ _ _))
     all_goals (first | (apply DW.done;(·decide +kernel)))
     repeat'(first|refine gz ?_|(apply addX;(iterate 2 exact rfl);(iterate 2(first|omega));exact rfl))
     all_goals (try (exfalso;omega))
     refine At.again (i + 1) (by omega) ?_ ⟨rfl,?_,?_,?_,trivial⟩ (fun w' hw'=>hw'.sub subN) (by omega)
     ·exact outZ
     ·show Value.int .i64 _ = .int .i64 _
      rw [hst,memE_snoc]
     ·show Value.int .i64 _ = .int .i64 _
      rw [hst,lowE_snoc]
      rw [if_pos hK];congr 1;split <;> omega
     ·show Value.int .i64 _ = .int .i64 _
      rw [hst,highE_snoc,← max_if]
    ·have hM : ¬ memE K = 0 := fun h=>hK (hz0.1 h)
     repeat'(first|(apply LR.ev;(·apply Ev.shl1;(·exact rfl);(·exact rfl);(·exact hen));(·exact rfl))|(apply CW.reg_heldC)|refine gz ?_|refine gy fun _=>?_|(apply idxX;(iterate 2 exact rfl);(iterate 2(first|omega));exact rfl)|(apply LR.ev;(·apply Ev.load_agg_at (cs := e.cells);(·exact rfl);(·exact rfl);(·intro w' hw';exact hcl w' (hw'.rd_of memZ)));(·exact rfl))|(refine gs ?_ ?_;all_goals(intro hc;try simp only[hcs]at hc;try exact abz)))
     all_goals (
      apply DW.quiet [0,1,2,3,4,5,6,7,8,9]
      ·decide +kernel
      ·exact stZ
      repeat'(first|(apply QL.ev;(·exact rfl);(·first | (exact Ev.min2 rfl rfl) | (exact Ev.max2 rfl rfl));(·exact rfl))|refine gq ?_|apply QL.nil)
      all_goals (show DW _ _ _ _ _ _ _ _))
     all_goals (first | (apply DW.done;(·decide +kernel)))
     repeat'(first|refine gz ?_|(apply addX;(iterate 2 exact rfl);(iterate 2(first|omega));exact rfl))
     all_goals (try (exfalso;omega))
     refine At.again (i + 1) (by omega) ?_ ⟨rfl,?_,?_,?_,trivial⟩ (fun w' hw'=>hw'.sub subN) (by omega)
     ·exact outZ
     ·show Value.int .i64 _ = .int .i64 _
      rw [hst,memE_snoc]
     ·show Value.int .i64 _ = .int .i64 _
      rw [hst,lowE_snoc]
      rw [if_neg hK];congr 1;split <;> omega
     ·show Value.int .i64 _ = .int .i64 _
      rw [hst,highE_snoc,← max_if]
   ·rw [if_neg hk,List.append_nil] at hst
    repeat'(first|refine gz ?_|refine gy fun _=>?_|(apply idxX;(iterate 2 exact rfl);(iterate 2(first|omega));exact rfl)|(apply LR.ev;(·apply Ev.load_agg_at (cs := e.cells);(·exact rfl);(·exact rfl);(·intro w' hw';exact hcl w' (hw'.rd_of memZ)));(·exact rfl))|(apply addX;(iterate 2 exact rfl);(iterate 2(first|omega));exact rfl)|(refine gs ?_ ?_;all_goals(intro hc;try simp only[hcs]at hc;try exact abz)))
    refine At.again (i + 1) (by omega) ?_ ⟨rfl,?_,?_,?_,trivial⟩ (fun w' hw'=>hw'.sub subN) (by omega)
    ·exact outZ
    ·rw [hst];rfl
    ·rw [hst];rfl
    ·rw [hst];rfl
  ·have hie : i = x.ents.length := by omega
   subst hie
   rw [List.take_length]
   repeat'(first|refine gz ?_|(refine gs ?_ ?_;all_goals(intro hc;try simp only[hcs]at hc;try exact abz)))
   (apply ret3;(·exact rfl);intro w' hS)
   exact ⟨rfl,hS.toKeep⟩
theorem r251 (x y : Ent) (w : World) (h1 : 0 ≤ x.clock ∧ x.clock ≤ 9007199254740991) (h2 : 0 ≤ y.clock ∧ y.clock ≤ 9007199254740991) :
  CallsTo Tryz.prog 251 [.agg x.cells.toArray,.agg y.cells.toArray] w fun v w'=>v = .int .i64 (x.clock - y.clock) ∧ Grew w w' := by
 refine go_in (n := 10) (St.refl _ NoF) Tryz.func251 rfl rfl ?_
 repeat'(first|(refine kB' fun b1=>?_)|refine gz ?_|(apply subX;(iterate 2 exact rfl);(iterate 2(first|omega));exact rfl))
 (apply ret1;(·exact rfl);intro w' hS)
 exact ⟨rfl,hS.toKeep⟩
theorem topE_snoc (l : List Ent) (e : Ent) : topE (l ++ [e]) = max (topE l) e.clock := by unfold topE;rw [List.foldl_append];rfl
structure Mxs where
 i : Nat
 e : Ent
set_option maxHeartbeats 4000000 in
theorem r250 (a : Option Addr) (c : Nat) (l : List Ent) (w : World) (hr : Rd w a (l.flatMap Ent.cells)) (hl : 1 ≤ l.length ∧ l.length ≤ 100) (hck : ∀ e ∈ l,0 ≤ e.clock ∧ e.clock ≤ 9007199254740991) :
  CallsTo Tryz.prog 250 [.slice a l.length c,.func (.func 251) #[] #[]] w fun v w'=>∃ e : Ent,v = .agg e.cells.toArray ∧ e.clock = topE l ∧ e ∈ l ∧ Grew w w' := by
 refine go_in (n := 33) (St.rd1 hr) Tryz.func250 rfl rfl ?_
 have hlt0 : 0 < l.length := by omega
 obtain ⟨be,oe,rfl⟩ := hr.form (rows_ne Ent.cells_len (by omega) hlt0)
 have hcl : ∀ (i : Nat) (hi : i < l.length) w',Rd w' (some ⟨be,oe,none⟩) (l.flatMap Ent.cells) → ∀ j v,(l[i]).cells[j]? = some v → w'.cell? ((⟨be,oe + (i : Int).toNat * 6,none⟩ : Addr).add j) = some v := fun i hi w' h=>
  rd_row Ent.cells_len h hi (by omega)
 obtain ⟨e0,he0⟩ : ∃ e,l[0] = e := ⟨_,rfl⟩
 have hcl0 := hcl 0 hlt0
 rw [he0] at hcl0
 have he0m : e0 ∈ l := he0 ▸ List.getElem_mem hlt0
 repeat'(first|(refine kA' (T := 91) fun b4=>?_)|refine gz ?_|(apply idxX;(iterate 2 exact rfl);(iterate 2(first|omega));exact rfl)|(apply LR.ev;(·apply Ev.load_agg_at (cs := e0.cells);(·exact rfl);(·exact rfl);(·intro w' hw';exact hcl0 w' (hw'.rd_of memZ)));(·exact rfl))|(refine gs ?_ ?_;all_goals(intro hc;try simp only[hcs]at hc;try exact abz)))
 rename_i b3
 have htake : ∀ {i : Nat},i < l.length → topE (l.take (i + 1)) = max (topE (l.take i)) (l.getD i e0).clock := fun {i} h=>by
  rw [List.take_add_one,List.getElem?_eq_getElem h,Option.toList_some,topE_snoc,List.getD_eq_getElem?_getD,List.getElem?_eq_getElem h]
  rfl
 apply CW.loop [6,14,15,16,17,18,19,20,21,22,23,24,25,26,27,28,29,30,31] (fun s : Mxs=>1 ≤ s.i ∧ s.i ≤ l.length ∧ s.e ∈ l ∧ s.e.clock = topE (l.take s.i)) (fun s=>[(6,Value.int .i64 (s.i : Int))])
  (fun s=>St w NoF [.own b4 (.cells s.e.cells.toArray 91 (0,0)),.own b3 (.cells zeroEnt.cells.toArray 91 (0,0)),rdA (some ⟨be,oe,none⟩) (l.flatMap Ent.cells)]) (fun s=>l.length - s.i)
 ·refine fun w' hw'=>⟨⟨1,e0⟩,⟨Nat.le_refl _,by show 1 ≤ l.length;omega,he0m,?_⟩,⟨rfl,trivial⟩,hw'⟩
  have h9 := htake hlt0
  rw [List.getD_eq_getElem?_getD,List.getElem?_eq_getElem hlt0] at h9
  show e0.clock = topE (l.take (0 + 1))
  rw [h9]
  show e0.clock = max (0 : Int) (l[0]).clock
  rw [he0]
  have := (hck e0 he0m).1
  omega
 rintro ⟨i,cur⟩ g ⟨hi1,hi2,hcm,hct⟩
 simp only at hi1 hi2 hcm hct ⊢
 by_cases hlt : i < l.length
 ·obtain ⟨e,he⟩ : ∃ e,l[i] = e := ⟨_,rfl⟩
  have hem : e ∈ l := he ▸ List.getElem_mem hlt
  have hcli := hcl i hlt
  rw [he] at hcli
  have ht := htake hlt
  rw [List.getD_eq_getElem?_getD,List.getElem?_eq_getElem hlt,he] at ht
  simp only [Option.getD_some] at ht
  have k1 := hck e hem
  have k2 := hck cur hcm
  repeat'(first|(apply CW.reg_heldC)|refine gz ?_|(refine gs ?_ ?_;all_goals(intro hc;try simp only[hcs]at hc;try exact abz)))
  all_goals (
   apply DW.quiet [0,1,2,3,4,5]
   ·decide +kernel
   ·exact stZ
   repeat'(first|(apply QL.ev;(·exact rfl);(·first | (apply Ev.indexAddr;(·exact rfl);(·exact rfl);(·omega);(·omega)) | (apply Ev.load_agg_at (cs := e.cells);(·exact rfl);(·exact rfl);(·intro w' hw';exact hcli w' (hw'.rd_of memZ))));(·exact rfl))|refine gq ?_|apply QL.nil)
   all_goals (show DW _ _ _ _ _ _ _ _))
  all_goals (
   apply DW.loud 6
   ·exact rfl
   ·decide +kernel
   repeat'(first|refine gw ?_|(apply LR.qcall_val (g := 251) (cap := []) (v := .int .i64 (e.clock - cur.clock));(·exact rfl);(·exact rfl);(·intro w1 h1;exact CallsTo.q (show CallsTo Tryz.prog 251 [.agg e.cells.toArray,.agg cur.cells.toArray] w1 _ from r251 e cur w1 k1 k2) h1)))
   all_goals (refine ats ?_))
  all_goals (
   apply DW.quiet [7]
   ·decide +kernel
   ·exact stZ
   repeat'(first|refine gq ?_|apply QL.nil)
   all_goals (show DW _ _ _ _ _ _ _ _))
  all_goals (first | (apply DW.done_thn;(·decide +kernel)) |fail)
  repeat'(first|refine gz ?_|(apply idxX;(iterate 2 exact rfl);(iterate 2(first|omega));exact rfl)|(apply addX;(iterate 2 exact rfl);(iterate 2(first|omega));exact rfl)|(apply LR.ev;(·apply Ev.load_agg_at (cs := e.cells);(·exact rfl);(·exact rfl);(·intro w' hw';exact hcli w' (hw'.rd_of memZ)));(·exact rfl))|(refine gs ?_ ?_;all_goals(intro hc;try simp only[hcs]at hc;try exact abz)))
  ·refine At.again (⟨i + 1,e⟩ : Mxs) ⟨by show 1 ≤ i + 1;omega,by show i + 1 ≤ l.length;omega,hem,?_⟩ ?_ ⟨rfl,trivial⟩ (fun w' hw'=>hw'.sub subN) (by show l.length - (i + 1) < l.length - i;omega)
   ·show e.clock = topE (l.take (i + 1))
    rw [ht]
    omega
   ·exact outZ
  ·refine At.again (⟨i + 1,cur⟩ : Mxs) ⟨by show 1 ≤ i + 1;omega,by show i + 1 ≤ l.length;omega,hcm,?_⟩ ?_ ⟨rfl,trivial⟩ (fun w' hw'=>hw'.sub subN) (by show l.length - (i + 1) < l.length - i;omega)
   ·show cur.clock = topE (l.take (i + 1))
    rw [ht]
    omega
   ·exact outZ
 ·have hie : i = l.length := by omega
  subst hie
  rw [List.take_length] at hct
  repeat'(first|refine gz ?_|(refine gs ?_ ?_;all_goals(intro hc;try simp only[hcs]at hc;try exact abz)))
  (apply ret1c;(·exact rfl);(·exact inferInstance);(·exact rfl);(·exact memY);(·exact rfl);intro w' hS)
  exact ⟨cur,rfl,hct,hcm,hS.toKeep⟩
theorem r193 (x : Cmt) (a : Option Addr) (c : Nat) (w : World) (hr : Rd w a (x.ents.flatMap Ent.cells)) (hI : memI x.mem) :
  CallsTo Tryz.prog 193 [x.val a c] w fun v w'=>v = .int .i64 (stampC x) ∧ Grew w w' := by
 refine go_in (n := 14) (St.rd1 hr) Tryz.func193 rfl rfl ?_
 have hq : ∀ w1,Rd w1 a (x.ents.flatMap Ent.cells) → CallsTo Tryz.prog 190 [x.val a c] w1 fun v w'=>v = .int .i64 (if cmtB x then 0 else 2) ∧ Grew w1 w' := fun w1 h=>r190 x a c w1 h hI
 unfold stampC
 cases hb : cmtB x
 ·rw [hb] at hq
  repeat'(first|(refine kB' fun b1=>?_)|refine gz ?_|(apply kq;(·exact rfl);(·intro w1 h1;exact CallsTo.q (hq w1 (h1.rd_of memZ)) h1))|fail)
  (apply ret1;(·exact rfl);intro w' hS)
  exact ⟨rfl,hS.toKeep⟩
 ·rw [hb] at hq
  obtain ⟨hE,hl8,hl1⟩ := cmt_ents hb
  have hck : ∀ e ∈ x.ents,0 ≤ e.clock ∧ e.clock ≤ 9007199254740991 := fun e he=>by
   have h1 := (hE e he).1
   unfold entB withinB at h1
   simp only [Bool.and_eq_true,decide_eq_true_eq] at h1
   omega
  repeat'(first|(refine kB' fun b1=>?_)|refine gz ?_|refine gy fun _=>?_|(apply kq;(·exact rfl);(·intro w1 h1;exact CallsTo.q (hq w1 (h1.rd_of memZ)) h1))|(apply LR.call;(·exact rfl);(intro w1 h1;refine CallsTo.mono (show CallsTo Tryz.prog 250 [.slice a x.ents.length c,.func (.func 251) #[] #[]] w1 _ from r250 a c x.ents w1 (h1.rd_of memZ) (by omega) hck) ?_;rintro v w2 ⟨e,rfl,ht,hem,hn⟩;refine LR.back (h1.grew hn) ?_;clear hn h1))|fail)
  have hk := hck e hem
  repeat'(first|refine gz ?_|(apply addX;(iterate 2 exact rfl);(iterate 2(first|omega));exact rfl)|(apply LR.ev;(·exact Ev.min2 rfl rfl);(·exact rfl))|fail)
  (apply ret1;(·exact rfl);intro w' hS)
  refine ⟨congrArg (Value.int .i64) ?_,hS.toKeep⟩
  rw [← ht]
  show _ = min (e.clock + 1) maxN
  unfold maxN
  split <;> omega
abbrev oB (b : Nat) (n : Int) : Asrt := .own b (.cells [.bool true,.int .i64 n].toArray 138 (0,0))
def toldD (o : List DaA) : List EvD := (dats o).map msgE
theorem tellD_len (d : Dat) : (tellD d).length ≤ 1 := by unfold tellD;split <;> simp
theorem hasD_max {D : List Dat} (h : WOk D) {s : Int} (hs : hasD D s = true) : s ≤ 9007199254740991 := by
 obtain ⟨d,hd,rfl⟩ := has_iff.1 hs
 exact (h.rng d hd).2.1
theorem next_stop {D : List Dat} {safe k : Int} (h : stopB D safe k = true) : ∀ f,nextGo D safe f k = ([],k)
 | 0=>rfl
 | n + 1=>by unfold nextGo;rw [if_pos h]
theorem stop_has {D : List Dat} {safe k : Int} (h : stopB D safe k = false) : hasD D (k + 1) = true := by
 unfold stopB at h
 cases hx : hasD D (k + 1) with
 | true=>rfl
 | false=>rw [hx] at h;simp at h
theorem next_fuel {D : List Dat} (hD : WOk D) {safe : Int} : ∀ (f f' : Nat) (k : Int),(abvT D k).length ≤ f → (abvT D k).length ≤ f' → nextGo D safe f k = nextGo D safe f' k := by
 intro f
 induction f with
 | zero=>
  intro f' k h1 _
  cases hs : stopB D safe k with
  | true=>rw [next_stop hs,next_stop hs]
  | false=>
   have hh := congrArg List.length (abv_head hD (stop_has hs))
   rw [List.length_cons] at hh
   omega
 | succ n ih=>
  intro f' k h1 h2
  cases hs : stopB D safe k with
  | true=>rw [next_stop hs,next_stop hs]
  | false=>
   have hh := congrArg List.length (abv_head hD (stop_has hs))
   rw [List.length_cons] at hh
   cases f' with
   | zero=>omega
   | succ m=>
    unfold nextGo
    rw [if_neg (by rw [hs];simp),if_neg (by rw [hs];simp),ih m (k + 1) (by omega) (by omega)]
theorem next_step {D : List Dat} (hD : WOk D) {safe k : Int} (hs : stopB D safe k = false) {f : Nat} (hf : (abvT D k).length ≤ f) : nextGo D safe f k = (tellD (getT D (k + 1)) ++ (nextGo D safe f (k + 1)).1,(nextGo D safe f (k + 1)).2) := by
 have hh := congrArg List.length (abv_head hD (stop_has hs))
 rw [List.length_cons] at hh
 cases f with
 | zero=>omega
 | succ n=>
  conv=>lhs;unfold nextGo
  rw [if_neg (by rw [hs];simp),next_fuel hD n (n + 1) (k + 1) (by omega) (by omega)]
structure Ost2 where
 n : Nat
 o : List DaA
 a : Option Addr
 c : Nat
theorem r40 (w : World) : CallsTo Tryz.prog 40 [] w fun v w'=>∃ b,v = .pointer (some ⟨b,0,none⟩) ∧ New1 (oB b 0) w w' := by
 refine go_in (n := 3) (St.refl _ NoF) Tryz.func40 rfl rfl ?_
 repeat'(first|(refine kB' fun b=>?_)|refine gz ?_)
 (apply ret1;(·exact rfl);intro w' hS)
 exact ⟨b,rfl,St.new1 hS rfl⟩
theorem r236 (b : Nat) (n : Int) (w : World) (h : w.heap[b]? = some (.cells [.bool true,.int .i64 n].toArray 138 (0,0))) : CallsTo Tryz.prog 236 [.pointer (some ⟨b,0,none⟩)] w fun v w'=>v = .int .i64 n ∧ Grew w w' := by
 have hb : b < w.heap.size := (Array.getElem?_eq_some_iff.1 h).1
 have hcell : ∀ w',St w NoF [] w' → w'.cell? ⟨b,1,none⟩ = some (.int .i64 n) := fun w' hw'=>by
  rw [cell_own (show w'.heap[b]? = some (.cells [.bool true,.int .i64 n].toArray 138 (0,0)) by rw [hw'.keep b hb (fun h=>h)];exact h)]
  rfl
 refine go_in (n := 9) (St.refl _ NoF) Tryz.func236 rfl rfl ?_
 repeat'(first|refine gz ?_|(apply LR.ev;(·apply Ev.load;(·exact rfl);(·exact hcell));(·exact rfl))|fail)
 (apply ret1;(·exact rfl);intro w' hS)
 exact ⟨rfl,hS.toKeep⟩
set_option maxHeartbeats 4000000 in
theorem r174 (b bw bm : Nat) (es : List DaA) (aru high safe : Int) (d0 : Nat) (w : World) (hb : w.heap[b]? = some (.cells [.bool true,.int .i64 (d0 : Int)].toArray 138 (0,0))) (h : (wO bw bm es aru high).holds w) (hne : ¬ (wO bw bm es aru high).foot b) (hD : WOk (dats es)) (hl : es.length ≤ 100000) (hd0 : (d0 : Int) ≤ 9007199254740991) :
  CallsTo Tryz.prog 174 [.pointer (some ⟨b,0,none⟩),.pointer (some ⟨bw,0,none⟩),.int .i64 safe] w fun v w'=>∃ a' c' o,v = .tuple [.slice a' o.length c',.int .i64 0].toArray ∧ toldD o = (nextGo (dats es) safe (dats es).length d0).1 ∧ o.length ≤ es.length ∧ St w (fun k=>k = b) [dO a' c' o,oB b (nextGo (dats es) safe (dats es).length d0).2] w' := by
 have hS0 : St w (fun k=>k = b) [wR bw bm es aru high,oB b d0] w := by
  have h1 : St w (oB b d0).foot [oB b d0] w := St.one (show (oB b d0).holds w from hb) (fun k hk=>by rw [show k = b from hk];exact (Array.getElem?_eq_some_iff.1 hb).1) (Asrt.dep_own _ _)
  have h2 : St w (fun k=>k = b) [oB b d0] w := h1
  exact h2.old h (fun k hk=>⟨both_live h k hk,fun e=>hne (by rw [← e];exact hk)⟩) (wO_dep _ _ _ _ _)
 refine go_in (n := 64) hS0 Tryz.func174 rfl rfl ?_
 repeat'(first|refine gz ?_)
 have hab0 : (abvT (dats es) d0).length ≤ es.length := by
  have h5 := abvS_len (dats es) d0 (sqs (dats es))
  rw [sqs_len,dats_len] at h5
  exact h5
 have hlenD : (dats es).length = es.length := dats_len es
 generalize hR : nextGo (dats es) safe (dats es).length d0 = R
 apply CW.loop [8,9,10,11,25,26,27,28,29,30,31,32,33,34,35,36,37,38,39,40,41,42,43,44,45,46,47,48,49,50,51,52,53,54,55,56,57,58,59,60,61,62] (fun s : Ost2=>(s.n : Int) ≤ 9007199254740991 ∧ s.o.length + (abvT (dats es) s.n).length ≤ es.length ∧ toldD s.o ++ (nextGo (dats es) safe (dats es).length s.n).1 = R.1 ∧ (nextGo (dats es) safe (dats es).length s.n).2 = R.2) (fun s=>[(8,.slice s.a s.o.length s.c)])
  (fun s=>St w (fun k=>k = b) [oB b s.n,dS s.a s.c s.o,bunD s.o,wR bw bm es aru high]) (fun s=>(abvT (dats es) s.n).length)
 ·intro w' hw'
  refine ⟨⟨d0,[],none,0⟩,⟨hd0,by simpa using hab0,by rw [hR];rfl,by rw [hR]⟩,⟨rfl,trivial⟩,?_⟩
  have j1 : St w (fun k=>k = b) [dS none 0 [],bunD [],wR bw bm es aru high,oB b d0] w' := (hw'.bun_nil DaA.dep).nilsl 52 18
  exact front j1 3 rfl rfl |>.perm (by exact List.Perm.refl _)
 rintro ⟨n,o,a,c⟩ g1 ⟨hnb,hnl,hr1,hr2⟩
 simp only at hnb hnl hr1 hr2 ⊢
 have hna : (abvT (dats es) n).length ≤ (dats es).length := by rw [hlenD];omega
 cases hx : hasD (dats es) ((n : Int) + 1)
 ·repeat'(first|refine gz ?_|refine gy fun _=>?_|(apply addX;(iterate 2 exact rfl);(iterate 2(first|omega));exact rfl)|(apply LR.call;(·exact rfl);(intro w1 hw1;have ht := t32 bw bm es aru high ((n : Int) + 1) w1 (w_out hw1 memZ) hD;rw [hx] at ht;refine ht.mono ?_;rintro v w2 ⟨a2,c2,rfl,hn⟩;refine LR.back (hw1.newSl hn) ?_;clear hn hw1 ht))|fail)
  ·(apply ret2;(·exact rfl);intro w' hS)
   have hst : stopB (dats es) safe n = true := by unfold stopB;rw [hx];rfl
   have hgo := next_stop hst (dats es).length
   rw [hgo] at hr1 hr2
   refine ⟨a,c,o,rfl,by rw [← hr1,List.append_nil],by omega,?_⟩
   rw [← hr2]
   have j1 : St w (fun k=>k = b) [oB b n,dS a c o,bunD o] w' := hS.sub subN
   have j2 : St w (fun k=>k = b) [dS a c o,bunD o,oB b n] w' := front (front j1 2 rfl rfl) 2 rfl rfl
   exact j2.join rfl rfl
 ·repeat'(first|(apply Go.Hb.kK;(iterate 4 exact rfl);intro bs)|refine gz ?_|refine gy fun _=>?_|(apply addX;(iterate 2 exact rfl);(iterate 2(first|omega));exact rfl)|(apply LR.call;(·exact rfl);(intro w1 hw1;have ht := t32 bw bm es aru high ((n : Int) + 1) w1 (w_out hw1 memZ) hD;rw [hx] at ht;refine ht.mono ?_;rintro v w2 ⟨a2,c2,rfl,hn⟩;refine LR.back (hw1.newSl hn) ?_;clear hn hw1 ht))|(apply LR.append (xs := o.flatMap DaA.row) (news := DaA.row ⟨getT (dats es) ((n : Int) + 1),a2,c2⟩) (m := 1);(·exact rfl);(·exact rfl);(·intro a' c';exact selZ);(·exact fun w' hw'=>hw'.rd_of_blk (mH _ _));(·exact fun hx=>by cases hx);(·exact rfl);(·simp [DaA.row,Dat.cells,Msg.cells,Value.oneCell']);(·omega);(·unfold maxLen;omega);(·exact rfl);(intro a4 c4))|(refine gs ?_ ?_;all_goals(intro hc;try simp only[hcs]at hc;try exact abz)))
  ·have hq := getT_seq hx
   (apply ret2;(·exact rfl);intro w' hS)
   have hst : stopB (dats es) safe n = true := by unfold stopB;rw [hx,show (getT (dats es) ((n : Int) + 1)).msg.safe = true by assumption,decide_eq_true (by omega)];rfl
   have hgo := next_stop hst (dats es).length
   rw [hgo] at hr1 hr2
   refine ⟨a,c,o,rfl,by rw [← hr1,List.append_nil],by omega,?_⟩
   rw [← hr2]
   have j1 : St w (fun k=>k = b) [oB b n,dS a c o,bunD o] w' := hS.sub subN
   have j2 : St w (fun k=>k = b) [dS a c o,bunD o,oB b n] w' := front (front j1 2 rfl rfl) 2 rfl rfl
   exact j2.join rfl rfl
  ·have hs := tellD_len (getT (dats es) ((n : Int) + 1))
   have hq9 := getT_seq hx
   have hst : stopB (dats es) safe n = false := by
    unfold stopB
    rw [hx]
    first
     | (rw [show (getT (dats es) ((n : Int) + 1)).msg.safe = false by assumption];rfl)
     | (rw [decide_eq_false (show ¬ safe < (n : Int) + 1 by omega),Bool.and_false];rfl)
   have hgo := next_step hD hst hna
   rw [hgo] at hr1 hr2
   have hh := congrArg List.length (abv_head hD hx)
   rw [List.length_cons] at hh
   have hnx := hasD_max hD hx
   refine At.again (⟨n + 1,o ++ [⟨getT (dats es) ((n : Int) + 1),a2,c2⟩],a4,c4⟩ : Ost2) ⟨?_,?_,?_,?_⟩ ?_ ⟨?_,trivial⟩ (fun w' hw'=>?_) ?_
   ·show ((n + 1 : Nat) : Int) ≤ 9007199254740991
    omega
   ·show (o ++ [(⟨getT (dats es) ((n : Int) + 1),a2,c2⟩ : DaA)]).length + (abvT (dats es) ((n + 1 : Nat) : Int)).length ≤ es.length
    rw [List.length_append,show ((n + 1 : Nat) : Int) = (n : Int) + 1 by omega]
    show o.length + 1 + _ ≤ _
    omega
   ·show toldD (o ++ [(⟨getT (dats es) ((n : Int) + 1),a2,c2⟩ : DaA)]) ++ (nextGo (dats es) safe (dats es).length ((n + 1 : Nat) : Int)).1 = R.1
    rw [← hr1,show tellD (getT (dats es) ((n : Int) + 1)) = [msgE (getT (dats es) ((n : Int) + 1))] by (unfold tellD;rw [if_neg (by assumption)])]
    unfold toldD;rw [dats_snoc,List.map_append,List.append_assoc];rfl
   ·exact hr2
   ·exact outZ
   ·show Value.slice a4 (o.length + 1) c4 = .slice a4 (o ++ [(⟨getT (dats es) ((n : Int) + 1),a2,c2⟩ : DaA)]).length c4;simp
   ·have j0 : St w (fun k=>k = b) [(⟨getT (dats es) ((n : Int) + 1),a2,c2⟩ : DaA).body,oB b ((n : Int) + 1),osl (.slice a4 (o.length + 1) c4) 52 18 (o.length + 1) (o.flatMap DaA.row ++ (⟨getT (dats es) ((n : Int) + 1),a2,c2⟩ : DaA).row),bunD o,wR bw bm es aru high] w' := hw'.sub subN
    have j1 : St w (fun k=>k = b) [(⟨getT (dats es) ((n : Int) + 1),a2,c2⟩ : DaA).body,osl (.slice a4 (o.length + 1) c4) 52 18 (o.length + 1) (o.flatMap DaA.row ++ (⟨getT (dats es) ((n : Int) + 1),a2,c2⟩ : DaA).row),bunD o,oB b ((n : Int) + 1),wR bw bm es aru high] w' := front (front (front j0 3 rfl rfl) 3 rfl rfl) 2 rfl rfl
    exact front (d_push j1) 2 rfl rfl
   ·show (abvT (dats es) ((n + 1 : Nat) : Int)).length < (abvT (dats es) n).length
    rw [show ((n + 1 : Nat) : Int) = (n : Int) + 1 by omega]
    omega
  ·have hs := tellD_len (getT (dats es) ((n : Int) + 1))
   have hq9 := getT_seq hx
   have hst : stopB (dats es) safe n = false := by
    unfold stopB
    rw [hx]
    first
     | (rw [show (getT (dats es) ((n : Int) + 1)).msg.safe = false by assumption];rfl)
     | (rw [decide_eq_false (show ¬ safe < (n : Int) + 1 by omega),Bool.and_false];rfl)
   have hgo := next_step hD hst hna
   rw [hgo] at hr1 hr2
   have hh := congrArg List.length (abv_head hD hx)
   rw [List.length_cons] at hh
   have hnx := hasD_max hD hx
   refine At.again (⟨n + 1,o,a,c⟩ : Ost2) ⟨?_,?_,?_,?_⟩ ?_ ⟨?_,trivial⟩ (fun w' hw'=>?_) ?_
   ·show ((n + 1 : Nat) : Int) ≤ 9007199254740991
    omega
   ·show o.length + (abvT (dats es) ((n + 1 : Nat) : Int)).length ≤ es.length
    rw [show ((n + 1 : Nat) : Int) = (n : Int) + 1 by omega]
    omega
   ·show toldD o ++ (nextGo (dats es) safe (dats es).length ((n + 1 : Nat) : Int)).1 = R.1
    rw [← hr1,show tellD (getT (dats es) ((n : Int) + 1)) = [] by (unfold tellD;rw [if_pos (by assumption)]),List.nil_append]
    rfl
   ·exact hr2
   ·exact outZ
   ·rfl
   ·exact hw'.sub subN
   ·show (abvT (dats es) ((n + 1 : Nat) : Int)).length < (abvT (dats es) n).length
    rw [show ((n + 1 : Nat) : Int) = (n : Int) + 1 by omega]
    omega
  ·have hs := tellD_len (getT (dats es) ((n : Int) + 1))
   have hq9 := getT_seq hx
   have hst : stopB (dats es) safe n = false := by
    unfold stopB
    rw [hx]
    first
     | (rw [show (getT (dats es) ((n : Int) + 1)).msg.safe = false by assumption];rfl)
     | (rw [decide_eq_false (show ¬ safe < (n : Int) + 1 by omega),Bool.and_false];rfl)
   have hgo := next_step hD hst hna
   rw [hgo] at hr1 hr2
   have hh := congrArg List.length (abv_head hD hx)
   rw [List.length_cons] at hh
   have hnx := hasD_max hD hx
   refine At.again (⟨n + 1,o ++ [⟨getT (dats es) ((n : Int) + 1),a2,c2⟩],a4,c4⟩ : Ost2) ⟨?_,?_,?_,?_⟩ ?_ ⟨?_,trivial⟩ (fun w' hw'=>?_) ?_
   ·show ((n + 1 : Nat) : Int) ≤ 9007199254740991
    omega
   ·show (o ++ [(⟨getT (dats es) ((n : Int) + 1),a2,c2⟩ : DaA)]).length + (abvT (dats es) ((n + 1 : Nat) : Int)).length ≤ es.length
    rw [List.length_append,show ((n + 1 : Nat) : Int) = (n : Int) + 1 by omega]
    show o.length + 1 + _ ≤ _
    omega
   ·show toldD (o ++ [(⟨getT (dats es) ((n : Int) + 1),a2,c2⟩ : DaA)]) ++ (nextGo (dats es) safe (dats es).length ((n + 1 : Nat) : Int)).1 = R.1
    rw [← hr1,show tellD (getT (dats es) ((n : Int) + 1)) = [msgE (getT (dats es) ((n : Int) + 1))] by (unfold tellD;rw [if_neg (by assumption)])]
    unfold toldD;rw [dats_snoc,List.map_append,List.append_assoc];rfl
   ·exact hr2
   ·exact outZ
   ·show Value.slice a4 (o.length + 1) c4 = .slice a4 (o ++ [(⟨getT (dats es) ((n : Int) + 1),a2,c2⟩ : DaA)]).length c4;simp
   ·have j0 : St w (fun k=>k = b) [(⟨getT (dats es) ((n : Int) + 1),a2,c2⟩ : DaA).body,oB b ((n : Int) + 1),osl (.slice a4 (o.length + 1) c4) 52 18 (o.length + 1) (o.flatMap DaA.row ++ (⟨getT (dats es) ((n : Int) + 1),a2,c2⟩ : DaA).row),bunD o,wR bw bm es aru high] w' := hw'.sub subN
    have j1 : St w (fun k=>k = b) [(⟨getT (dats es) ((n : Int) + 1),a2,c2⟩ : DaA).body,osl (.slice a4 (o.length + 1) c4) 52 18 (o.length + 1) (o.flatMap DaA.row ++ (⟨getT (dats es) ((n : Int) + 1),a2,c2⟩ : DaA).row),bunD o,oB b ((n : Int) + 1),wR bw bm es aru high] w' := front (front (front j0 3 rfl rfl) 3 rfl rfl) 2 rfl rfl
    exact front (d_push j1) 2 rfl rfl
   ·show (abvT (dats es) ((n + 1 : Nat) : Int)).length < (abvT (dats es) n).length
    rw [show ((n + 1 : Nat) : Int) = (n : Int) + 1 by omega]
    omega
  ·have hs := tellD_len (getT (dats es) ((n : Int) + 1))
   have hq9 := getT_seq hx
   have hst : stopB (dats es) safe n = false := by
    unfold stopB
    rw [hx]
    first
     | (rw [show (getT (dats es) ((n : Int) + 1)).msg.safe = false by assumption];rfl)
     | (rw [decide_eq_false (show ¬ safe < (n : Int) + 1 by omega),Bool.and_false];rfl)
   have hgo := next_step hD hst hna
   rw [hgo] at hr1 hr2
   have hh := congrArg List.length (abv_head hD hx)
   rw [List.length_cons] at hh
   have hnx := hasD_max hD hx
   refine At.again (⟨n + 1,o,a,c⟩ : Ost2) ⟨?_,?_,?_,?_⟩ ?_ ⟨?_,trivial⟩ (fun w' hw'=>?_) ?_
   ·show ((n + 1 : Nat) : Int) ≤ 9007199254740991
    omega
   ·show o.length + (abvT (dats es) ((n + 1 : Nat) : Int)).length ≤ es.length
    rw [show ((n + 1 : Nat) : Int) = (n : Int) + 1 by omega]
    omega
   ·show toldD o ++ (nextGo (dats es) safe (dats es).length ((n + 1 : Nat) : Int)).1 = R.1
    rw [← hr1,show tellD (getT (dats es) ((n : Int) + 1)) = [] by (unfold tellD;rw [if_pos (by assumption)]),List.nil_append]
    rfl
   ·exact hr2
   ·exact outZ
   ·rfl
   ·exact hw'.sub subN
   ·show (abvT (dats es) ((n + 1 : Nat) : Int)).length < (abvT (dats es) n).length
    rw [show ((n + 1 : Nat) : Int) = (n : Int) + 1 by omega]
    omega
end Go.Proofs.YtohbcfokihplbaaGreatDoor
namespace Go.Hb
theorem zeroCells_flat (zs : List Value) (hz : 0 < zs.length) (m : Nat) : (Builtin.zeroCells zs.toArray m).toList = (List.replicate m zs).flatten := by
 rw [← made_flat zs hz m]
 rfl
theorem rep_flat_len (zs : List Value) (m : Nat) : (List.replicate m zs).flatten.length = m * zs.length := by
 induction m with
 | zero=>simp
 | succ m ih=>rw [List.replicate_succ,List.flatten_cons,List.length_append,ih,Nat.succ_mul];omega
theorem rep_flat_one {zs : List Value} (h : zs.all Value.oneCell' = true) (m : Nat) : ∀ u ∈ (List.replicate m zs).flatten,u.oneCell' = true := by
 intro u hu
 obtain ⟨l,hl,hu⟩ := List.mem_flatten.1 hu
 rw [List.eq_of_mem_replicate hl] at hu
 exact List.all_eq_true.1 h u hu
theorem run_clearN {P : Program} {w : World} {t E ty : TypeId} {zs : List Value} {sz by_ : Nat} (h : SliceOf P t E sz by_) (hz : ZeroOf P E zs) (h1 : zs.all Value.oneCell' = true) (hzl : zs.length = sz) {a : Option Addr} {n c j : Nat} {xs : List Value} (hw : w.ownsRow 0 E sz (.slice a n c) n xs) (hj : j ≤ n) :
  ∃ w',(Builtin.clear_ #[t] ty #[.slice (subA a c j sz) (n - j) (c - j)]).run P w = .ok (.tuple #[]) w' ∧ Step (osl (.slice a n c) E sz n xs) (osl (.slice a n c) E sz n (xs.take (j * sz) ++ (List.replicate (n - j) zs).flatten)) w w' := by
 have hpos := h.pos
 have hw0 := hw
 obtain ⟨hl,hr⟩ := hw
 by_cases hm : n - j = 0
 ·refine ⟨w,?_,?_⟩
  ·rw [hm]
   cases subA a c j sz <;> simp [Builtin.clear_,run_underlying h.und]
  ·have hjn : j = n := by omega
   have e : xs.take (j * sz) ++ (List.replicate (n - j) zs).flatten = xs := by rw [hm,hjn,List.take_of_length_le (by omega)];simp
   rw [e]
   exact ⟨St.refl w _,hw0,fun k hk=>.inl hk⟩
 ·rcases hr with ⟨he,hn0⟩ | ⟨g,cap,cur,he,hbg,hg,hnc,hcm,hcs,htake⟩
  ·omega
  simp only [Value.slice.injEq] at he
  obtain ⟨rfl,_,rfl⟩ := he
  obtain ⟨v,hv,hvc⟩ := hz.zero
  have hsub : subA (some ⟨g,0,none⟩) c j sz = some ⟨g,0 + j * sz,none⟩ := by
   unfold subA
   rw [if_neg (by omega)]
   simp [addr_add]
  have hfl := rep_flat_len zs (n - j)
  rw [hzl] at hfl
  have hnj : j * sz + (n - j) * sz = n * sz := by rw [← Nat.add_mul];congr 1;omega
  have hsz : cur.toList.length = cur.size := Array.length_toList
  have hnn : n * sz ≤ cur.size := by
   have := congrArg List.length htake
   rw [List.length_take,hl,hsz] at this
   omega
  have hst := run_storeCells_at P g (0 + j * sz) E (List.replicate (n - j) zs).flatten 0 cur w (by simpa using hg) (by rw [hfl];omega) (rep_flat_one h1 _)
  have e : ∀ (D vs : List Value),D.take (0 + j * sz + 0) ++ vs ++ D.drop (0 + j * sz + 0 + vs.length) = splice D (0 + j * sz) vs := fun _ _=>rfl
  rw [e] at hst
  obtain ⟨m,hm'⟩ : ∃ m,n - j = m + 1 := ⟨n - j - 1,by omega⟩
  have hg' : w.heap[g]? = some (.cells cur.toList.toArray E (0,0)) := by simpa using hg
  have hspl : (splice cur.toList (0 + j * sz) (List.replicate (n - j) zs).flatten).length = cur.size := by
   unfold splice
   simp only [List.length_append,List.length_take,List.length_drop,hfl,hsz]
   omega
  refine ⟨w.setRow g (splice cur.toList (0 + j * sz) (List.replicate (n - j) zs).flatten).toArray,?_,Keep.setRow w g _ _ E hg rfl,⟨?_,.inr ⟨g,c,_,rfl,hbg,setRow_heap w g _ _ E (0,0) hg,hnc,hcm,?_,?_⟩⟩,fun k hk=>.inl hk⟩
  ·rw [hsub]
   have hzc := zeroCells_flat zs (by omega) (n - j)
   rw [hm'] at hzc hst ⊢
   simp only [Nat.zero_add] at hst ⊢
   simp [Builtin.clear_,run_underlying h.und,hv,hvc,hzc,hst]
  ·rw [List.length_append,hfl,List.length_take,hl];omega
  ·rw [List.size_toArray,hspl];exact hcs
  ·show (splice cur.toList (0 + j * sz) (List.replicate (n - j) zs).flatten).take (n * sz) = _
   rw [splice_take (by rw [hfl];omega) (by omega),htake]
   unfold splice
   rw [Nat.zero_add,List.drop_eq_nil_of_le (by rw [hfl,hl];omega),List.append_nil]
section
variable {P : Program} {f : Frm} {T T' : TypeId} {x : Operand} {w0 : World} {F : Nat → Prop} {L L' : List Asrt}
variable {n' : Nat} {ops rest : List Oper} {Q : Post} {p : String} {af : Array Edge}
theorem LR.clearN {E : TypeId} {zs : List Value} {by_ sz n c j : Nat} {a : Option Addr} {xs : List Value} [h : SliceOf P T E sz by_] [hz : ZeroOf P E zs] (hx : f.ev x = .slice (subA a c j sz) (n - j) (c - j)) (h1 : zs.all Value.oneCell' = true) (hzl : zs.length = sz)
  (hs : Sel L (osl (.slice a n c) E sz n xs) (osl (.slice a n c) E sz n (xs.take (j * sz) ++ (List.replicate (n - j) zs).flatten)) L') (hj : j ≤ n)
  (k : LR false P n' ops rest Q f (St w0 F L')) : LR false P n' ops (⟨none,.call ⟨.builtin .clear,[x].toArray,[T].toArray⟩,T',p,af,none⟩ :: rest) Q f (St w0 F L) := by
 intro w hw b hb
 refine wpList_plain rfl fun K hK=>?_
 obtain ⟨w',hr,st⟩ := run_clearN (P := P) (ty := T') h hz h1 hzl (hw.holds _ hs.mem) hj
 have hr' : (execOp f.ev ⟨none,.call ⟨.builtin .clear,[x].toArray,[T].toArray⟩,T',p,af,none⟩).run P w = .ok (.value (.tuple #[])) w' := by
  simp only [execOp,resolve,invoke,builtin,Sem.run_bind,Sem.run_pure,Result.andThen_ok,List.map_toArray,List.map_cons,List.map_nil,hx,hr]
 rw [← hb.eval] at hr'
 simp only [Oper.wp,hr',Oper.upon_value]
 exact hK _ _ (k _ (hw.did hs rfl st (osl.dep _ _ _ _ _)) _ (hb.put_none _))
end
theorem ownsRow_cut {w : World} {base E sz n c k : Nat} {a : Option Addr} {xs : List Value} (h : w.ownsRow base E sz (.slice a n c) n xs) (hk : k ≤ n) : w.ownsRow base E sz (.slice a k c) k (xs.take (k * sz)) := by
 obtain ⟨hl,hr⟩ := h
 have hks : k * sz ≤ n * sz := Nat.mul_le_mul_right _ hk
 refine ⟨by rw [List.length_take];omega,?_⟩
 rcases hr with ⟨he,hn0⟩ | ⟨g,cap,cur,he,hbg,hg,hnc,hcm,hcs,htake⟩
 ·left
  have : k = 0 := by omega
  subst this
  simp only [Value.slice.injEq] at he
  exact ⟨by rw [he.1,he.2.2],rfl⟩
 ·right
  simp only [Value.slice.injEq] at he
  refine ⟨g,cap,cur,by rw [he.1,he.2.2],hbg,hg,by omega,hcm,hcs,?_⟩
  rw [← htake,List.take_take,Nat.min_eq_left hks]
theorem St.osl_cut {w0 w : World} {F : Nat → Prop} {L L' : List Asrt} {E sz n c k : Nat} {a : Option Addr} {xs : List Value} (h : St w0 F L w) (hs : Sel L (osl (.slice a n c) E sz n xs) (osl (.slice a k c) E sz k (xs.take (k * sz))) L') (hk : k ≤ n) : St w0 F L' w :=
 h.turn hs rfl (St.refl w _) (ownsRow_cut (h.holds _ hs.mem) hk) (fun j hj=>.inl (by cases a <;> exact hj)) (osl.dep _ _ _ _ _)
end Go.Hb
