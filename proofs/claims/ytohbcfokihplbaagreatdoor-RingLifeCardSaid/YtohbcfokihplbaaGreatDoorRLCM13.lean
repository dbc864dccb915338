/-
  Lists of numbers, tokens and visits as arguments.
-/
import Derived.Test.YtohbcfokihplbaaGreatDoorRLCM12
set_option linter.unusedSimpArgs false
set_option linter.unusedVariables false
namespace Go.Proofs.YtohbcfokihplbaaGreatDoor
open Go.Hb
attribute [local irreducible] LR CW At Ev thn blk finK noG again CallsTo DW QL dnext TW DP
set_option maxRecDepth 100000
section
variable {node : Int} {E : List EvD} {kept lo : Int} {n o : Nat} {S : Rg}
theorem Inv.vok (h : Inv node E kept lo n o S) (hn : n ≤ 29000) (ho : o ≤ 700000) {t : Tk} (ht : TOk t) : VOk S t := by
 have h1 := h.c.wl
 have h2 := h.op
 have h3 := h.oe
 have h4 := h.c.len
 refine ⟨h.nodeR,h.c.clk,h.c.wn,fun hs=>(h.two hs).w,fun m hm=>(h.c.wq m hm).1,by omega,fun hs=>?_,h.c.done,by omega,by omega,by omega,fun hs=>?_,fun hs=>crew_inI (h.two hs).kin.ok,ht.sq,ht.sp,ht.ar,ht.ask,ht.idle⟩
 ·obtain ⟨l,a,b,c⟩ := (h.two hs).ag
  exact ⟨l,a,fun m hm=>(b m hm).1,by omega⟩
 ·have := (h.two hs).len
  omega
end
structure PkH (R : List Asrt) (p : Pkt) (ad : PAd) : Prop where
 d : ∃ y ∈ R,(∀ w,y.holds w → Rd w ad.da (bv p.d.msg.body)) ∧ ∀ k,rdFoot ad.da (bv p.d.msg.body) k → y.foot k
 t : ∃ y ∈ R,∀ w,y.holds w → Rd w ad.ta (iv p.t.ask)
 c : ∃ y ∈ R,∀ w,y.holds w → Rd w ad.ca (p.c.ents.flatMap Ent.cells)
 dz : ad.da = none → ad.dc = 0
 tz : ad.ta = none → ad.tc = 0
 cz : ad.ca = none → ad.cc = 0
 byt : Byt p.d.msg.body
 dl : p.d.msg.body.length ≤ 140737488351232
 tl : p.t.ask.length ≤ 17592186043904
 cl : p.c.ents.length ≤ 2932031007317
section
variable {w0 : World} {F : Nat → Prop} {R : List Asrt} {node : Int} {E : List EvD} {kept lo : Int} {n o : Nat}
set_option maxHeartbeats 4000000 in
theorem r137 (b : Nat) (S : Rg) (w : World) (h : Nd w0 F b S R w) (hI : Inv node E kept lo n o S) (hs : S.state = 2) (hn : n ≤ 29000) (ho : o ≤ 700000) :
  CallsTo Tryz.prog 137 [.pointer (some ⟨b,0,none⟩)] w fun v w'=>Nd w0 F b S.begin R w' := by
 obtain ⟨Z,hZ,h⟩ := h
 unfold Rg.begin
 dsimp only
 have hbo := begin_of (S := S) hs
 refine go_inS (n := 28) h Tryz.func137 rfl rfl ?_
 repeat'(first|(apply CW.reg_held (St w0 F (rgL b Z { S with begun := true } R)))|refine gz ?_)
 all_goals (
  apply DW.quiet [0,1,2,3,4,5,6,7,8,9,10,11]
  ·decide +kernel
  ·exact stZ
  repeat'(first|refine gq ?_|apply QL.nil)
  all_goals (show DW _ _ _ _ _ _ _ _))
 apply DP.begin []
 refine DP.more (PI.lr 16 2 [] (fun b=>.pointer (some ⟨b,0,none⟩)) (fun b=>[.own b (.cells [.int .i64 0,.int .i64 0,.int .i64 0,.int .i64 0,.int .i64 0,.int .i64 0,.int .i64 0,.int .i64 0,.slice none 0 0].toArray 54 (0,0))]) rfl (fun b x hx=>by simp only [List.mem_singleton] at hx;subst hx;rfl) ?_) ?_
 ·intro h w2
  apply kA
  ·exact rfl
  intro b
  apply kM
  exact At.made rfl
 refine DP.go 12 [16] [2] [[]] rfl rfl rfl rfl (by decide +kernel) ⟨trivial,fun _ _ _=>trivial,trivial⟩ (fun A w' hA=>St.sub hA (by simp only [List.cons_append,List.nil_append];repeat (first | exact List.sublist_append_left _ _ ))) ?_
 intro gg A LA hLA
 simp only [List.cons_append,List.nil_append] at hLA
 subst hLA
 repeat'(first|refine gw ?_|(apply kq;(·exact rfl);(·intro w1 h1;exact CallsTo.q (show CallsTo Tryz.prog 195 [.agg [.int .i64 S.next.cfg.rs,.int .i64 S.next.cfg.rr].toArray,.int .i64 S.next.cfg.stamp] w1 _ from t22 S.next.cfg.rs S.next.cfg.rr S.next.cfg.stamp w1) h1)))
 apply At.pdone (ds := [2]) rfl
 ·repeat (first | exact MixR.base _ | (apply MixR.upd;case hd=>exact rfl))
 ·repeat (first | exact Tl.app _ _ | apply Tl.cons)
 ·exact (fun A w' hA=>St.sub hA (by simp only [List.cons_append,List.nil_append];repeat (first | exact List.sublist_append_left _ _ )))
 refine DP.quiet [13,14,15] [16] [2] rfl rfl (by decide +kernel) (fun A w' hA=>St.sub hA (by simp only [List.cons_append,List.nil_append];repeat (first | exact List.sublist_append_left _ _ ))) (fun gg=>?_)
 repeat'(first|refine gq ?_|apply QL.nil)
 apply pq_done
 ·repeat (first | exact MixR.base _ | (apply MixR.upd;case hd=>exact rfl))
 refine DP.take 16 2 (fun b=>.pointer (some ⟨b,0,none⟩)) (fun b=>[.own b (.cells [.int .i64 0,.int .i64 0,.int .i64 0,.int .i64 0,.int .i64 0,.int .i64 0,.int .i64 0,.int .i64 0,.slice none 0 0].toArray 54 (0,0))]) [] [2] [[]] rfl rfl rfl rfl rfl rfl rfl (by decide +kernel) ⟨trivial,fun _ _ _=>trivial,trivial⟩ (fun A w' hA=>St.sub hA (by simp only [List.cons_append,List.nil_append];repeat (first | exact List.sublist_append_left _ _ ))) (fun bp2=>?_)
 refine DP.nil ?_
 refine DW.castL (by simp only [List.cons_append,List.nil_append];exact rfl) ?_
 all_goals (
  apply DW.loud 17
  ·exact rfl
  ·decide +kernel
  repeat'(first|refine gw ?_)
  all_goals (refine ats ?_))
 all_goals (
  apply DW.quiet [18]
  ·decide +kernel
  ·exact stZ
  repeat'(first|refine gq ?_|apply QL.nil)
  all_goals (show DW _ _ _ _ _ _ _ _))
 all_goals (first | (apply DW.done_thn;(·decide +kernel)) |fail)
 have hempty : (newTk S.next.cfg.rs S.next.cfg.rr S.next.cfg.stamp).1.ask = [] := by unfold newTk;split <;> rfl
 have htok := newTk_ok (r1 := S.next.cfg.rs) (r2 := S.next.cfg.rr) (s := S.next.cfg.stamp)
 generalize newTk S.next.cfg.rs S.next.cfg.rr S.next.cfg.stamp = tk at *
 repeat'(first|refine gz ?_|(refine gs ?_ ?_;all_goals(intro hc;try simp only[hcs]at hc;try exact abz)))
 ·have h0 : tk.2 = 0 := by assumption
  rw [if_pos h0]
  apply LR.call
  ·exact rfl
  intro w1 h1
  refine CallsTo.mono (r128 b { S with begun := true } tk.1 none 0 w1 ⟨Z,⟨hZ.q,hZ.ql,hZ.nd,hZ.gp,hZ.np,hZ.ap,hZ.pk,hZ.ev⟩,rg_mid [_] h1⟩ ((hI.begun true).vok hn ho (htok h0).1) (.inl hs) (fun w' hw'=>by rw [hempty];exact fun j v hj=>by simp [iv] at hj) (fun _=>rfl)) ?_
  rintro v w2 ⟨Z2,hZ2,hw2⟩
  refine LR.back hw2 ?_
  repeat'(first|refine gz ?_)
  apply end0
  ·exact rfl
  intro w' hS
  exact Nd.le (R := _ :: R) ⟨Z2,hZ2,hS⟩ (List.sublist_cons_self _ _)
 ·rw [if_neg (by assumption)]
  apply end0
  ·exact rfl
  intro w' hS
  exact ⟨Z,⟨hZ.q,hZ.ql,hZ.nd,hZ.gp,hZ.np,hZ.ap,hZ.pk,hZ.ev⟩,hS.sub subN⟩
theorem PkH.rd {p : Pkt} {ad : PAd} (h : PkH R p ad) {w : World} (hw : St w0 F R w) : PktR w p ad := by
 obtain ⟨y1,m1,r1,_⟩ := h.d
 obtain ⟨y2,m2,r2⟩ := h.t
 obtain ⟨y3,m3,r3⟩ := h.c
 exact ⟨r1 w (hw.holds y1 m1),h.dz,h.byt,h.dl,r2 w (hw.holds y2 m2),h.tz,h.tl,r3 w (hw.holds y3 m3),h.cz,h.cl⟩
set_option maxHeartbeats 8000000 in
theorem r78 (b : Nat) (S : Rg) (p : Pkt) (ad : PAd) (w : World) (h : Nd w0 F b S R w) (hI : Inv node E kept lo n o S) (hn : n ≤ 29000) (ho : o ≤ 700000) (ht : mayT p.t = true) (hP : PkH R p ad) :
  CallsTo Tryz.prog 78 [.pointer (some ⟨b,0,none⟩),p.val ad] w fun v w'=>Nd w0 F b (S.takeToken p.t.k) R w' := by
 obtain ⟨Z,hZ,h⟩ := h
 unfold Rg.takeToken
 refine go_inS (n := 49) h Tryz.func78 rfl rfl ?_
 by_cases hs : S.state = 2
 ·skip
  have ew : S.way = S.next := by unfold Rg.way;rw [if_pos hs]
  rw [ew]
  repeat'(first|(refine kB' fun b3=>?_)|(apply CW.reg_held (St w0 F (.own b3 (.cells (p.cells ad).toArray 63 (0,0)) :: rgL b Z S R)))|refine gz ?_)
  all_goals (
   apply DW.quiet [0,1,2]
   ·decide +kernel
   ·exact stZ
   repeat'(first|refine gq ?_|apply QL.nil)
   all_goals (show DW _ _ _ _ _ _ _ _))
  apply DP.begin []
  refine DP.more (PI.lr 4 4 [] (fun b=>.pointer (some ⟨b,0,none⟩)) (fun b=>[.own b (.cells [.int .i64 0,.int .i64 0,.int .i64 0,.int .i64 0,.int .i64 0,.int .i64 0,.int .i64 0,.int .i64 0,.slice none 0 0].toArray 54 (0,0))]) rfl (fun b x hx=>by simp only [List.mem_singleton] at hx;subst hx;rfl) ?_) ?_
  ·intro h w2
   apply kA
   ·exact rfl
   intro b
   apply kM
   exact At.made rfl
  refine DP.go 3 [4] [4] [[]] rfl rfl rfl rfl (by decide +kernel) ⟨trivial,fun _ _ _=>trivial,trivial⟩ (fun A w' hA=>St.sub hA (by simp only [List.cons_append,List.nil_append];repeat (first | exact List.sublist_append_left _ _ ))) ?_
  intro gg A LA hLA
  simp only [List.cons_append,List.nil_append] at hLA
  subst hLA
  repeat'(first|refine gw ?_|(apply kq;(·exact rfl);(·intro w1 h1;have hq := r127 b Z S w1 (rg_mid [_] h1);rw [if_pos hs] at hq;exact CallsTo.mono hq (fun v w' h=>⟨h.1,front h.2 14 rfl rfl⟩))))
  apply At.pdone (ds := [4]) rfl
  ·repeat (first | exact MixR.base _ | (apply MixR.upd;case hd=>exact rfl))
  ·repeat (first | exact Tl.app _ _ | apply Tl.cons)
  ·exact (fun A w' hA=>St.sub hA (by simp only [List.cons_append,List.nil_append];repeat (first | exact List.sublist_append_left _ _ )))
  refine DP.take 4 4 (fun b=>.pointer (some ⟨b,0,none⟩)) (fun b=>[.own b (.cells [.int .i64 0,.int .i64 0,.int .i64 0,.int .i64 0,.int .i64 0,.int .i64 0,.int .i64 0,.int .i64 0,.slice none 0 0].toArray 54 (0,0))]) [] [4] [[]] rfl rfl rfl rfl rfl rfl rfl (by decide +kernel) ⟨trivial,fun _ _ _=>trivial,trivial⟩ (fun A w' hA=>St.sub hA (by simp only [List.cons_append,List.nil_append];repeat (first | exact List.sublist_append_left _ _ ))) (fun bp4=>?_)
  refine DP.nil ?_
  refine DW.castL (by simp only [List.cons_append,List.nil_append];exact rfl) ?_
  all_goals (
   apply DW.loud 5
   ·exact rfl
   ·decide +kernel
   repeat'(first|refine gw ?_)
   all_goals (refine ats ?_))
  all_goals (
   apply DW.quiet [6]
   ·decide +kernel
   ·exact stZ
   repeat'(first|refine gq ?_|apply QL.nil)
   all_goals (show DW _ _ _ _ _ _ _ _))
  all_goals (first | (apply DW.done_thn;(·decide +kernel)) |fail)
  repeat'(first|refine gz ?_|(refine gs ?_ ?_;all_goals(intro hc;try simp only[hcs]at hc;try exact abz)))
  all_goals (
   first
    | (apply end0
       ·exact rfl
       intro w' hS
       rw [if_neg (by
        rintro ⟨h7,h8,h9,h10⟩
        unfold maxN at h10
        have h9b : S.next.hop < p.t.hop := h9
        have h10b : p.t.hop < 9007199254740991 := h10
        first
         | omega
         | exact absurd h8 (by assumption))]
       exact ⟨Z,hZ,hS.sub subN⟩)
    | skip)
  all_goals (
   have hok : (S.state = 3 ∨ S.state = 2) ∧ (p.t.k.r1 = S.next.cfg.rs ∧ p.t.k.r2 = S.next.cfg.rr) ∧ S.next.hop < p.t.k.hop ∧ p.t.k.hop < maxN := ⟨by omega,by assumption,(show S.next.hop < p.t.hop by omega),(show p.t.hop < maxN by unfold maxN;omega)⟩
   rw [if_pos hok]
   apply LR.call
   ·exact rfl
   intro w1 h1
   refine CallsTo.mono (r128 b S p.t.k ad.ta ad.tc w1 ⟨Z,hZ,rg_mid [_,_] h1⟩ (hI.vok hn ho (tok_ok ht)) (by omega) (fun w' hw'=>(hP.rd (hw'.sub subN)).ht) hP.tz) ?_
   rintro v w2 ⟨Z2,hZ2,hw2⟩
   refine LR.back hw2 ?_
   repeat'(first|refine gz ?_)
   apply end0
   ·exact rfl
   intro w' hS
   exact Nd.le (R := _ :: _ :: R) ⟨Z2,hZ2,hS⟩ ((List.sublist_cons_self _ _).trans (List.sublist_cons_self _ _)))
 ·skip
  have ew : S.way = S.now := by unfold Rg.way;rw [if_neg hs]
  rw [ew]
  repeat'(first|(refine kB' fun b3=>?_)|(apply CW.reg_held (St w0 F (.own b3 (.cells (p.cells ad).toArray 63 (0,0)) :: rgL b Z S R)))|refine gz ?_)
  all_goals (
   apply DW.quiet [0,1,2]
   ·decide +kernel
   ·exact stZ
   repeat'(first|refine gq ?_|apply QL.nil)
   all_goals (show DW _ _ _ _ _ _ _ _))
  apply DP.begin []
  refine DP.more (PI.lr 4 4 [] (fun b=>.pointer (some ⟨b,0,none⟩)) (fun b=>[.own b (.cells [.int .i64 0,.int .i64 0,.int .i64 0,.int .i64 0,.int .i64 0,.int .i64 0,.int .i64 0,.int .i64 0,.slice none 0 0].toArray 54 (0,0))]) rfl (fun b x hx=>by simp only [List.mem_singleton] at hx;subst hx;rfl) ?_) ?_
  ·intro h w2
   apply kA
   ·exact rfl
   intro b
   apply kM
   exact At.made rfl
  refine DP.go 3 [4] [4] [[]] rfl rfl rfl rfl (by decide +kernel) ⟨trivial,fun _ _ _=>trivial,trivial⟩ (fun A w' hA=>St.sub hA (by simp only [List.cons_append,List.nil_append];repeat (first | exact List.sublist_append_left _ _ ))) ?_
  intro gg A LA hLA
  simp only [List.cons_append,List.nil_append] at hLA
  subst hLA
  repeat'(first|refine gw ?_|(apply kq;(·exact rfl);(·intro w1 h1;have hq := r127 b Z S w1 (rg_mid [_] h1);rw [if_neg hs] at hq;exact CallsTo.mono hq (fun v w' h=>⟨h.1,front h.2 14 rfl rfl⟩))))
  apply At.pdone (ds := [4]) rfl
  ·repeat (first | exact MixR.base _ | (apply MixR.upd;case hd=>exact rfl))
  ·repeat (first | exact Tl.app _ _ | apply Tl.cons)
  ·exact (fun A w' hA=>St.sub hA (by simp only [List.cons_append,List.nil_append];repeat (first | exact List.sublist_append_left _ _ )))
  refine DP.take 4 4 (fun b=>.pointer (some ⟨b,0,none⟩)) (fun b=>[.own b (.cells [.int .i64 0,.int .i64 0,.int .i64 0,.int .i64 0,.int .i64 0,.int .i64 0,.int .i64 0,.int .i64 0,.slice none 0 0].toArray 54 (0,0))]) [] [4] [[]] rfl rfl rfl rfl rfl rfl rfl (by decide +kernel) ⟨trivial,fun _ _ _=>trivial,trivial⟩ (fun A w' hA=>St.sub hA (by simp only [List.cons_append,List.nil_append];repeat (first | exact List.sublist_append_left _ _ ))) (fun bp4=>?_)
  refine DP.nil ?_
  refine DW.castL (by simp only [List.cons_append,List.nil_append];exact rfl) ?_
  all_goals (
   apply DW.loud 5
   ·exact rfl
   ·decide +kernel
   repeat'(first|refine gw ?_)
   all_goals (refine ats ?_))
  all_goals (
   apply DW.quiet [6]
   ·decide +kernel
   ·exact stZ
   repeat'(first|refine gq ?_|apply QL.nil)
   all_goals (show DW _ _ _ _ _ _ _ _))
  all_goals (first | (apply DW.done_thn;(·decide +kernel)) |fail)
  repeat'(first|refine gz ?_|(refine gs ?_ ?_;all_goals(intro hc;try simp only[hcs]at hc;try exact abz)))
  all_goals (
   first
    | (apply end0
       ·exact rfl
       intro w' hS
       rw [if_neg (by
        rintro ⟨h7,h8,h9,h10⟩
        unfold maxN at h10
        have h9b : S.now.hop < p.t.hop := h9
        have h10b : p.t.hop < 9007199254740991 := h10
        first
         | omega
         | exact absurd h8 (by assumption))]
       exact ⟨Z,hZ,hS.sub subN⟩)
    | skip)
  all_goals (
   have hok : (S.state = 3 ∨ S.state = 2) ∧ (p.t.k.r1 = S.now.cfg.rs ∧ p.t.k.r2 = S.now.cfg.rr) ∧ S.now.hop < p.t.k.hop ∧ p.t.k.hop < maxN := ⟨by omega,by assumption,(show S.now.hop < p.t.hop by omega),(show p.t.hop < maxN by unfold maxN;omega)⟩
   rw [if_pos hok]
   apply LR.call
   ·exact rfl
   intro w1 h1
   refine CallsTo.mono (r128 b S p.t.k ad.ta ad.tc w1 ⟨Z,hZ,rg_mid [_,_] h1⟩ (hI.vok hn ho (tok_ok ht)) (by omega) (fun w' hw'=>(hP.rd (hw'.sub subN)).ht) hP.tz) ?_
   rintro v w2 ⟨Z2,hZ2,hw2⟩
   refine LR.back hw2 ?_
   repeat'(first|refine gz ?_)
   apply end0
   ·exact rfl
   intro w' hS
   exact Nd.le (R := _ :: _ :: R) ⟨Z2,hZ2,hS⟩ ((List.sublist_cons_self _ _).trans (List.sublist_cons_self _ _)))
end
section
variable {w0 : World} {F : Nat → Prop} {R : List Asrt} {node : Int} {E : List EvD} {kept lo : Int} {n o : Nat}
set_option maxHeartbeats 8000000 in
theorem r77 (b : Nat) (S : Rg) (p : Pkt) (ad : PAd) (w : World) (h : Nd w0 F b S R w) (hI : Inv node E kept lo n o S) (hn : n ≤ 29000) (ho : o ≤ 700000) (hd : mayD p.d = true) (hP : PkH R p ad) :
  CallsTo Tryz.prog 77 [.pointer (some ⟨b,0,none⟩),p.val ad] w fun v w'=>Nd w0 F b (S.takeData p.d) R w' := by
 obtain ⟨A,hA,h⟩ := h
 obtain ⟨y,hy,hyr,hyf⟩ := hP.d
 have hst := hI.st
 obtain ⟨s,hs⟩ : ∃ s,S.state = s := ⟨_,rfl⟩
 have hs4 : s = 3 ∨ s = 0 ∨ s = 1 ∨ s = 2 := by omega
 refine go_inS (n := 98) h Tryz.func77 rfl rfl ?_
 rcases hs4 with rfl | rfl | rfl | rfl
 ·cases hof : S.now.of p.d
  ·have e : S.takeData p.d = S.foreign p.d.rseq p.d.rrep p.d.sender := by
    unfold Rg.takeData
    rw [if_neg (by rw [hof];simp),if_neg (by omega)]
   rw [e]
   clear e hst
   unfold Way.of at hof
   repeat'(first|refine gz ?_|refine gy fun _=>?_|(apply kq;(·exact rfl);(·intro w1 h1;first | (have hq := r122 b 6 S.now.cfg p.d ad.da ad.dc w1 (h1.rd_at (cs := cellsR A S) (E := 94) (fr := (0,0)) memZ 6 7);rw [hof] at hq;exact CallsTo.q (show CallsTo Tryz.prog 122 [.pointer (some ⟨b,6,none⟩),p.d.val ad.da ad.dc] w1 _ from hq) h1) ))|(refine gs ?_ ?_;all_goals(intro hc;try simp only[hcs]at hc;try exact abz)))
   apply LR.call
   ·exact rfl
   intro w1 h1
   refine CallsTo.mono (r126 b S p.d.rseq p.d.rrep p.d.sender w1 ⟨A,hA,rg_mid [_,_] h1⟩ hI.nodeR hI.numB (by have := hI.op;omega)) ?_
   rintro v w2 ⟨A3,hA3,hw2⟩
   refine LR.back hw2 ?_
   repeat'(first|refine gz ?_)
   apply end0
   ·exact rfl
   intro w' hS
   exact Nd.le (R := _ :: _ :: R) ⟨A3,hA3,hS⟩ ((List.sublist_cons_self _ _).trans (List.sublist_cons_self _ _))
  ·skip
   have e : S.takeData p.d = ((({ S with now := S.now.put p.d } : Rg).raise p.d.stamp).raise p.d.msg.stamp).deliver := by unfold Rg.takeData;rw [if_pos ⟨by omega,hof⟩]
   rw [e]
   clear e hst
   unfold Way.of at hof
   have eD := now_D hA
   have hes : WOk (dats A.es) := by rw [← eD];exact hI.c.wn.ok
   repeat'(first|(apply CW.reg_sinkC 6;(·exact rfl);(·decide +kernel))|refine gz ?_|refine gy fun _=>?_|(apply kq;(·exact rfl);(·intro w1 h1;first | (have hq := r122 b 6 S.now.cfg p.d ad.da ad.dc w1 (h1.rd_at (cs := cellsR A S) (E := 94) (fr := (0,0)) memZ 6 7);rw [hof] at hq;exact CallsTo.q (show CallsTo Tryz.prog 122 [.pointer (some ⟨b,6,none⟩),p.d.val ad.da ad.dc] w1 _ from hq) h1) ))|(refine gs ?_ ?_;all_goals(intro hc;try simp only[hcs]at hc;try exact abz)))
   all_goals (
    apply DW.quiet [0,1,2,3,4,5]
    ·decide +kernel
    ·exact stZ
    repeat'(first|refine gq ?_|apply QL.nil)
    all_goals (show DW _ _ _ _ _ _ _ _))
   all_goals (apply DW.done;(·decide +kernel))
   all_goals apply At.sink
   apply LR.call
   ·exact rfl
   intro w1 h1
   have hap := St.apart (x := wO A.bw A.bm A.es S.now.aru S.now.high) (h1.sub (L' := wO A.bw A.bm A.es S.now.aru S.now.high :: R) subN) hy rfl
   refine CallsTo.mono (show CallsTo Tryz.prog 123 [.pointer (some ⟨A.bw,0,none⟩),p.d.val ad.da ad.dc] w1 _ from t29 A.bw A.bm A.es S.now.aru S.now.high p.d ad.da ad.dc w1 (h1.holds (wO A.bw A.bm A.es S.now.aru S.now.high) memZ) hes (by have h9 := aruF_is hes;rw [← eD] at h9 ⊢;exact h9) (hyr w1 (h1.holds y (by repeat (first | exact hy | apply List.Mem.tail)))) hP.dz (fun k hk hk2=>hap k hk2 (hyf k hk)) hP.dl) ?_
   rintro v w2 ⟨es2,ar2,rfl,he2,har,st3⟩
   refine LR.back (h1.did (a := wO A.bw A.bm A.es S.now.aru S.now.high) selZ rfl st3 (wO_dep _ _ _ _ _)) ?_
   clear st3 h1 hap
   repeat'(first|(apply Go.Hb.kK;(iterate 4 exact rfl);intro bs)|refine gz ?_)
   apply LR.call
   ·exact rfl
   intro w1 h1
   have hDn := wpD_ok (d := p.d) hes hP.dl
   have ear : ar2 = aruF (wpD (dats A.es) p.d) := har.uniq (aruF_is hDn)
   have hpd := put_dat (d := p.d) hA.nd
   obtain ⟨eDn,eh,ea⟩ := way_D hpd
   rw [ear,← ea,← eh] at h1
   have j : St w0 F (rgL b { A with es := es2 } { S with now := S.now.put p.d } (_ :: _ :: _ :: R)) w1 := rg_mid [_,_,_] h1
   refine CallsTo.mono (r57 b _ { S with now := S.now.put p.d } bs 0 2 [p.d.stamp,p.d.msg.stamp] w1 j (fun w' hw'=>hw'.rd_of_blk (mH _ _)) (by simp)) ?_
   intro v w2 hw2
   have hZ3 : RepA { A with es := es2 } ((({ S with now := S.now.put p.d } : Rg).raise p.d.stamp).raise p.d.msg.stamp) :=
    ⟨hA.q,hA.ql,by show (S.now.put p.d).dat = some (dats es2,(S.now.put p.d).high);rw [hpd,he2,eh],hA.gp,hA.np,hA.ap,hA.pk,hA.ev⟩
   refine LR.back (C := St w0 F (rgL b { A with es := es2 } ((({ S with now := S.now.put p.d } : Rg).raise p.d.stamp).raise p.d.msg.stamp) (_ :: _ :: _ :: R))) hw2 ?_
   clear hw2 j h1
   repeat'(first|refine gz ?_)
   apply LR.call
   ·exact rfl
   intro w1 h1
   have hpl := (hI.c.wn.put p.d hP.dl).2.2.1
   have hnl := hI.c.len
   refine CallsTo.mono (r124 b ((({ S with now := S.now.put p.d } : Rg).raise p.d.stamp).raise p.d.msg.stamp) w1 ⟨_,hZ3,h1⟩ (by show WOk (S.now.put p.d).D;rw [eDn];exact hDn) (by show (S.now.put p.d).D.length ≤ _;omega) hI.c.done (by show S.oe.length ≤ _;have := hI.oe;omega)) ?_
   rintro v w2 ⟨A3,hA3,hw2⟩
   refine LR.back hw2 ?_
   repeat'(first|refine gz ?_)
   apply end0
   ·exact rfl
   intro w' hS
   exact Nd.le (R := _ :: _ :: _ :: R) ⟨A3,hA3,hS⟩ ((List.sublist_cons_self _ _).trans ((List.sublist_cons_self _ _).trans (List.sublist_cons_self _ _)))
 ·cases hof : S.now.of p.d
  ·have e : S.takeData p.d = S.foreign p.d.rseq p.d.rrep p.d.sender := by
    unfold Rg.takeData
    rw [if_neg (by rw [hof];simp),if_neg (by omega)]
   rw [e]
   clear e hst
   unfold Way.of at hof
   repeat'(first|refine gz ?_|refine gy fun _=>?_|(apply kq;(·exact rfl);(·intro w1 h1;first | (have hq := r122 b 6 S.now.cfg p.d ad.da ad.dc w1 (h1.rd_at (cs := cellsR A S) (E := 94) (fr := (0,0)) memZ 6 7);rw [hof] at hq;exact CallsTo.q (show CallsTo Tryz.prog 122 [.pointer (some ⟨b,6,none⟩),p.d.val ad.da ad.dc] w1 _ from hq) h1) ))|(refine gs ?_ ?_;all_goals(intro hc;try simp only[hcs]at hc;try exact abz)))
   apply LR.call
   ·exact rfl
   intro w1 h1
   refine CallsTo.mono (r126 b S p.d.rseq p.d.rrep p.d.sender w1 ⟨A,hA,rg_mid [_,_] h1⟩ hI.nodeR hI.numB (by have := hI.op;omega)) ?_
   rintro v w2 ⟨A3,hA3,hw2⟩
   refine LR.back hw2 ?_
   repeat'(first|refine gz ?_)
   apply end0
   ·exact rfl
   intro w' hS
   exact Nd.le (R := _ :: _ :: R) ⟨A3,hA3,hS⟩ ((List.sublist_cons_self _ _).trans (List.sublist_cons_self _ _))
  ·skip
   have e : S.takeData p.d = ((({ S with now := S.now.put p.d } : Rg).raise p.d.stamp).raise p.d.msg.stamp).deliver := by unfold Rg.takeData;rw [if_pos ⟨by omega,hof⟩]
   rw [e]
   clear e hst
   unfold Way.of at hof
   have eD := now_D hA
   have hes : WOk (dats A.es) := by rw [← eD];exact hI.c.wn.ok
   repeat'(first|(apply CW.reg_sinkC 6;(·exact rfl);(·decide +kernel))|refine gz ?_|refine gy fun _=>?_|(apply kq;(·exact rfl);(·intro w1 h1;first | (have hq := r122 b 6 S.now.cfg p.d ad.da ad.dc w1 (h1.rd_at (cs := cellsR A S) (E := 94) (fr := (0,0)) memZ 6 7);rw [hof] at hq;exact CallsTo.q (show CallsTo Tryz.prog 122 [.pointer (some ⟨b,6,none⟩),p.d.val ad.da ad.dc] w1 _ from hq) h1) ))|(refine gs ?_ ?_;all_goals(intro hc;try simp only[hcs]at hc;try exact abz)))
   all_goals (
    apply DW.quiet [0,1,2,3,4,5]
    ·decide +kernel
    ·exact stZ
    repeat'(first|refine gq ?_|apply QL.nil)
    all_goals (show DW _ _ _ _ _ _ _ _))
   all_goals (apply DW.done;(·decide +kernel))
   all_goals apply At.sink
   apply LR.call
   ·exact rfl
   intro w1 h1
   have hap := St.apart (x := wO A.bw A.bm A.es S.now.aru S.now.high) (h1.sub (L' := wO A.bw A.bm A.es S.now.aru S.now.high :: R) subN) hy rfl
   refine CallsTo.mono (show CallsTo Tryz.prog 123 [.pointer (some ⟨A.bw,0,none⟩),p.d.val ad.da ad.dc] w1 _ from t29 A.bw A.bm A.es S.now.aru S.now.high p.d ad.da ad.dc w1 (h1.holds (wO A.bw A.bm A.es S.now.aru S.now.high) memZ) hes (by have h9 := aruF_is hes;rw [← eD] at h9 ⊢;exact h9) (hyr w1 (h1.holds y (by repeat (first | exact hy | apply List.Mem.tail)))) hP.dz (fun k hk hk2=>hap k hk2 (hyf k hk)) hP.dl) ?_
   rintro v w2 ⟨es2,ar2,rfl,he2,har,st3⟩
   refine LR.back (h1.did (a := wO A.bw A.bm A.es S.now.aru S.now.high) selZ rfl st3 (wO_dep _ _ _ _ _)) ?_
   clear st3 h1 hap
   repeat'(first|(apply Go.Hb.kK;(iterate 4 exact rfl);intro bs)|refine gz ?_)
   apply LR.call
   ·exact rfl
   intro w1 h1
   have hDn := wpD_ok (d := p.d) hes hP.dl
   have ear : ar2 = aruF (wpD (dats A.es) p.d) := har.uniq (aruF_is hDn)
   have hpd := put_dat (d := p.d) hA.nd
   obtain ⟨eDn,eh,ea⟩ := way_D hpd
   rw [ear,← ea,← eh] at h1
   have j : St w0 F (rgL b { A with es := es2 } { S with now := S.now.put p.d } (_ :: _ :: _ :: R)) w1 := rg_mid [_,_,_] h1
   refine CallsTo.mono (r57 b _ { S with now := S.now.put p.d } bs 0 2 [p.d.stamp,p.d.msg.stamp] w1 j (fun w' hw'=>hw'.rd_of_blk (mH _ _)) (by simp)) ?_
   intro v w2 hw2
   have hZ3 : RepA { A with es := es2 } ((({ S with now := S.now.put p.d } : Rg).raise p.d.stamp).raise p.d.msg.stamp) :=
    ⟨hA.q,hA.ql,by show (S.now.put p.d).dat = some (dats es2,(S.now.put p.d).high);rw [hpd,he2,eh],hA.gp,hA.np,hA.ap,hA.pk,hA.ev⟩
   refine LR.back (C := St w0 F (rgL b { A with es := es2 } ((({ S with now := S.now.put p.d } : Rg).raise p.d.stamp).raise p.d.msg.stamp) (_ :: _ :: _ :: R))) hw2 ?_
   clear hw2 j h1
   repeat'(first|refine gz ?_)
   apply LR.call
   ·exact rfl
   intro w1 h1
   have hpl := (hI.c.wn.put p.d hP.dl).2.2.1
   have hnl := hI.c.len
   refine CallsTo.mono (r124 b ((({ S with now := S.now.put p.d } : Rg).raise p.d.stamp).raise p.d.msg.stamp) w1 ⟨_,hZ3,h1⟩ (by show WOk (S.now.put p.d).D;rw [eDn];exact hDn) (by show (S.now.put p.d).D.length ≤ _;omega) hI.c.done (by show S.oe.length ≤ _;have := hI.oe;omega)) ?_
   rintro v w2 ⟨A3,hA3,hw2⟩
   refine LR.back hw2 ?_
   repeat'(first|refine gz ?_)
   apply end0
   ·exact rfl
   intro w' hS
   exact Nd.le (R := _ :: _ :: _ :: R) ⟨A3,hA3,hS⟩ ((List.sublist_cons_self _ _).trans ((List.sublist_cons_self _ _).trans (List.sublist_cons_self _ _)))
 ·have e : S.takeData p.d = S.foreign p.d.rseq p.d.rrep p.d.sender := by
   unfold Rg.takeData
   rw [if_neg (by omega),if_neg (by omega)]
  rw [e]
  clear e hst
  repeat'(first|refine gz ?_|refine gy fun _=>?_|(refine gs ?_ ?_;all_goals(intro hc;try simp only[hcs]at hc;try exact abz)))
  apply LR.call
  ·exact rfl
  intro w1 h1
  refine CallsTo.mono (r126 b S p.d.rseq p.d.rrep p.d.sender w1 ⟨A,hA,rg_mid [_,_] h1⟩ hI.nodeR hI.numB (by have := hI.op;omega)) ?_
  rintro v w2 ⟨A3,hA3,hw2⟩
  refine LR.back hw2 ?_
  repeat'(first|refine gz ?_)
  apply end0
  ·exact rfl
  intro w' hS
  exact Nd.le (R := _ :: _ :: R) ⟨A3,hA3,hS⟩ ((List.sublist_cons_self _ _).trans (List.sublist_cons_self _ _))
 ·cases hof : S.now.of p.d <;> cases hox : S.next.of p.d
  ·have e : S.takeData p.d = S.foreign p.d.rseq p.d.rrep p.d.sender := by
    unfold Rg.takeData
    rw [if_neg (by omega),if_neg (by rw [hox];simp)]
   rw [e]
   clear e hst
   unfold Way.of at hof hox
   repeat'(first|refine gz ?_|refine gy fun _=>?_|(apply kq;(·exact rfl);(·intro w1 h1;first | (have hq := r122 b 19 S.next.cfg p.d ad.da ad.dc w1 (h1.rd_at (cs := cellsR A S) (E := 94) (fr := (0,0)) memZ 19 7);rw [hox] at hq;exact CallsTo.q (show CallsTo Tryz.prog 122 [.pointer (some ⟨b,19,none⟩),p.d.val ad.da ad.dc] w1 _ from hq) h1)))|(refine gs ?_ ?_;all_goals(intro hc;try simp only[hcs]at hc;try exact abz)))
   apply LR.call
   ·exact rfl
   intro w1 h1
   refine CallsTo.mono (r126 b S p.d.rseq p.d.rrep p.d.sender w1 ⟨A,hA,rg_mid [_,_] h1⟩ hI.nodeR hI.numB (by have := hI.op;omega)) ?_
   rintro v w2 ⟨A3,hA3,hw2⟩
   refine LR.back hw2 ?_
   repeat'(first|refine gz ?_)
   apply end0
   ·exact rfl
   intro w' hS
   exact Nd.le (R := _ :: _ :: R) ⟨A3,hA3,hS⟩ ((List.sublist_cons_self _ _).trans (List.sublist_cons_self _ _))
  ·skip
   have t2 := hI.two hs
   obtain ⟨q,hq,hpd0⟩ := hA.nxt t2.w.dat
   obtain ⟨Y,rfl⟩ : ∃ Y : RA,A = { Y with np := some q } := ⟨A,by rw [← hq]⟩
   clear hq
   have eD : S.next.D = dats q.2.2 := by unfold Way.D;rw [hpd0]
   have hes : WOk (dats q.2.2) := by rw [← eD];exact t2.w.ok
   have eDw := now_D hA
   have hesw : WOk (dats Y.es) := by rw [show dats Y.es = S.now.D from eDw.symm];exact hI.c.wn.ok
   have e : S.takeData p.d = (if p.d.msg.kind = 5 then { ((({ S with next := S.next.put p.d } : Rg).raise p.d.stamp).raise p.d.msg.stamp) with now := { S.now with dat := S.now.dat.map fun x=>(tkD S.now.cfg.rs S.now.cfg.rr x.1 p.d.msg,tkH S.now.cfg.rs S.now.cfg.rr x.1 x.2 p.d.msg) } } else ((({ S with next := S.next.put p.d } : Rg).raise p.d.stamp).raise p.d.msg.stamp)) := by
    unfold Rg.takeData
    rw [if_neg (by omega),if_pos ⟨hs,hox⟩]
    rfl
   rw [e]
   clear e hst
   unfold Way.of at hof hox
   repeat'(first|(apply CW.reg_sinkC 6;(·exact rfl);(·decide +kernel))|refine gz ?_|refine gy fun _=>?_|(apply kq;(·exact rfl);(·intro w1 h1;first | (have hq := r122 b 19 S.next.cfg p.d ad.da ad.dc w1 (h1.rd_at (cs := cellsR { Y with np := some q } S) (E := 94) (fr := (0,0)) memZ 19 7);rw [hox] at hq;exact CallsTo.q (show CallsTo Tryz.prog 122 [.pointer (some ⟨b,19,none⟩),p.d.val ad.da ad.dc] w1 _ from hq) h1)))|(refine gs ?_ ?_;all_goals(intro hc;try simp only[hcs]at hc;try exact abz)))
   all_goals (
    apply DW.quiet [0,1,2,3,4,5]
    ·decide +kernel
    ·exact stZ
    repeat'(first|refine gq ?_|apply QL.nil)
    all_goals (show DW _ _ _ _ _ _ _ _))
   all_goals (apply DW.done;(·decide +kernel))
   all_goals apply At.sink
   apply LR.call
   ·exact rfl
   intro w1 h1
   have hap := St.apart (x := wO q.1 q.2.1 q.2.2 S.next.aru S.next.high) (h1.sub (L' := wO q.1 q.2.1 q.2.2 S.next.aru S.next.high :: R) subN) hy rfl
   refine CallsTo.mono (show CallsTo Tryz.prog 123 [.pointer (some ⟨q.1,0,none⟩),p.d.val ad.da ad.dc] w1 _ from t29 q.1 q.2.1 q.2.2 S.next.aru S.next.high p.d ad.da ad.dc w1 (h1.holds (wO q.1 q.2.1 q.2.2 S.next.aru S.next.high) memZ) hes (by have h9 := aruF_is hes;rw [← eD] at h9 ⊢;exact h9) (hyr w1 (h1.holds y (by repeat (first | exact hy | apply List.Mem.tail)))) hP.dz (fun k hk hk2=>hap k hk2 (hyf k hk)) hP.dl) ?_
   rintro v w2 ⟨es2,ar2,rfl,he2,har,st3⟩
   refine LR.back (h1.did (a := wO q.1 q.2.1 q.2.2 S.next.aru S.next.high) selZ rfl st3 (wO_dep _ _ _ _ _)) ?_
   clear st3 h1 hap
   repeat'(first|(apply Go.Hb.kK;(iterate 4 exact rfl);intro bs)|refine gz ?_)
   apply LR.call
   ·exact rfl
   intro w1 h1
   have hDn := wpD_ok (d := p.d) hes hP.dl
   have ear : ar2 = aruF (wpD (dats q.2.2) p.d) := har.uniq (aruF_is hDn)
   have hpd := put_dat (d := p.d) hpd0
   obtain ⟨eDn,eh,ea⟩ := way_D hpd
   rw [ear,← ea,← eh] at h1
   have j : St w0 F (rgL b { Y with np := some (q.1,q.2.1,es2) } { S with next := S.next.put p.d } (_ :: _ :: _ :: R)) w1 := rg_mid [_,_,_] h1
   refine CallsTo.mono (r57 b _ { S with next := S.next.put p.d } bs 0 2 [p.d.stamp,p.d.msg.stamp] w1 j (fun w' hw'=>hw'.rd_of_blk (mH _ _)) (by simp)) ?_
   intro v w2 hw2
   have hZ3 : RepA { Y with np := some (q.1,q.2.1,es2) } ((({ S with next := S.next.put p.d } : Rg).raise p.d.stamp).raise p.d.msg.stamp) :=
    ⟨hA.q,hA.ql,hA.nd,hA.gp,by show (S.next.put p.d).dat = some (dats es2,(S.next.put p.d).high);rw [hpd,he2,eh],hA.ap,hA.pk,hA.ev⟩
   refine LR.back (C := St w0 F (rgL b { Y with np := some (q.1,q.2.1,es2) } ((({ S with next := S.next.put p.d } : Rg).raise p.d.stamp).raise p.d.msg.stamp) (_ :: _ :: _ :: R))) hw2 ?_
   clear hw2 j h1
   generalize hS3 : (({ S with next := S.next.put p.d } : Rg).raise p.d.stamp).raise p.d.msg.stamp = S3 at *
   have n3 : S3.now = S.now := by rw [← hS3];rfl
   rw [← n3] at eDw ⊢
   by_cases h5 : p.d.msg.kind = 5
   rotate_left
   ·rw [if_neg h5]
    repeat'(first|refine gz ?_|(refine gs ?_ ?_;all_goals(intro hc;try simp only[hcs]at hc;try exact abz)))
    apply end0
    ·exact rfl
    intro w' hS
    exact Nd.le (R := _ :: _ :: _ :: R) ⟨_,hZ3,hS⟩ ((List.sublist_cons_self _ _).trans ((List.sublist_cons_self _ _).trans (List.sublist_cons_self _ _)))
   rw [if_pos h5]
   repeat'(first|(apply CW.reg_sinkC 13;(·exact rfl);(·decide +kernel))|refine gz ?_|(refine gs ?_ ?_;all_goals(intro hc;try simp only[hcs]at hc;try exact abz)))
   all_goals (
    apply DW.quiet [0,1,2,3,4,5,6,7,8,9,10,11,12]
    ·decide +kernel
    ·exact stZ
    repeat'(first|refine gq ?_|apply QL.nil)
    all_goals (show DW _ _ _ _ _ _ _ _))
   all_goals (apply DW.done;(·decide +kernel))
   all_goals apply At.sink
   apply LR.call
   ·exact rfl
   intro w1 h1
   have hap := St.apart (x := wO Y.bw Y.bm Y.es S3.now.aru S3.now.high) (h1.sub (L' := wO Y.bw Y.bm Y.es S3.now.aru S3.now.high :: R) subN) hy rfl
   have hin := inner_bd hP.byt
   refine CallsTo.mono (show CallsTo Tryz.prog 125 [.pointer (some ⟨Y.bw,0,none⟩),.agg [.int .i64 S3.now.cfg.rs,.int .i64 S3.now.cfg.rr].toArray,p.d.msg.val ad.da ad.dc] w1 _ from g42 Y.bw Y.bm Y.es S3.now.aru S3.now.high S3.now.cfg.rs S3.now.cfg.rr p.d.msg ad.da ad.dc w1 (h1.holds (wO Y.bw Y.bm Y.es S3.now.aru S3.now.high) memZ) hesw (by have h9 := aruF_is hesw;rw [← eDw] at h9 ⊢;exact h9) (hyr w1 (h1.holds y (by repeat (first | exact hy | apply List.Mem.tail)))) hP.dz (fun k hk hk2=>hap k hk2 (hyf k hk)) (by have := hP.dl;omega) hP.byt (by have := hin.2;omega)) ?_
   rintro v w2 ⟨es3,ar3,rfl,he3,har3,st3⟩
   refine LR.back (h1.did (a := wO Y.bw Y.bm Y.es S3.now.aru S3.now.high) selZ rfl st3 (wO_dep _ _ _ _ _)) ?_
   clear st3 h1 hap
   repeat'(first|refine gz ?_)
   apply end0
   ·exact rfl
   intro w' hS
   have hdn : ({ S3.now with dat := S3.now.dat.map fun x=>(tkD S3.now.cfg.rs S3.now.cfg.rr x.1 p.d.msg,tkH S3.now.cfg.rs S3.now.cfg.rr x.1 x.2 p.d.msg) } : Way).dat = some (tkD S3.now.cfg.rs S3.now.cfg.rr (dats Y.es) p.d.msg,tkH S3.now.cfg.rs S3.now.cfg.rr (dats Y.es) S3.now.high p.d.msg) := by
    dsimp only
    rw [show S3.now.dat = some (dats Y.es,S3.now.high) from hZ3.nd]
    rfl
   obtain ⟨g1,g2,g3⟩ := way_D hdn
   have gok : WOk (tkD S3.now.cfg.rs S3.now.cfg.rr (dats Y.es) p.d.msg) := by
    unfold tkD
    split
    ·exact wpD_ok hesw (by have := hin.2;omega)
    ·exact hesw
   have ear3 : ar3 = aruF (tkD S3.now.cfg.rs S3.now.cfg.rr (dats Y.es) p.d.msg) := har3.uniq (aruF_is gok)
   rw [ear3,← g3,← g2] at hS
   refine Nd.le (R := _ :: _ :: _ :: R) ⟨{ Y with np := some (q.1,q.2.1,es2),es := es3 },⟨hZ3.q,hZ3.ql,?_,hZ3.gp,hZ3.np,hZ3.ap,hZ3.pk,hZ3.ev⟩,hS⟩ ((List.sublist_cons_self _ _).trans ((List.sublist_cons_self _ _).trans (List.sublist_cons_self _ _)))
   show _ = some (dats es3,_)
   rw [hdn,he3,g2]
  ·have e : S.takeData p.d = S.foreign p.d.rseq p.d.rrep p.d.sender := by
    unfold Rg.takeData
    rw [if_neg (by omega),if_neg (by rw [hox];simp)]
   rw [e]
   clear e hst
   unfold Way.of at hof hox
   repeat'(first|refine gz ?_|refine gy fun _=>?_|(apply kq;(·exact rfl);(·intro w1 h1;first | (have hq := r122 b 19 S.next.cfg p.d ad.da ad.dc w1 (h1.rd_at (cs := cellsR A S) (E := 94) (fr := (0,0)) memZ 19 7);rw [hox] at hq;exact CallsTo.q (show CallsTo Tryz.prog 122 [.pointer (some ⟨b,19,none⟩),p.d.val ad.da ad.dc] w1 _ from hq) h1)))|(refine gs ?_ ?_;all_goals(intro hc;try simp only[hcs]at hc;try exact abz)))
   apply LR.call
   ·exact rfl
   intro w1 h1
   refine CallsTo.mono (r126 b S p.d.rseq p.d.rrep p.d.sender w1 ⟨A,hA,rg_mid [_,_] h1⟩ hI.nodeR hI.numB (by have := hI.op;omega)) ?_
   rintro v w2 ⟨A3,hA3,hw2⟩
   refine LR.back hw2 ?_
   repeat'(first|refine gz ?_)
   apply end0
   ·exact rfl
   intro w' hS
   exact Nd.le (R := _ :: _ :: R) ⟨A3,hA3,hS⟩ ((List.sublist_cons_self _ _).trans (List.sublist_cons_self _ _))
  ·skip
   have t2 := hI.two hs
   obtain ⟨q,hq,hpd0⟩ := hA.nxt t2.w.dat
   obtain ⟨Y,rfl⟩ : ∃ Y : RA,A = { Y with np := some q } := ⟨A,by rw [← hq]⟩
   clear hq
   have eD : S.next.D = dats q.2.2 := by unfold Way.D;rw [hpd0]
   have hes : WOk (dats q.2.2) := by rw [← eD];exact t2.w.ok
   have eDw := now_D hA
   have hesw : WOk (dats Y.es) := by rw [show dats Y.es = S.now.D from eDw.symm];exact hI.c.wn.ok
   have e : S.takeData p.d = (if p.d.msg.kind = 5 then { ((({ S with next := S.next.put p.d } : Rg).raise p.d.stamp).raise p.d.msg.stamp) with now := { S.now with dat := S.now.dat.map fun x=>(tkD S.now.cfg.rs S.now.cfg.rr x.1 p.d.msg,tkH S.now.cfg.rs S.now.cfg.rr x.1 x.2 p.d.msg) } } else ((({ S with next := S.next.put p.d } : Rg).raise p.d.stamp).raise p.d.msg.stamp)) := by
    unfold Rg.takeData
    rw [if_neg (by omega),if_pos ⟨hs,hox⟩]
    rfl
   rw [e]
   clear e hst
   unfold Way.of at hof hox
   repeat'(first|(apply CW.reg_sinkC 6;(·exact rfl);(·decide +kernel))|refine gz ?_|refine gy fun _=>?_|(apply kq;(·exact rfl);(·intro w1 h1;first | (have hq := r122 b 19 S.next.cfg p.d ad.da ad.dc w1 (h1.rd_at (cs := cellsR { Y with np := some q } S) (E := 94) (fr := (0,0)) memZ 19 7);rw [hox] at hq;exact CallsTo.q (show CallsTo Tryz.prog 122 [.pointer (some ⟨b,19,none⟩),p.d.val ad.da ad.dc] w1 _ from hq) h1)))|(refine gs ?_ ?_;all_goals(intro hc;try simp only[hcs]at hc;try exact abz)))
   all_goals (
    apply DW.quiet [0,1,2,3,4,5]
    ·decide +kernel
    ·exact stZ
    repeat'(first|refine gq ?_|apply QL.nil)
    all_goals (show DW _ _ _ _ _ _ _ _))
   all_goals (apply DW.done;(·decide +kernel))
   all_goals apply At.sink
   apply LR.call
   ·exact rfl
   intro w1 h1
   have hap := St.apart (x := wO q.1 q.2.1 q.2.2 S.next.aru S.next.high) (h1.sub (L' := wO q.1 q.2.1 q.2.2 S.next.aru S.next.high :: R) subN) hy rfl
   refine CallsTo.mono (show CallsTo Tryz.prog 123 [.pointer (some ⟨q.1,0,none⟩),p.d.val ad.da ad.dc] w1 _ from t29 q.1 q.2.1 q.2.2 S.next.aru S.next.high p.d ad.da ad.dc w1 (h1.holds (wO q.1 q.2.1 q.2.2 S.next.aru S.next.high) memZ) hes (by have h9 := aruF_is hes;rw [← eD] at h9 ⊢;exact h9) (hyr w1 (h1.holds y (by repeat (first | exact hy | apply List.Mem.tail)))) hP.dz (fun k hk hk2=>hap k hk2 (hyf k hk)) hP.dl) ?_
   rintro v w2 ⟨es2,ar2,rfl,he2,har,st3⟩
   refine LR.back (h1.did (a := wO q.1 q.2.1 q.2.2 S.next.aru S.next.high) selZ rfl st3 (wO_dep _ _ _ _ _)) ?_
   clear st3 h1 hap
   repeat'(first|(apply Go.Hb.kK;(iterate 4 exact rfl);intro bs)|refine gz ?_)
   apply LR.call
   ·exact rfl
   intro w1 h1
   have hDn := wpD_ok (d := p.d) hes hP.dl
   have ear : ar2 = aruF (wpD (dats q.2.2) p.d) := har.uniq (aruF_is hDn)
   have hpd := put_dat (d := p.d) hpd0
   obtain ⟨eDn,eh,ea⟩ := way_D hpd
   rw [ear,← ea,← eh] at h1
   have j : St w0 F (rgL b { Y with np := some (q.1,q.2.1,es2) } { S with next := S.next.put p.d } (_ :: _ :: _ :: R)) w1 := rg_mid [_,_,_] h1
   refine CallsTo.mono (r57 b _ { S with next := S.next.put p.d } bs 0 2 [p.d.stamp,p.d.msg.stamp] w1 j (fun w' hw'=>hw'.rd_of_blk (mH _ _)) (by simp)) ?_
   intro v w2 hw2
   have hZ3 : RepA { Y with np := some (q.1,q.2.1,es2) } ((({ S with next := S.next.put p.d } : Rg).raise p.d.stamp).raise p.d.msg.stamp) :=
    ⟨hA.q,hA.ql,hA.nd,hA.gp,by show (S.next.put p.d).dat = some (dats es2,(S.next.put p.d).high);rw [hpd,he2,eh],hA.ap,hA.pk,hA.ev⟩
   refine LR.back (C := St w0 F (rgL b { Y with np := some (q.1,q.2.1,es2) } ((({ S with next := S.next.put p.d } : Rg).raise p.d.stamp).raise p.d.msg.stamp) (_ :: _ :: _ :: R))) hw2 ?_
   clear hw2 j h1
   generalize hS3 : (({ S with next := S.next.put p.d } : Rg).raise p.d.stamp).raise p.d.msg.stamp = S3 at *
   have n3 : S3.now = S.now := by rw [← hS3];rfl
   rw [← n3] at eDw ⊢
   by_cases h5 : p.d.msg.kind = 5
   rotate_left
   ·rw [if_neg h5]
    repeat'(first|refine gz ?_|(refine gs ?_ ?_;all_goals(intro hc;try simp only[hcs]at hc;try exact abz)))
    apply end0
    ·exact rfl
    intro w' hS
    exact Nd.le (R := _ :: _ :: _ :: R) ⟨_,hZ3,hS⟩ ((List.sublist_cons_self _ _).trans ((List.sublist_cons_self _ _).trans (List.sublist_cons_self _ _)))
   rw [if_pos h5]
   repeat'(first|(apply CW.reg_sinkC 13;(·exact rfl);(·decide +kernel))|refine gz ?_|(refine gs ?_ ?_;all_goals(intro hc;try simp only[hcs]at hc;try exact abz)))
   all_goals (
    apply DW.quiet [0,1,2,3,4,5,6,7,8,9,10,11,12]
    ·decide +kernel
    ·exact stZ
    repeat'(first|refine gq ?_|apply QL.nil)
    all_goals (show DW _ _ _ _ _ _ _ _))
   all_goals (apply DW.done;(·decide +kernel))
   all_goals apply At.sink
   apply LR.call
   ·exact rfl
   intro w1 h1
   have hap := St.apart (x := wO Y.bw Y.bm Y.es S3.now.aru S3.now.high) (h1.sub (L' := wO Y.bw Y.bm Y.es S3.now.aru S3.now.high :: R) subN) hy rfl
   have hin := inner_bd hP.byt
   refine CallsTo.mono (show CallsTo Tryz.prog 125 [.pointer (some ⟨Y.bw,0,none⟩),.agg [.int .i64 S3.now.cfg.rs,.int .i64 S3.now.cfg.rr].toArray,p.d.msg.val ad.da ad.dc] w1 _ from g42 Y.bw Y.bm Y.es S3.now.aru S3.now.high S3.now.cfg.rs S3.now.cfg.rr p.d.msg ad.da ad.dc w1 (h1.holds (wO Y.bw Y.bm Y.es S3.now.aru S3.now.high) memZ) hesw (by have h9 := aruF_is hesw;rw [← eDw] at h9 ⊢;exact h9) (hyr w1 (h1.holds y (by repeat (first | exact hy | apply List.Mem.tail)))) hP.dz (fun k hk hk2=>hap k hk2 (hyf k hk)) (by have := hP.dl;omega) hP.byt (by have := hin.2;omega)) ?_
   rintro v w2 ⟨es3,ar3,rfl,he3,har3,st3⟩
   refine LR.back (h1.did (a := wO Y.bw Y.bm Y.es S3.now.aru S3.now.high) selZ rfl st3 (wO_dep _ _ _ _ _)) ?_
   clear st3 h1 hap
   repeat'(first|refine gz ?_)
   apply end0
   ·exact rfl
   intro w' hS
   have hdn : ({ S3.now with dat := S3.now.dat.map fun x=>(tkD S3.now.cfg.rs S3.now.cfg.rr x.1 p.d.msg,tkH S3.now.cfg.rs S3.now.cfg.rr x.1 x.2 p.d.msg) } : Way).dat = some (tkD S3.now.cfg.rs S3.now.cfg.rr (dats Y.es) p.d.msg,tkH S3.now.cfg.rs S3.now.cfg.rr (dats Y.es) S3.now.high p.d.msg) := by
    dsimp only
    rw [show S3.now.dat = some (dats Y.es,S3.now.high) from hZ3.nd]
    rfl
   obtain ⟨g1,g2,g3⟩ := way_D hdn
   have gok : WOk (tkD S3.now.cfg.rs S3.now.cfg.rr (dats Y.es) p.d.msg) := by
    unfold tkD
    split
    ·exact wpD_ok hesw (by have := hin.2;omega)
    ·exact hesw
   have ear3 : ar3 = aruF (tkD S3.now.cfg.rs S3.now.cfg.rr (dats Y.es) p.d.msg) := har3.uniq (aruF_is gok)
   rw [ear3,← g3,← g2] at hS
   refine Nd.le (R := _ :: _ :: _ :: R) ⟨{ Y with np := some (q.1,q.2.1,es2),es := es3 },⟨hZ3.q,hZ3.ql,?_,hZ3.gp,hZ3.np,hZ3.ap,hZ3.pk,hZ3.ev⟩,hS⟩ ((List.sublist_cons_self _ _).trans ((List.sublist_cons_self _ _).trans (List.sublist_cons_self _ _)))
   show _ = some (dats es3,_)
   rw [hdn,he3,g2]
end
theorem addC_ok (x : Cmt) (own : Ent) : (addC x own).2 = 0 → cmtB (addC x own).1 = true := by
 unfold addC
 split
 ·exact chkdC_ok _
 ·intro h;cases h
theorem passC_ok (x : Cmt) : (passC x).2 = 0 → cmtB (passC x).1 = true := by
 unfold passC
 split
 ·exact chkdC_ok _
 ·intro h;cases h
section
variable {w0 : World} {F : Nat → Prop} {R : List Asrt} {node : Int} {E : List EvD} {kept lo : Int} {n o : Nat}
set_option maxHeartbeats 8000000 in
theorem r80 (b : Nat) (S : Rg) (p : Pkt) (ad : PAd) (w : World) (h : Nd w0 F b S R w) (hI : Inv node E kept lo n o S) (hn : n ≤ 29000) (ho : o ≤ 600000) (hm : memI p.c.mem) (hP : PkH R p ad) :
  CallsTo Tryz.prog 80 [.pointer (some ⟨b,0,none⟩),p.val ad] w fun v w'=>Nd w0 F b (S.takeCommit p.c) R w' := by
 obtain ⟨A,hA,h⟩ := h
 obtain ⟨G,hG,hGo,hGn⟩ := hI.g
 obtain ⟨pg,hpg⟩ := hA.got hG
 have ep : gPtr A.gp = some ⟨pg.1,0,none⟩ := by rw [hpg];rfl
 have eG : S.gth = G := by unfold Rg.gth;rw [hG];rfl
 have hr : ∀ w',St w0 F R w' → Rd w' ad.ca (p.c.ents.flatMap Ent.cells) := fun w' hw'=>(hP.rd hw').hc
 refine go_inS (n := 121) h Tryz.func80 rfl rfl ?_
 unfold Rg.takeCommit
 repeat'(first|(refine kB' fun b3=>?_)|(apply CW.reg_heldC)|refine gz ?_)
 all_goals (
  apply DW.quiet [0,1,2,3,4,5,6]
  ·decide +kernel
  ·exact stZ
  repeat'(first|refine gq ?_|apply QL.nil)
  all_goals (show DW _ _ _ _ _ _ _ _))
 apply DP.begin []
 refine DP.more (PI.lr 8 5 [] (fun b=>.pointer (some ⟨b,0,none⟩)) (fun b=>[.own b (.cells [.int .i64 0,.int .i64 0,.int .i64 0,.int .i64 0,.int .i64 0,.bool false,.int .i64 0].toArray 74 (0,0))]) rfl (fun b x hx=>by simp only [List.mem_singleton] at hx;subst hx;rfl) ?_) ?_
 ·intro h w2
  apply kA
  ·exact rfl
  intro b
  apply kM
  exact At.made rfl
 refine DP.more (PI.lr 7 4 [] (fun b=>.pointer (some ⟨b,0,none⟩)) (fun b=>[.own b (.cells [.int .i64 0,.int .i64 0,.int .i64 0,.int .i64 0,.slice none 0 0].toArray 59 (0,0))]) rfl (fun b x hx=>by simp only [List.mem_singleton] at hx;subst hx;rfl) ?_) ?_
 ·intro h w2
  apply kA
  ·exact rfl
  intro b
  apply kM
  exact At.made rfl
 refine DP.take 7 4 (fun b=>.pointer (some ⟨b,0,none⟩)) (fun b=>[.own b (.cells [.int .i64 0,.int .i64 0,.int .i64 0,.int .i64 0,.slice none 0 0].toArray 59 (0,0))]) [8] [4,5] [[],[]] rfl rfl rfl rfl rfl rfl rfl (by decide +kernel) ⟨trivial,fun _ _ _=>trivial,⟨trivial,fun _ _ _=>trivial,trivial⟩⟩ (fun A w' hA=>St.sub hA (by simp only [List.cons_append,List.nil_append];repeat (first | exact List.sublist_append_left _ _ ))) (fun bp4=>?_)
 refine DP.take 8 5 (fun b=>.pointer (some ⟨b,0,none⟩)) (fun b=>[.own b (.cells [.int .i64 0,.int .i64 0,.int .i64 0,.int .i64 0,.int .i64 0,.bool false,.int .i64 0].toArray 74 (0,0))]) [] [5] [[]] rfl rfl rfl rfl rfl rfl rfl (by decide +kernel) ⟨trivial,fun _ _ _=>trivial,trivial⟩ (fun A w' hA=>St.sub hA (by simp only [List.cons_append,List.nil_append];repeat (first | exact List.sublist_append_left _ _ | apply List.Sublist.cons))) (fun bp5=>?_)
 refine DP.nil ?_
 refine DW.castL (by simp only [List.cons_append,List.nil_append];exact rfl) ?_
 all_goals (
  apply DW.loud 9
  ·exact rfl
  ·decide +kernel
  repeat'(first|refine gw ?_)
  all_goals (refine ats ?_))
 all_goals (
  apply DW.loud 10
  ·exact rfl
  ·decide +kernel
  repeat'(first|refine gw ?_)
  all_goals (refine ats ?_))
 all_goals (first | (apply DW.done_thn;(·decide +kernel)) |fail)
 repeat'(first|(apply CW.reg_heldC)|refine gz ?_)
 all_goals (
  apply DW.quiet [0,1,2,3,4]
  ·decide +kernel
  ·exact stZ
  repeat'(first|refine gq ?_|apply QL.nil)
  all_goals (show DW _ _ _ _ _ _ _ _))
 all_goals (
  apply DW.loud 5
  ·exact rfl
  ·decide +kernel
  repeat'(first|refine gw ?_|(apply kq;(·exact rfl);(·intro w1 h1;exact CallsTo.q (show CallsTo Tryz.prog 130 [p.c.val ad.ca ad.cc,.int .i64 S.node] w1 _ from r130 p.c ad.ca ad.cc S.node w1 (hr w1 (h1.sub subN)) hm) h1)))
  all_goals (refine ats ?_))
 all_goals (first | (apply DW.done_thn;(·decide +kernel)) |fail)
 obtain ⟨v,hv⟩ : ∃ v,visC p.c S.node = v := ⟨_,rfl⟩
 have hnd := hI.nodeR
 rw [hv]
 by_cases v1 : v = 1
 ·subst v1
  rw [if_pos rfl]
  rw [eG]
  by_cases c1 : S.state = 0 ∧ p.c.mem = G.heard ∧ S.counter < p.c.r1
  ·rw [if_pos c1]
   obtain ⟨d1,d2,d3⟩ := c1
   repeat'(first|refine gz ?_|(apply LR.ev;(·apply Ev.field (v := .int .i64 G.heard) Tryz.underlying56;(·exact rfl);(·exact (inferInstance : Go.Hb.One Tryz.prog 3));(·exact rfl);(·exact rfl));(·exact rfl))|(apply kq;(·exact rfl);(·intro w1 h1;first | (have hq := r84 pg.1 pg.2 G w1 (rg_ga (b := b) hpg hG h1 memZ) hGo.j;rw [← ep] at hq;exact CallsTo.q hq h1) ))|(refine gs ?_ ?_;all_goals(intro hc;try simp only[hcs]at hc;try exact abz)))
   apply LR.call
   ·exact rfl
   intro w1 h1
   refine CallsTo.mono (r131 b S p.c.r1 p.c.r2 p.c.mem w1 ⟨A,hA,rg_mid [_,_,_] h1⟩) ?_
   rintro v w2 ⟨A3,hA3,hw2⟩
   refine LR.back hw2 ?_
   clear hw2 h1
   repeat'(first|(apply CW.reg_sinkC 9;(·exact rfl);(·decide +kernel))|refine gz ?_)
   all_goals (
    apply DW.quiet [0,1,2,3,4,5]
    ·decide +kernel
    ·exact stZ
    repeat'(first|refine gq ?_|apply QL.nil)
    all_goals (show DW _ _ _ _ _ _ _ _))
   all_goals (
    apply DW.loud 6
    ·exact rfl
    ·decide +kernel
    repeat'(first|refine gw ?_|(apply LR.call;(·exact rfl);(intro w1 h1;refine CallsTo.mono (show CallsTo Tryz.prog 133 [p.c.val ad.ca ad.cc,.agg (S.enter p.c.r1 p.c.r2 p.c.mem).own.cells.toArray] w1 _ from r133 p.c ad.ca ad.cc (S.enter p.c.r1 p.c.r2 p.c.mem).own w1 (hr w1 (h1.sub subN)) hP.cz hm) ?_;rintro v w2 ⟨ac,cc,rfl,hn⟩;refine LR.back (h1.newSl hn) ?_;clear hn h1)))
    all_goals (refine ats ?_))
   all_goals (
    apply DW.quiet [7,8]
    ·decide +kernel
    ·exact stZ
    repeat'(first|refine gq ?_|apply QL.nil)
    all_goals (show DW _ _ _ _ _ _ _ _))
   all_goals (apply DW.done;(·decide +kernel))
   all_goals apply At.sink
   apply LR.call
   ·exact rfl
   intro w1 h1
   refine CallsTo.mono (r132 b A3 (S.enter p.c.r1 p.c.r2 p.c.mem) (addC p.c (S.enter p.c.r1 p.c.r2 p.c.mem).own) ac cc w1 h1 hA3 (addC_ok _ _) (by show S.op.length ≤ _;have := hI.op;omega)) ?_
   rintro v w2 ⟨A4,hA4,hw2⟩
   refine LR.back hw2 ?_
   repeat'(first|refine gz ?_)
   apply end0
   ·exact rfl
   intro w' hS
   exact Nd.le (R := _ :: _ :: _ :: R) ⟨A4,hA4,hS⟩ ((List.sublist_cons_self _ _).trans ((List.sublist_cons_self _ _).trans (List.sublist_cons_self _ _)))
  ·rw [if_neg c1]
   repeat'(first|refine gz ?_|(apply LR.ev;(·apply Ev.field (v := .int .i64 G.heard) Tryz.underlying56;(·exact rfl);(·exact (inferInstance : Go.Hb.One Tryz.prog 3));(·exact rfl);(·exact rfl));(·exact rfl))|(apply kq;(·exact rfl);(·intro w1 h1;first | (have hq := r84 pg.1 pg.2 G w1 (rg_ga (b := b) hpg hG h1 memZ) hGo.j;rw [← ep] at hq;exact CallsTo.q hq h1) ))|(refine gs ?_ ?_;all_goals(intro hc;try simp only[hcs]at hc;try exact abz)))
   all_goals (
    first
     | (exfalso;exact c1 ⟨by assumption,by assumption,by assumption⟩)
     | (apply end0
        ·exact rfl
        intro w' hS
        exact ⟨A,hA,hS.sub subN⟩))
 rw [if_neg v1]
 by_cases v2 : v = 2
 ·subst v2
  rw [if_pos rfl]
  have hx := vis_facts (x := p.c) (nd := S.node) (by rw [hv];decide)
  have hle : p.c.ents.length ≤ 100 := by have := (cmt_ents hx).2.1;omega
  by_cases c1 : S.state = 1 ∧ (p.c.r1 = S.next.cfg.rs ∧ p.c.r2 = S.next.cfg.rr) ∧ p.c.mem = S.next.cfg.mem ∧ S.trusts p.c = true
  ·rw [if_pos c1]
   obtain ⟨d1,d2,d3,d4⟩ := c1
   repeat'(first|refine gz ?_|(apply kq;(·exact rfl);(·intro w1 h1;first | (have hq := r134 b A S p.c ad.ca ad.cc w1 (rg_mid [_,_,_] h1) (fun w' hw'=>hr w' (hw'.sub subN)) hm hle (crew_I hI.c.cn.mem);rw [d4] at hq;exact CallsTo.mono (show CallsTo Tryz.prog 134 [.pointer (some ⟨b,0,none⟩),p.c.val ad.ca ad.cc] w1 _ from hq) (fun v w' h=>⟨h.1,front (front (front h.2 16 rfl rfl) 16 rfl rfl) 16 rfl rfl⟩))))|(apply LR.call;(·exact rfl);(intro w1 h1;refine CallsTo.mono (show CallsTo Tryz.prog 135 [p.c.val ad.ca ad.cc] w1 _ from r135 p.c ad.ca ad.cc w1 (hr w1 (h1.sub subN)) hP.cz hm) ?_;rintro v w2 ⟨ac,cc,rfl,hn⟩;refine LR.back (h1.newSl hn) ?_;clear hn h1))|(refine gs ?_ ?_;all_goals(intro hc;try simp only[hcs]at hc;try exact abz)))
   apply LR.call
   ·exact rfl
   intro w1 h1
   refine CallsTo.mono (r132 b A S (passC p.c) ac cc w1 (front (rg_mid [_,_,_,_] h1) 14 rfl rfl) hA (passC_ok _) (by have := hI.op;omega)) ?_
   rintro v w2 ⟨A4,hA4,hw2⟩
   refine LR.back hw2 ?_
   clear hw2 h1
   have e3 : (S.hand (passC p.c)).now = S.now := by unfold Rg.hand;split <;> rfl
   repeat'(first|refine gz ?_)
   apply LR.call
   ·exact rfl
   intro w1 h1
   refine CallsTo.mono (r136 b A4 (S.hand (passC p.c)) p.c ad.ca ad.cc w1 h1 hA4 (fun w' hw'=>hr w' (hw'.sub subN)) hm (by rw [e3];exact hI.c.wn.ok) (by rw [e3];exact hI.c.dn.byt) (by rw [e3];have := hI.c.len;omega)) ?_
   rintro v w2 ⟨A5,hA5,hw2⟩
   refine LR.back hw2 ?_
   repeat'(first|refine gz ?_)
   apply end0
   ·exact rfl
   intro w' hS
   exact Nd.le (R := _ :: _ :: _ :: R) ⟨A5,hA5,hS⟩ ((List.sublist_cons_self _ _).trans ((List.sublist_cons_self _ _).trans (List.sublist_cons_self _ _)))
  ·rw [if_neg c1]
   cases htr : S.trusts p.c
   all_goals (
    repeat'(first|refine gz ?_|(apply kq;(·exact rfl);(·intro w1 h1;first | (have hq := r134 b A S p.c ad.ca ad.cc w1 (rg_mid [_,_,_] h1) (fun w' hw'=>hr w' (hw'.sub subN)) hm hle (crew_I hI.c.cn.mem);rw [htr] at hq;exact CallsTo.mono (show CallsTo Tryz.prog 134 [.pointer (some ⟨b,0,none⟩),p.c.val ad.ca ad.cc] w1 _ from hq) (fun v w' h=>⟨h.1,front (front (front h.2 16 rfl rfl) 16 rfl rfl) 16 rfl rfl⟩))))|(refine gs ?_ ?_;all_goals(intro hc;try simp only[hcs]at hc;try exact abz)))
    all_goals (
     first
      | (exfalso;exact c1 ⟨by assumption,by assumption,by assumption,by assumption⟩)
      | (apply end0
         ·exact rfl
         intro w' hS
         exact ⟨A,hA,hS.sub subN⟩)))
 rw [if_neg v2]
 by_cases v3 : v = 3
 ·subst v3
  rw [if_pos rfl]
  by_cases c1 : S.state = 2 ∧ (p.c.r1 = S.next.cfg.rs ∧ p.c.r2 = S.next.cfg.rr) ∧ S.begun = false
  ·rw [if_pos c1]
   obtain ⟨d1,d2,d3⟩ := c1
   repeat'(first|refine gz ?_|(refine gs ?_ ?_;all_goals(intro hc;try simp only[hcs]at hc;try exact abz)))
   all_goals (first | (exfalso;rw [show S.begun = true by assumption] at d3;cases d3) | skip)
   apply LR.call
   ·exact rfl
   intro w1 h1
   refine CallsTo.mono (r137 b S w1 ⟨A,hA,rg_mid [_,_,_] h1⟩ hI d1 hn (by omega)) ?_
   rintro v w2 ⟨A5,hA5,hw2⟩
   refine LR.back hw2 ?_
   repeat'(first|refine gz ?_)
   apply end0
   ·exact rfl
   intro w' hS
   exact Nd.le (R := _ :: _ :: _ :: R) ⟨A5,hA5,hS⟩ ((List.sublist_cons_self _ _).trans ((List.sublist_cons_self _ _).trans (List.sublist_cons_self _ _)))
  ·rw [if_neg c1]
   repeat'(first|refine gz ?_|(refine gs ?_ ?_;all_goals(intro hc;try simp only[hcs]at hc;try exact abz)))
   all_goals (
    first
     | (exfalso;exact c1 ⟨by assumption,by assumption,by assumption⟩)
     | (apply end0
        ·exact rfl
        intro w' hS
        exact ⟨A,hA,hS.sub subN⟩))
 rw [if_neg v3]
 repeat'(first|refine gz ?_|(refine gs ?_ ?_;all_goals(intro hc;try simp only[hcs]at hc;try exact abz)))
 all_goals (
  first
   | (exfalso;omega)
   | (apply end0
      ·exact rfl
      intro w' hS
      exact ⟨A,hA,hS.sub subN⟩))
end
instance : MapOf Tryz.prog 111 .i64 .nilFunc := ⟨⟨3,110,Tryz.underlying111,Tryz.underlying3,Tryz.zeroValue110⟩⟩
def takL : List (Int × Value) := [(1,.func (.func 77) #[] #[]),(2,.func (.func 78) #[] #[]),(3,.func (.func 79) #[] #[]),(4,.func (.func 80) #[] #[]),(5,.func (.func 81) #[] #[])]
theorem r47 (w : World) : CallsTo Tryz.prog 47 [] w fun v w'=>∃ b,v = .map (some b) ∧ New1 (.own b (mapObj .i64 takL)) w w' := by
 refine go_in (n := 3) (St.refl _ NoF) Tryz.func47 rfl rfl ?_
 repeat'(first|refine gz ?_|(apply LR.makeMap;(·exact rfl);intro b)|(refine LR.insert rfl rfl rfl (Sel.head _ _ _) rfl ?_))
 (apply ret1;(·exact rfl);intro w' hS)
 exact ⟨b,rfl,(hS.cast (L' := [.own b (mapObj .i64 takL)]) rfl).new1 rfl⟩
structure OutA where
 c : Int
 pa : Option Addr
 pc : Nat
 pk : List PkA
 ea : Option Addr
 ec : Nat
 ev : List EvA
def OutA.cells (x : OutA) : List Value := [.int .i64 x.c,.slice x.pa x.pk.length x.pc,.slice x.ea x.ev.length x.ec]
def OutA.val (x : OutA) : Value := .agg x.cells.toArray
def OutA.o (x : OutA) : OutV := ⟨x.c,x.pk.map PkA.p,x.ev.map EvA.e⟩
abbrev outO (x : OutA) (R : List Asrt) : List Asrt := pS x.pa x.pc x.pk :: bunP x.pk :: eS x.ea x.ec x.ev :: bunE x.ev :: R
def outN : OutA := ⟨0,none,0,[],none,0,[]⟩
section
variable {w0 : World} {F : Nat → Prop} {R : List Asrt} {node : Int} {E : List EvD} {kept lo : Int} {n o : Nat}
theorem r45 (b : Nat) (A : RA) (S : Rg) (w : World) (h : St w0 F (rgL b A S R) w) : CallsTo Tryz.prog 45 [.pointer (some ⟨b,0,none⟩)] w fun v w'=>v = .bool false ∧ St w0 F (rgL b A S R) w' := by
 refine go_inS (n := 12) h Tryz.func45 rfl rfl ?_
 repeat'(first|refine gz ?_)
 (apply ret1;(·exact rfl);intro w' hS)
 exact ⟨rfl,hS⟩
theorem outN_in {w : World} {L : List Asrt} (h : St w0 F L w) : St w0 F (outO outN L) w := ((((St.bun_nil EvA.dep h).nilsl 76 26) |> St.bun_nil PkA.dep).nilsl 63 40)
def Odone (w0 : World) (F : Nat → Prop) (b : Nat) (R : List Asrt) (r : Rg × OutV × Int) (v : Value) (w' : World) : Prop :=
 ∃ x : OutA,v = .tuple [x.val,.int .i64 r.2.2].toArray ∧ x.o = r.2.1 ∧ ∃ A',RepA A' r.1 ∧ St w0 F (outO x (rgL b A' r.1 R)) w'
theorem Odone.no {b : Nat} {A : RA} {S : Rg} {w : World} {e : Int} (hA : RepA A S) (h : St w0 F (rgL b A S R) w) : Odone w0 F b R (S,noOut,e) (.tuple [outN.val,.int .i64 e].toArray) w :=
 ⟨outN,rfl,rfl,A,hA,outN_in h⟩
def RA.clear (A : RA) : RA := { A with pa := none,pc := 0,pk := [],ea := none,ec := 0,ev := [] }
set_option maxHeartbeats 2000000 in
theorem r44 (b : Nat) (A : RA) (S : Rg) (w : World) (h : St w0 F (rgL b A S R) w) (hA : RepA A S) :
  CallsTo Tryz.prog 44 [.pointer (some ⟨b,0,none⟩)] w fun v w'=>∃ x : OutA,v = x.val ∧ x.o = S.out ∧ ∃ A',RepA A' S.flush ∧ St w0 F (outO x (rgL b A' S.flush R)) w' := by
 refine go_inS (n := 13) h Tryz.func44 rfl rfl ?_
 repeat'(first|refine gz ?_|refine gy fun _=>?_)
 (apply ret1c;(·exact rfl);(·exact inferInstance);(·exact rfl);(·exact memY);(·exact rfl);intro w' hS)
 refine ⟨⟨S.oc,A.pa,A.pc,A.pk,A.ea,A.ec,A.ev⟩,rfl,by unfold OutA.o Rg.out;rw [hA.pk,hA.ev],A.clear,⟨hA.q,hA.ql,hA.nd,hA.gp,hA.np,hA.ap,rfl,rfl⟩,?_⟩
 have h2 : St w0 F (rgB b A.clear S.flush :: alO A.ba A.bam S.tm.get :: qO A.bq A.fq A.slots A.qL :: wO A.bw A.bm A.es S.now.aru S.now.high :: oB A.bo S.done :: gN A.gp S.g :: nN A.np S.next.aru S.next.high :: aN A.ap :: lastO A S :: pS A.pa A.pc A.pk :: bunP A.pk :: eS A.ea A.ec A.ev :: bunE A.ev :: tabA :: R) w' := hS.sub subN
 have k1 : St w0 F (osl (.slice none 0 0) 63 40 0 [] :: bunP [] :: osl (.slice none 0 0) 76 26 0 [] :: bunE [] :: _) w' := ((((St.bun_nil EvA.dep h2).nilsl 76 26) |> St.bun_nil PkA.dep).nilsl 63 40)
 have k2 := front (front (front (front (front (front (front (front (front k1 12 rfl rfl) 12 rfl rfl) 12 rfl rfl) 12 rfl rfl) 12 rfl rfl) 12 rfl rfl) 12 rfl rfl) 12 rfl rfl) 12 rfl rfl
 exact front (front (front (front k2 16 rfl rfl) 16 rfl rfl) 16 rfl rfl) 16 rfl rfl
end
section
variable {w0 : World} {F : Nat → Prop} {R : List Asrt} {node : Int} {E : List EvD} {kept lo : Int} {n o : Nat}
theorem PkH.tail {p : Pkt} {ad : PAd} (h : PkH R p ad) (x : Asrt) : PkH (x :: R) p ad :=
 ⟨let ⟨y,m,a⟩ := h.d;⟨y,List.mem_cons_of_mem _ m,a⟩,let ⟨y,m,a⟩ := h.t;⟨y,List.mem_cons_of_mem _ m,a⟩,let ⟨y,m,a⟩ := h.c;⟨y,List.mem_cons_of_mem _ m,a⟩,h.dz,h.tz,h.cz,h.byt,h.dl,h.tl,h.cl⟩
theorem chk_kind {p : Pkt} (h : chkP p = true) : p.kind = 1 ∨ p.kind = 2 ∨ p.kind = 3 ∨ p.kind = 4 ∨ p.kind = 5 := by
 unfold chkP at h
 rw [Bool.and_eq_true] at h
 have hm := h.1
 unfold mayP at hm
 by_cases h1 : p.kind = 1
 ·exact .inl h1
 by_cases h2 : p.kind = 2
 ·exact .inr (.inl h2)
 by_cases h3 : p.kind = 3
 ·exact .inr (.inr (.inl h3))
 by_cases h4 : p.kind = 4
 ·exact .inr (.inr (.inr (.inl h4)))
 by_cases h5 : p.kind = 5
 ·exact .inr (.inr (.inr (.inr h5)))
 rw [if_neg h1,if_neg h2,if_neg h3,if_neg h4,if_neg h5] at hm
 cases hm
theorem tak_any (b : Nat) (S : Rg) (p : Pkt) (ad : PAd) (hI : Inv node E kept lo n o S) (hn : n ≤ 29000) (ho : o ≤ 600000) (hp : chkP p = true) (hi : PktI p) :
  ∃ j g,findI p.kind takL 0 = some (j,.func (.func g) #[] #[]) ∧ Own Tryz.prog g ∧ ∀ (R : List Asrt),PkH R p ad → ∀ w,Nd w0 F b S R w → CallsTo Tryz.prog g [.pointer (some ⟨b,0,none⟩),p.val ad] w fun v w'=>Nd w0 F b (S.take0 p) R w' := by
 have hk := chk_kind hp
 unfold chkP at hp
 rw [Bool.and_eq_true] at hp
 have hm := hp.1
 unfold mayP at hm
 unfold Rg.take0
 obtain ⟨G,hG,hGo,_⟩ := hI.g
 have hop := hI.op
 rcases hk with h | h | h | h | h <;> simp only [h,findI,takL] <;> simp [h] at hm
 ·exact ⟨0,77,rfl,inferInstance,fun R hP w hw=>r77 b S p ad w hw hI hn (by omega) hm.2 hP⟩
 ·exact ⟨1,78,rfl,inferInstance,fun R hP w hw=>r78 b S p ad w hw hI hn (by omega) hm.2 hP⟩
 ·exact ⟨2,79,rfl,inferInstance,fun R hP w hw=>r79 b S G p ad w hw hG hGo hI.nodeR hI.c.ctr (by omega) hi.2⟩
 ·exact ⟨3,80,rfl,inferInstance,fun R hP w hw=>r80 b S p ad w hw hI hn ho hi.1 hP⟩
 ·exact ⟨4,81,rfl,inferInstance,fun R hP w hw=>r81 b S p ad w hw hI.nodeR hI.numB (by omega)⟩
theorem mine_iff {S : Rg} {p : Pkt} : mineP S p = true ↔ (¬ p.to = 0 ∧ ¬ p.to = S.node) ∨ p.d.sender = S.node ∨ p.j1 = S.node ∨ p.b3 = S.node := by
 unfold mineP
 simp [or_assoc]
set_option maxHeartbeats 8000000 in
theorem r16 (b : Nat) (S : Rg) (p : Pkt) (ad : PAd) (w : World) (h : Nd w0 F b S R w) (hI : Inv node E kept lo n o S) (hn : n ≤ 29000) (ho : o ≤ 600000) (hi : PktI p) (hP : PkH R p ad) :
  CallsTo Tryz.prog 16 [.pointer (some ⟨b,0,none⟩),p.val ad] w fun v w'=>Odone w0 F b R (S.take p) v w' := by
 obtain ⟨A,hA,h⟩ := h
 refine go_inS (n := 62) h Tryz.func16 rfl rfl ?_
 unfold Rg.take
 cases hck : chkP p
 ·rw [if_pos (by simp)]
  repeat'(first|(refine kB' fun b3=>?_)|refine gz ?_|refine gy fun _=>?_|(apply kq;(·exact rfl);(·intro w1 h1;first | exact CallsTo.mono (r45 b A S w1 (rg_mid [_,_] h1)) (fun v w' h=>⟨h.1,front (front h.2 15 rfl rfl) 15 rfl rfl⟩) | (have hq := p31 p ad w1 (hP.rd (h1.sub subN)) hi;rw [hck] at hq;exact CallsTo.q (show CallsTo Tryz.prog 46 [p.val ad] w1 _ from hq) h1)))|fail)
  (apply ret2c;(·exact rfl);(·exact inferInstance);(·exact rfl);(·exact memY);(·exact rfl);intro w' hS)
  exact Odone.no hA (hS.sub subN)
 rw [if_neg (by simp)]
 cases hmi : mineP S p
 rotate_left
 ·rw [if_pos rfl]
  have hm := mine_iff.1 hmi
  clear hmi
  repeat'(first|(refine kB' fun b3=>?_)|refine gz ?_|refine gy fun _=>?_|(apply kq;(·exact rfl);(·intro w1 h1;first | exact CallsTo.mono (r45 b A S w1 (rg_mid [_,_] h1)) (fun v w' h=>⟨h.1,front (front h.2 15 rfl rfl) 15 rfl rfl⟩) | (have hq := p31 p ad w1 (hP.rd (h1.sub subN)) hi;rw [hck] at hq;exact CallsTo.q (show CallsTo Tryz.prog 46 [p.val ad] w1 _ from hq) h1)))|(refine gs ?_ ?_;all_goals(intro hc;try simp only[hcs]at hc;try exact abz)))
  all_goals (
   first
    | (exfalso
       rcases hm with ⟨h7,h8⟩ | h7 | h7 | h7 <;> first | contradiction )
    | ((apply ret2c;(·exact rfl);(·exact inferInstance);(·exact rfl);(·exact memY);(·exact rfl);intro w' hS)
       exact Odone.no hA (hS.sub subN)))
 rw [if_neg (by decide)]
 have hm : ¬ ((¬ p.to = 0 ∧ ¬ p.to = S.node) ∨ p.d.sender = S.node ∨ p.j1 = S.node ∨ p.b3 = S.node) := fun h9=>by rw [mine_iff.2 h9] at hmi;cases hmi
 clear hmi
 obtain ⟨j,g,hf,hown,hcall⟩ := tak_any (w0 := w0) (F := F) b S p ad hI hn ho hck hi
 repeat'(first|(refine kB' fun b3=>?_)|(apply CW.reg_sinkC 6;(·exact rfl);(·decide +kernel))|refine gz ?_|refine gy fun _=>?_|(apply kq;(·exact rfl);(·intro w1 h1;first | exact CallsTo.mono (r45 b A S w1 (rg_mid [_,_] h1)) (fun v w' h=>⟨h.1,front (front h.2 15 rfl rfl) 15 rfl rfl⟩) | (have hq := p31 p ad w1 (hP.rd (h1.sub subN)) hi;rw [hck] at hq;exact CallsTo.q (show CallsTo Tryz.prog 46 [p.val ad] w1 _ from hq) h1)))|(refine gs ?_ ?_;all_goals(intro hc;try simp only[hcs]at hc;try exact abz)))
 all_goals (
  first
   | (exfalso
      apply hm
      first
       | exact .inl ⟨by assumption,by assumption⟩
       | exact .inr (.inl (by assumption))
       | exact .inr (.inr (.inl (by assumption)))
       | exact .inr (.inr (.inr (by assumption))))
   | skip)
 all_goals (
  apply DW.quiet [1,2,4,5];(·kernel_rfl);(·exact fun _ h=>h)
  repeat'(first|refine gq ?_|apply QL.nil)
  apply DW.loud 0;(·exact rfl);(·kernel_rfl)
  apply LR.call
  ·exact rfl
  intro w1 h1
  refine CallsTo.mono (r47 w1) ?_
  rintro v w2 ⟨bm,rfl,hmp⟩
  refine LR.back (h1.got hmp (Asrt.dep_own _ _)) ?_
  clear hmp h1
  apply LR.nil
  refine At.stage (fun _ h=>h.tail1) (fun _ h=>h) ?_
  apply DW.quiet [3];(·kernel_rfl);(·exact fun _ h=>h)
  repeat'(first|(apply QL.ev;(·exact rfl);(·apply Ev.lookup1C (l := takL);(·exact rfl);(·exact rfl);(·exact fun w hw=>hw.own_at memZ);(·exact hf));(·exact rfl))|apply QL.nil)
  apply DW.done
  ·decide +kernel
  apply At.sink
  haveI := hown
  apply LR.call_pre (g := g) (pre := [])
  ·exact rfl
  ·exact rfl
  intro w1 h1
  refine CallsTo.mono (show CallsTo Tryz.prog g [.pointer (some ⟨b,0,none⟩),p.val ad] w1 _ from hcall _ (((hP.tail _).tail _).tail _) w1 ⟨A,hA,rg_mid [_,_,_] h1⟩) ?_
  rintro v w2 ⟨A2,hA2,hw2⟩
  refine LR.back hw2 ?_
  clear hw2 h1
  repeat'(first|refine gz ?_|(apply LR.call;(·exact rfl);(intro w1 h1;refine CallsTo.mono (r44 b A2 (S.take0 p) w1 h1 hA2) ?_;rintro v w2 ⟨x,rfl,hx,A3,hA3,hw2⟩;refine LR.back hw2 ?_;clear hw2 h1))|fail)
  (apply ret2c;(·exact rfl);(·exact inferInstance);(·exact rfl);(·exact memY);(·exact rfl);intro w' hS)
  exact ⟨x,rfl,hx,A3,hA3,hS.sub subN⟩)
end
section
variable {w0 : World} {F : Nat → Prop} {R : List Asrt} {node : Int} {E : List EvD} {kept lo : Int} {n o : Nat}
set_option maxHeartbeats 8000000 in
theorem r85 (b : Nat) (S : Rg) (w : World) (h : Nd w0 F b S R w) (hI : Inv node E kept lo n o S) (hn : n ≤ 29000) (ho : o ≤ 600000) :
  CallsTo Tryz.prog 85 [.pointer (some ⟨b,0,none⟩)] w fun v w'=>Nd w0 F b S.alone R w' := by
 obtain ⟨Z,hZ,h⟩ := h
 obtain ⟨G,hG,hGo,hGn⟩ := hI.g
 have hnd := hI.nodeR
 refine go_inS (n := 36) h Tryz.func85 rfl rfl ?_
 unfold Rg.alone
 dsimp only
 by_cases hnum : maxN < S.number
 ·rw [if_pos hnum]
  repeat'(first|refine gz ?_|refine gy fun _=>?_|(apply LR.call;(·exact rfl);(intro w1 h1;refine CallsTo.mono (r140 b Z S G w1 h1 hZ hG hGo.j.node.1 hGo.top hI.c.ctr) ?_;rintro v w2 ⟨rfl,hw2⟩;refine LR.back hw2 ?_;clear hw2 h1))|(refine gs ?_ ?_;all_goals(intro hc;try simp only[hcs]at hc;try exact abz)))
  all_goals (first | skip)
  apply ret0
  ·exact rfl
  intro w' hS
  exact ⟨Z,hZ,hS.sub subN⟩
 rw [if_neg hnum]
 have hpow := pow_ok S.node hnd
 repeat'(first|(refine kA' fun b2=>?_)|(apply CW.reg_heldC)|refine gz ?_|(apply LR.call;(·exact rfl);(intro w1 h1;refine CallsTo.mono (r140 b Z S G w1 h1 hZ hG hGo.j.node.1 hGo.top hI.c.ctr) ?_;rintro v w2 ⟨rfl,hw2⟩;refine LR.back hw2 ?_;clear hw2 h1))|(refine gs ?_ ?_;all_goals(intro hc;try simp only[hcs]at hc;try exact abz)))
 all_goals (first | skip)
 all_goals (
  apply DW.quiet [0,1,2,3,4,5,6]
  ·decide +kernel
  ·exact stZ
  repeat'(first|(apply QL.ev;(·exact rfl);(·apply Ev.shl1;(·exact rfl);(·exact rfl);(·exact hnd));(·exact rfl))|refine gq ?_|apply QL.nil)
  all_goals (show DW _ _ _ _ _ _ _ _))
 apply DP.begin []
 refine DP.more (PI.lr 12 4 [] (fun b=>.pointer (some ⟨b,0,none⟩)) (fun b=>[.own b (.cells [.int .i64 0,.int .i64 0,.int .i64 0,.int .i64 0,.slice none 0 0].toArray 59 (0,0))]) rfl (fun b x hx=>by simp only [List.mem_singleton] at hx;subst hx;rfl) ?_) ?_
 ·intro h w2
  apply kA
  ·exact rfl
  intro b
  apply kM
  exact At.made rfl
 refine DP.go 7 [12] [4] [[]] rfl rfl rfl rfl (by decide +kernel) ⟨trivial,fun _ _ _=>trivial,trivial⟩ (fun A w' hA=>St.sub hA (by simp only [List.cons_append,List.nil_append];repeat (first | exact List.sublist_append_left _ _ ))) ?_
 intro gg A LA hLA
 simp only [List.cons_append,List.nil_append] at hLA
 subst hLA
 repeat'(first|refine gw ?_|(apply kq;(·exact rfl);(·intro w1 h1;exact CallsTo.mono (r142 b Z S w1 (rg_mid [_] h1)) (fun v w' h=>⟨h.1,front h.2 14 rfl rfl⟩)))|fail)
 apply At.pdone (ds := [4]) rfl
 ·repeat (first | exact MixR.base _ | (apply MixR.upd;case hd=>exact rfl))
 ·repeat (first | exact Tl.app _ _ | apply Tl.cons)
 ·exact (fun A w' hA=>St.sub hA (by simp only [List.cons_append,List.nil_append];repeat (first | exact List.sublist_append_left _ _ )))
 refine DP.go 8 [12] [4] [[]] rfl rfl rfl rfl (by decide +kernel) ⟨trivial,fun _ _ _=>trivial,trivial⟩ (fun A w' hA=>St.sub hA (by simp only [List.cons_append,List.nil_append];repeat (first | exact List.sublist_append_left _ _ ))) ?_
 intro gg A LA hLA
 simp only [List.cons_append,List.nil_append] at hLA
 subst hLA
 repeat'(first|refine gw ?_|(apply LR.call;(·exact rfl);(intro w1 h1;refine CallsTo.mono (show CallsTo Tryz.prog 141 [.agg [.int .i64 S.number,.int .i64 S.node].toArray,.int .i64 (2 ^ S.node.toNat),.agg S.entry.cells.toArray] w1 _ from r141 _ _ _ _ w1 (crew_I hpow.1)) ?_;rintro v w2 ⟨ac,cc,rfl,hnn⟩;refine LR.back (h1.newSl hnn) ?_;clear hnn h1)))
 apply At.pdone (ds := [4]) rfl
 ·repeat (first | exact MixR.base _ | (apply MixR.upd;case hd=>exact rfl))
 ·repeat (first | exact Tl.app _ _ | apply Tl.cons)
 ·exact (fun A w' hA=>St.sub hA (by simp only [List.cons_append,List.nil_append];repeat (first | exact List.sublist_append_left _ _ | apply List.Sublist.cons)))
 refine DP.quiet [9,10,11] [12] [4] rfl rfl (by decide +kernel) (fun A w' hA=>St.sub hA (by simp only [List.cons_append,List.nil_append];repeat (first | exact List.sublist_append_left _ _ | apply List.Sublist.cons))) (fun gg=>?_)
 repeat'(first|refine gq ?_|apply QL.nil)
 apply pq_done
 ·repeat (first | exact MixR.base _ | (apply MixR.upd;case hd=>exact rfl))
 refine DP.take 12 4 (fun b=>.pointer (some ⟨b,0,none⟩)) (fun b=>[.own b (.cells [.int .i64 0,.int .i64 0,.int .i64 0,.int .i64 0,.slice none 0 0].toArray 59 (0,0))]) [] [4] [[]] rfl rfl rfl rfl rfl rfl rfl (by decide +kernel) ⟨trivial,fun _ _ _=>trivial,trivial⟩ (fun A w' hA=>St.sub hA (by simp only [List.cons_append,List.nil_append];repeat (first | exact List.sublist_append_left _ _ | apply List.Sublist.cons))) (fun bp4=>?_)
 refine DP.nil ?_
 refine DW.castL (by simp only [List.cons_append,List.nil_append];exact rfl) ?_
 all_goals (
  apply DW.loud 13
  ·exact rfl
  ·decide +kernel
  repeat'(first|refine gw ?_)
  all_goals (refine ats ?_))
 all_goals (
  apply DW.quiet [14]
  ·decide +kernel
  ·exact stZ
  repeat'(first|refine gq ?_|apply QL.nil)
  all_goals (show DW _ _ _ _ _ _ _ _))
 all_goals (first | (apply DW.done_thn;(·decide +kernel)) |fail)
 have hal := alone_in hI (show S.number ≤ maxN by omega)
 have ex : newC S.number S.node (2 ^ S.node.toNat) S.entry = chkdC ⟨S.number,S.node,2 ^ S.node.toNat,1,[S.entry]⟩ := rfl
 rw [ex] at hal ⊢
 have hmx : memI (chkdC ⟨S.number,S.node,2 ^ S.node.toNat,1,[S.entry]⟩).1.mem := by
  unfold chkdC
  split
  ·exact crew_I hpow.1
  ·show memI 0;exact ⟨by decide,by decide⟩
 generalize chkdC ⟨S.number,S.node,2 ^ S.node.toNat,1,[S.entry]⟩ = x at *
 repeat'(first|refine gz ?_|(refine gs ?_ ?_;all_goals(intro hc;try simp only[hcs]at hc;try exact abz)))
 ·rw [if_neg (by assumption)]
  apply ret0
  ·exact rfl
  intro w' hS
  exact ⟨Z,hZ,hS.sub subN⟩
 have hx0 : x.2 = 0 := by assumption
 obtain ⟨hal1,hal2⟩ := hal hx0
 rw [if_pos hx0]
 apply LR.call
 ·exact rfl
 intro w1 h1
 refine CallsTo.mono (r41 b Z S S.number w1 (rg_mid [_,_,_] h1)) ?_
 intro v w2 hw2
 refine LR.back hw2 ?_
 clear hw2 h1
 repeat'(first|refine gz ?_)
 apply LR.call
 ·exact rfl
 intro w1 h1
 refine CallsTo.mono (r136 b Z (S.keep S.number) x.1 ac cc w1 h1 ⟨hZ.q,hZ.ql,hZ.nd,hZ.gp,hZ.np,hZ.ap,hZ.pk,hZ.ev⟩ (fun w' hw'=>hw'.rd_of_own (n := x.1.ents.length) memZ) hmx hI.c.wn.ok hI.c.dn.byt (by show S.now.D.length ≤ _;have := hI.c.len;omega)) ?_
 rintro v w2 ⟨Z2,hZ2,hw2⟩
 refine LR.back hw2 ?_
 clear hw2 h1
 repeat'(first|refine gz ?_)
 apply LR.call
 ·exact rfl
 intro w1 h1
 refine CallsTo.mono (r137 b ((S.keep S.number).regain x.1) w1 ⟨Z2,hZ2,h1⟩ hal1 rfl hn (by omega)) ?_
 rintro v w2 ⟨Z3,hZ3,hw2⟩
 refine LR.back hw2 ?_
 repeat'(first|refine gz ?_)
 apply end0
 ·exact rfl
 intro w' hS
 exact Nd.le (R := _ :: _ :: _ :: R) ⟨Z3,hZ3,hS⟩ ((List.sublist_cons_self _ _).trans ((List.sublist_cons_self _ _).trans (List.sublist_cons_self _ _)))
set_option maxHeartbeats 8000000 in
theorem r49 (b : Nat) (S : Rg) (k : Int) (w : World) (h : Nd w0 F b S R w) (hI : Inv node E kept lo n o S) (hn : n ≤ 29000) (ho : o ≤ 600000) :
  CallsTo Tryz.prog 49 [.pointer (some ⟨b,0,none⟩),.int .i64 k] w fun v w'=>Nd w0 F b (S.rings k) R w' := by
 obtain ⟨Z,hZ,h⟩ := h
 obtain ⟨G,hG,hGo,hGn⟩ := hI.g
 obtain ⟨pg,hpg⟩ := hZ.got hG
 have ep : gPtr Z.gp = some ⟨pg.1,0,none⟩ := by rw [hpg];rfl
 have eG : S.gth = G := by unfold Rg.gth;rw [hG];rfl
 have hnd := hI.nodeR
 have hop := hI.op
 refine go_inS (n := 88) h Tryz.func49 rfl rfl ?_
 unfold Rg.rings
 rw [eG]
 by_cases c0 : k = 0 ∧ S.state ≠ 0
 ·rw [if_pos c0]
  obtain ⟨d1,d2⟩ := c0
  subst d1
  repeat'(first|refine gz ?_|(refine gs ?_ ?_;all_goals(intro hc;try simp only[hcs]at hc;try exact abz)))
  apply LR.call
  ·exact rfl
  intro w1 h1
  refine CallsTo.mono (r43 b S w1 ⟨Z,hZ,h1⟩ hnd hI.numB (by omega)) ?_
  rintro v w2 ⟨Z3,hZ3,hw2⟩
  refine LR.back hw2 ?_
  repeat'(first|refine gz ?_)
  apply end0
  ·exact rfl
  intro w' hS
  exact ⟨Z3,hZ3,hS⟩
 rw [if_neg c0]
 by_cases c1 : k = 1 ∧ S.state = 0
 ·rw [if_pos c1]
  obtain ⟨d1,d2⟩ := c1
  subst d1
  repeat'(first|refine gz ?_|(refine gs ?_ ?_;all_goals(intro hc;try simp only[hcs]at hc;try exact abz)))
  apply LR.call
  ·exact rfl
  intro w1 h1
  refine CallsTo.mono (r68 b S G w1 ⟨Z,hZ,h1⟩ hG hGo.j (by omega)) ?_
  rintro v w2 ⟨Z3,hZ3,hw2⟩
  refine LR.back hw2 ?_
  clear hw2 h1
  repeat'(first|refine gz ?_)
  apply LR.call
  ·exact rfl
  intro w1 h1
  refine CallsTo.mono (show CallsTo Tryz.prog 83 [.pointer (some ⟨Z3.ba,0,none⟩),.int .i64 1,.int .i64 4] w1 _ from r83 Z3.ba Z3.bam S.join.tm.get 1 4 w1 (h1.holds (alO Z3.ba Z3.bam S.join.tm.get) memZ) (by decide) (by decide)) ?_
  rintro v w2 ⟨rfl,st⟩
  have h2 := h1.did selZ rfl st (alO_dep _ _ _)
  rw [tm_set _ (by decide)] at h2
  refine LR.back (C := St w0 F (rgL b Z3 { S.join with tm := S.join.tm.set 1 4 } R)) h2 ?_
  repeat'(first|refine gz ?_)
  apply end0
  ·exact rfl
  intro w' hS
  exact ⟨Z3,⟨hZ3.q,hZ3.ql,hZ3.nd,hZ3.gp,hZ3.np,hZ3.ap,hZ3.pk,hZ3.ev⟩,hS⟩
 rw [if_neg c1]
 by_cases c2 : k = 2 ∧ S.state = 0
 ·rw [if_pos c2]
  obtain ⟨d1,d2⟩ := c2
  subst d1
  by_cases hh : G.heard = 2 ^ S.node.toNat
  ·rw [if_pos hh]
   have hh2 : G.heard = IntKind.i64.wrap (1 * 2 ^ min S.node.toNat IntKind.i64.bits) := by rw [wrap_pow hnd];exact hh
   repeat'(first|refine gz ?_|(apply LR.ev;(·first | (apply Ev.field (v := .int .i64 G.heard) Tryz.underlying56;(·exact rfl);(·exact (inferInstance : Go.Hb.One Tryz.prog 3));(·exact rfl);(·exact rfl)) |fail);(·exact rfl))|(apply kq;(·exact rfl);(·intro w1 h1;have hq := r84 pg.1 pg.2 G w1 (rg_ga (b := b) hpg hG h1 memZ) hGo.j;rw [← ep] at hq;exact CallsTo.q hq h1))|(refine gs ?_ ?_;all_goals(intro hc;try simp only[hcs]at hc;try exact abz)))
   all_goals (first | skip)
   apply LR.call
   ·exact rfl
   intro w1 h1
   refine CallsTo.mono (r85 b S w1 ⟨Z,hZ,h1⟩ hI hn ho) ?_
   rintro v w2 ⟨Z3,hZ3,hw2⟩
   refine LR.back hw2 ?_
   repeat'(first|refine gz ?_)
   apply end0
   ·exact rfl
   intro w' hS
   exact ⟨Z3,hZ3,hS⟩
  ·rw [if_neg hh]
   have hh2 : ¬ G.heard = IntKind.i64.wrap (1 * 2 ^ min S.node.toNat IntKind.i64.bits) := by rw [wrap_pow hnd];exact hh
   repeat'(first|refine gz ?_|(apply LR.ev;(·first | (apply Ev.field (v := .int .i64 G.heard) Tryz.underlying56;(·exact rfl);(·exact (inferInstance : Go.Hb.One Tryz.prog 3));(·exact rfl);(·exact rfl)) |fail);(·exact rfl))|(apply kq;(·exact rfl);(·intro w1 h1;have hq := r84 pg.1 pg.2 G w1 (rg_ga (b := b) hpg hG h1 memZ) hGo.j;rw [← ep] at hq;exact CallsTo.q hq h1))|(refine gs ?_ ?_;all_goals(intro hc;try simp only[hcs]at hc;try exact abz)))
   all_goals (first | skip)
   apply LR.call
   ·exact rfl
   intro w1 h1
   refine CallsTo.mono (r43 b S w1 ⟨Z,hZ,h1⟩ hnd hI.numB (by omega)) ?_
   rintro v w2 ⟨Z3,hZ3,hw2⟩
   refine LR.back hw2 ?_
   repeat'(first|refine gz ?_)
   apply end0
   ·exact rfl
   intro w' hS
   exact ⟨Z3,hZ3,hS⟩
 rw [if_neg c2]
 by_cases c3 : k = 3 ∧ (S.state = 3 ∨ S.state = 2)
 ·rw [if_pos c3]
  obtain ⟨d1,d2⟩ := c3
  subst d1
  repeat'(first|refine gz ?_|(refine gs ?_ ?_;all_goals(intro hc;try simp only[hcs]at hc;try exact abz)))
  all_goals (first | skip)
  all_goals (
   apply LR.call
   ·exact rfl
   intro w1 h1
   refine CallsTo.mono (r86 b S w1 ⟨Z,hZ,h1⟩ hI.last.1 hI.last.2.1 hI.last.2.2 (by omega)) ?_
   rintro v w2 ⟨Z3,hZ3,hw2⟩
   refine LR.back hw2 ?_
   clear hw2 h1
   repeat'(first|refine gz ?_)
   apply LR.call
   ·exact rfl
   intro w1 h1
   refine CallsTo.mono (show CallsTo Tryz.prog 83 [.pointer (some ⟨Z3.ba,0,none⟩),.int .i64 3,.int .i64 12] w1 _ from r83 Z3.ba Z3.bam S.resend.tm.get 3 12 w1 (h1.holds (alO Z3.ba Z3.bam S.resend.tm.get) memZ) (by decide) (by decide)) ?_
   rintro v w2 ⟨rfl,st⟩
   have h2 := h1.did selZ rfl st (alO_dep _ _ _)
   rw [tm_set _ (by decide)] at h2
   refine LR.back (C := St w0 F (rgL b Z3 { S.resend with tm := S.resend.tm.set 3 12 } R)) h2 ?_
   repeat'(first|refine gz ?_)
   apply end0
   ·exact rfl
   intro w' hS
   exact ⟨Z3,⟨hZ3.q,hZ3.ql,hZ3.nd,hZ3.gp,hZ3.np,hZ3.ap,hZ3.pk,hZ3.ev⟩,hS⟩)
 rw [if_neg c3]
 have hst := hI.st
 by_cases hs0 : S.state = 0
 ·have hk2 : ¬ k = 2 := fun e=>c2 ⟨e,hs0⟩
  have hk1 : ¬ k = 1 := fun e=>c1 ⟨e,hs0⟩
  repeat'(first|refine gz ?_|(refine gs ?_ ?_;all_goals(intro hc;try simp only[hcs]at hc;try exact abz)))
  all_goals (
   first
    | (exfalso;first | omega )
    | (apply end0
       ·exact rfl
       intro w' hS
       exact ⟨Z,hZ,hS⟩))
 ·have hk0 : ¬ k = 0 := fun e=>c0 ⟨e,hs0⟩
  repeat'(first|refine gz ?_|(refine gs ?_ ?_;all_goals(intro hc;try simp only[hcs]at hc;try exact abz)))
  all_goals (
   first
    | (exfalso;first | omega )
    | (apply end0
       ·exact rfl
       intro w' hS
       exact ⟨Z,hZ,hS⟩))
end
theorem tk_tick (t : Tm) : tkG t.get 4 = t.tick.get := by
 funext x
 unfold tkG
 by_cases h0 : x = 0
 ·subst h0;rfl
 by_cases h1 : x = 1
 ·subst h1;rfl
 by_cases h2 : x = 2
 ·subst h2;rfl
 by_cases h3 : x = 3
 ·subst h3;rfl
 rw [if_neg (by omega)]
 unfold Tm.get
 rw [if_neg h0,if_neg h1,if_neg h2,if_neg h3,if_neg h0,if_neg h1,if_neg h2,if_neg h3]
theorem due_tick (t : Tm) : dueG t.get 4 = t.due := rfl
structure Tks where
 i : Nat
 Z : RA
section
variable {w0 : World} {F : Nat → Prop} {R : List Asrt} {node : Int} {E : List EvD} {kept lo : Int} {n o : Nat}
set_option maxHeartbeats 8000000 in
theorem r17 (b : Nat) (S : Rg) (w : World) (h : Nd w0 F b S R w) (hI : Inv node E kept lo n 0 S) (hn : n + 16 ≤ 29000) :
  CallsTo Tryz.prog 17 [.pointer (some ⟨b,0,none⟩)] w fun v w'=>Odone w0 F b R S.tick v w' := by
 obtain ⟨Z,hZ,h⟩ := h
 have hI1 := hI.tms (tick_bd hI.tm)
 have hdl := due_len S.tm
 unfold Rg.tick
 dsimp only
 refine go_inS (n := 35) h Tryz.func17 rfl rfl ?_
 repeat'(first|(refine kA' fun b2=>?_)|refine gz ?_|(apply kq;(·exact rfl);(·intro w1 h1;exact CallsTo.mono (r45 b Z S w1 (rg_mid [_] h1)) (fun v w' h=>⟨h.1,front h.2 14 rfl rfl⟩)))|fail)
 apply LR.call
 ·exact rfl
 intro w1 h1
 refine CallsTo.mono (show CallsTo Tryz.prog 48 [.pointer (some ⟨Z.ba,0,none⟩)] w1 _ from r48 Z.ba Z.bam S.tm.get w1 (h1.holds (alO Z.ba Z.bam S.tm.get) memZ) hI.tm) ?_
 rintro v w2 ⟨a,c,rfl,st⟩
 rw [tk_tick,due_tick] at st
 rw [due_tick]
 have hrd : Rd w2 a (iv S.tm.due) := ownsRow_rd (st.holds (osl (.slice a S.tm.due.length c) 3 1 S.tm.due.length (iv S.tm.due)) memZ)
 have h2 := St.did1 (a := alO Z.ba Z.bam S.tm.get) h1 selZ rfl rfl rfl st
 generalize S.tm.due = due at *
 refine LR.back (C := St w0 F (osl (.slice a due.length c) 3 1 due.length (iv due) :: .own b2 (.cells #[.int .i64 0,.slice none 0 0,.slice none 0 0] 40 (0,0)) :: rgL b Z { S with tm := S.tm.tick } R)) h2 ?_
 clear h2 st h1
 have hZ1 : RepA Z { S with tm := S.tm.tick } := ⟨hZ.q,hZ.ql,hZ.nd,hZ.gp,hZ.np,hZ.ap,hZ.pk,hZ.ev⟩
 generalize ({ S with tm := S.tm.tick } : Rg) = S1 at *
 repeat'(first|refine gz ?_)
 apply CW.loop [7,25,26,27,28,29,30,31,32] (fun s : Tks=>s.i ≤ due.length ∧ RepA s.Z ((due.take s.i).foldl Rg.rings S1)) (fun s=>[(25,.int .i64 (s.i : Int))])
  (fun s=>St w0 F (osl (.slice a due.length c) 3 1 due.length (iv due) :: .own b2 (.cells #[.int .i64 0,.slice none 0 0,.slice none 0 0] 40 (0,0)) :: rgL b s.Z ((due.take s.i).foldl Rg.rings S1) R)) (fun s=>due.length - s.i)
 ·exact fun w' hw'=>⟨⟨0,Z⟩,⟨Nat.zero_le _,hZ1⟩,⟨rfl,trivial⟩,hw'⟩
 clear hZ1 hZ h
 rintro ⟨i,Z⟩ g ⟨hi,hZi⟩
 simp only at hi hZi ⊢
 have hIi := Inv.ringsL (due.take i) hI1 (by rw [List.length_take];omega)
 have hti : (due.take i).length = i := by rw [List.length_take];omega
 rw [hti] at hIi
 by_cases hlt : i < due.length
 ·obtain ⟨ba,oa,rfl⟩ := hrd.form (fun e=>by have h1 := congrArg List.length e;rw [iv_length,List.length_nil] at h1;omega)
  obtain ⟨y,hy⟩ : ∃ y,due[i] = y := ⟨_,rfl⟩
  have hly : due[i]? = some y := by rw [List.getElem?_eq_getElem hlt,hy]
  have hsucc : (due.take (i + 1)).foldl Rg.rings S1 = ((due.take i).foldl Rg.rings S1).rings y := by rw [List.take_add_one,hly,Option.toList_some,List.foldl_append];rfl
  generalize (due.take i).foldl Rg.rings S1 = X at *
  repeat'(first|refine gz ?_|(apply idxX;(iterate 2 exact rfl);(iterate 2(first|omega));exact rfl)|(apply LR.ev;(·apply Ev.load;(·exact rfl);(·intro w' hw';refine iv_cell (hw'.rd_of_own (n := due.length) memZ) hly ?_;(·simp;done)));(·exact rfl))|(refine gs ?_ ?_;all_goals(intro hc;try simp only[hcs]at hc;try exact abz)))
  apply LR.call
  ·exact rfl
  intro w1 h1
  refine CallsTo.mono (r49 b X y w1 ⟨Z,hZi,rg_mid [_,_] h1⟩ hIi (by omega) (by omega)) ?_
  rintro v w2 ⟨Z2,hZ2,hw2⟩
  refine LR.back hw2 ?_
  clear hw2 h1
  repeat'(first|refine gz ?_|(apply addX;(iterate 2 exact rfl);(iterate 2(first|omega));exact rfl))
  refine At.again (⟨i + 1,Z2⟩ : Tks) ⟨by show i + 1 ≤ _;omega,by show RepA Z2 _;rw [hsucc];exact hZ2⟩ ?_ ⟨rfl,trivial⟩ (fun w' hw'=>?_) (by show due.length - (i + 1) < due.length - i;omega)
  ·exact outZ
  ·show St w0 F (_ :: _ :: rgL b Z2 ((due.take (i + 1)).foldl Rg.rings S1) R) w'
   rw [hsucc]
   exact front (front hw' 15 rfl rfl) 15 rfl rfl
 ·have hie : i = due.length := by omega
  subst hie
  rw [List.take_length] at hZi ⊢
  generalize due.foldl Rg.rings S1 = X at *
  repeat'(first|refine gz ?_|(apply LR.call;(·exact rfl);(intro w1 h1;refine CallsTo.mono (r44 b Z X w1 (rg_mid [_,_] h1) hZi) ?_;rintro v w2 ⟨x,rfl,hx,A3,hA3,hw2⟩;refine LR.back hw2 ?_;clear hw2 h1))|(refine gs ?_ ?_;all_goals(intro hc;try simp only[hcs]at hc;try exact abz)))
  (apply ret2c;(·exact rfl);(·exact inferInstance);(·exact rfl);(·exact memY);(·exact rfl);intro w' hS)
  exact ⟨x,rfl,hx,A3,hA3,hS.sub subN⟩
theorem Inv.fireI {S : Rg} (h : Inv node E kept lo n o S) (k : Int) : Inv node E kept lo n o { S with tm := S.tm.set k 0 } := h.tms (tm_set_bd h.tm (by decide))
set_option maxHeartbeats 8000000 in
theorem r18 (b : Nat) (S : Rg) (k : Int) (w : World) (h : Nd w0 F b S R w) (hI : Inv node E kept lo n o S) (hn : n ≤ 29000) (ho : o ≤ 600000) :
  CallsTo Tryz.prog 18 [.pointer (some ⟨b,0,none⟩),.int .i64 k] w fun v w'=>Odone w0 F b R (S.fire k) v w' := by
 obtain ⟨Z,hZ,h⟩ := h
 unfold Rg.fire
 refine go_inS (n := 38) h Tryz.func18 rfl rfl ?_
 by_cases hk : k < 0 ∨ 4 ≤ k
 ·rw [if_pos hk]
  repeat'(first|(refine kA' fun b2=>?_)|refine gz ?_|(apply kq;(·exact rfl);(·intro w1 h1;exact CallsTo.mono (r45 b Z S w1 (rg_mid [_] h1)) (fun v w' h=>⟨h.1,front h.2 14 rfl rfl⟩)))|(refine gs ?_ ?_;all_goals(intro hc;try simp only[hcs]at hc;try exact abz)))
  all_goals (first | skip)
  all_goals (
   (apply ret2c;(·exact rfl);(·exact inferInstance);(·exact rfl);(·exact memY);(·exact rfl);intro w' hS)
   exact Odone.no hZ (hS.sub subN))
 rw [if_neg hk]
 have hik : inK k = 0 := by unfold inK;rw [if_neg (by omega)]
 by_cases h0 : S.tm.get k = 0
 ·rw [if_pos h0]
  repeat'(first|(refine kA' fun b2=>?_)|refine gz ?_|(apply kq;(·exact rfl);(·intro w1 h1;first | exact CallsTo.mono (r45 b Z S w1 (rg_mid [_] h1)) (fun v w' h=>⟨h.1,front h.2 14 rfl rfl⟩) | (have hq := r50 Z.ba Z.bam S.tm.get k w1 (h1.holds (alO Z.ba Z.bam S.tm.get) memZ);rw [hik,if_pos rfl,h0] at hq;exact CallsTo.q (show CallsTo Tryz.prog 50 [.pointer (some ⟨Z.ba,0,none⟩),.int .i64 k] w1 _ from hq) h1)))|(refine gs ?_ ?_;all_goals(intro hc;try simp only[hcs]at hc;try exact abz)))
  all_goals (first | skip)
  (apply ret2c;(·exact rfl);(·exact inferInstance);(·exact rfl);(·exact memY);(·exact rfl);intro w' hS)
  exact Odone.no hZ (hS.sub subN)
 rw [if_neg h0]
 dsimp only
 repeat'(first|(refine kA' fun b2=>?_)|refine gz ?_|(apply kq;(·exact rfl);(·intro w1 h1;first | exact CallsTo.mono (r45 b Z S w1 (rg_mid [_] h1)) (fun v w' h=>⟨h.1,front h.2 14 rfl rfl⟩) | (have hq := r50 Z.ba Z.bam S.tm.get k w1 (h1.holds (alO Z.ba Z.bam S.tm.get) memZ);rw [hik,if_pos rfl] at hq;exact CallsTo.q (show CallsTo Tryz.prog 50 [.pointer (some ⟨Z.ba,0,none⟩),.int .i64 k] w1 _ from hq) h1)))|(refine gs ?_ ?_;all_goals(intro hc;try simp only[hcs]at hc;try exact abz)))
 all_goals (first | skip)
 apply LR.call
 ·exact rfl
 intro w1 h1
 refine CallsTo.mono (show CallsTo Tryz.prog 51 [.pointer (some ⟨Z.ba,0,none⟩),.int .i64 k] w1 _ from r51 Z.ba Z.bam S.tm.get k w1 (h1.holds (alO Z.ba Z.bam S.tm.get) memZ) (by omega)) ?_
 rintro v w2 ⟨rfl,st⟩
 have h2 := h1.did selZ rfl st (alO_dep _ _ _)
 rw [tm_set _ (by omega)] at h2
 refine LR.back (C := St w0 F (.own b2 (.cells #[.int .i64 0,.slice none 0 0,.slice none 0 0] 40 (0,0)) :: rgL b Z { S with tm := S.tm.set k 0 } R)) h2 ?_
 clear h2 st h1
 have hIf := hI.fireI k
 have hZ1 : RepA Z { S with tm := S.tm.set k 0 } := ⟨hZ.q,hZ.ql,hZ.nd,hZ.gp,hZ.np,hZ.ap,hZ.pk,hZ.ev⟩
 generalize ({ S with tm := S.tm.set k 0 } : Rg) = S1 at *
 repeat'(first|refine gz ?_)
 apply LR.call
 ·exact rfl
 intro w1 h1
 refine CallsTo.mono (r49 b S1 k w1 ⟨Z,hZ1,rg_mid [_] h1⟩ hIf hn ho) ?_
 rintro v w2 ⟨Z2,hZ2,hw2⟩
 refine LR.back hw2 ?_
 clear hw2 h1
 repeat'(first|refine gz ?_|(apply LR.call;(·exact rfl);(intro w1 h1;refine CallsTo.mono (r44 b Z2 (S1.rings k) w1 h1 hZ2) ?_;rintro v w2 ⟨x,rfl,hx,A3,hA3,hw2⟩;refine LR.back hw2 ?_;clear hw2 h1))|fail)
 (apply ret2c;(·exact rfl);(·exact inferInstance);(·exact rfl);(·exact memY);(·exact rfl);intro w' hS)
 exact ⟨x,rfl,hx,A3,hA3,hS.sub subN⟩
end
end Go.Proofs.YtohbcfokihplbaaGreatDoor
namespace Go.Proofs.YtohbcfokihplbaaGreatDoor
open Go.Hb
theorem ret3m {P : Program} {n m : Nat} {f : Frm} {fn : Func} {K : Value → World → Prop} {w0 : World} {F : Nat → Prop} {L : List Asrt} {t u s : Tmp} {T : TypeId} {b : Nat} {cs : List Value} {E : TypeId} {fr : Nat × Nat} (hr : fn.results = #[.tmp t,.cell u T,.tmp s]) (h : Agg P T m) (hp : f u = .pointer (some ⟨b,0,none⟩)) (hm : Asrt.own b (.cells cs.toArray E fr) ∈ L) (hl : Nat.beq cs.length m = true) (hk : ∀ w,St w0 F L w → K (.tuple [f t,.agg cs.toArray,f s].toArray) w) :
  At (finK P fn n K) .ret f (St w0 F L) := by
 intro w hw a ha
 refine bodyPost_ret (v := .tuple #[f t,.agg cs.toArray,f s]) ?_ ha.1 ⟨_,rfl,hk w hw⟩
 have hld := load_own_all (P := P) h (hw.own_at hm) (Nat.eq_of_beq_eq_true hl)
 have hp' : a.tmps.getD u undef = .pointer (some ⟨b,0,none⟩) := by rw [ha.2.2];exact hp
 have ht' : a.tmps.getD t undef = f t := ha.2.2 t
 have hs' : a.tmps.getD s undef = f s := ha.2.2 s
 simp [results,hr,hp',ht',hs',asAddr,hld,-Array.getD_eq_getD_getElem?]
attribute [local irreducible] LR CW At Ev thn blk finK noG again CallsTo DW QL dnext TW DP
set_option maxRecDepth 100000
theorem noTm_get : noTm.get = fun _=>0 := by
 funext k
 unfold Tm.get noTm
 (repeat' split) <;> rfl
theorem zero94 : Tryz.zeroCells94 = ([.int .i64 0,.int .i64 0,.int .i64 0,.int .i64 0,.pointer none,.pointer none,.int .i64 0,.int .i64 0,.int .i64 0,.int .i64 0,.int .i64 0,.bool false,.int .i64 0,.pointer none,.int .i64 0,.int .i64 0,.int .i64 0,.pointer none,.pointer none,.int .i64 0,.int .i64 0,.int .i64 0,.int .i64 0,.int .i64 0,.bool false,.int .i64 0,.pointer none,.int .i64 0,.int .i64 0,.int .i64 0,.int .i64 0,.int .i64 0,.int .i64 0,.int .i64 0,.int .i64 0,.int .i64 0,.int .i64 0,.pointer none,.bool false,.int .i64 0,.int .i64 0,.int .i64 0,.int .i64 0,.int .i64 0,.int .i64 0,.int .i64 0,.int .i64 0,.int .i64 0,.int .i64 0,.int .i64 0,.int .i64 0,.int .i64 0,.int .i64 0,.bool false,.int .i64 0,.int .i64 0,.int .i64 0,.int .i64 0,.slice none 0 0,.int .i64 0,.int .i64 0,.int .i64 0,.int .i64 0,.int .i64 0,.int .i64 0,.int .i64 0,.int .i64 0,.slice none 0 0,.int .i64 0,.int .i64 0,.int .i64 0,.int .i64 0,.int .i64 0,.int .i64 0,.int .i64 0,.slice none 0 0,.int .i64 0,.int .i64 0,.int .i64 0,.int .i64 0,.slice none 0 0,.slice none 0 0] : List Value).toArray := by kernel_rfl
instance : Build Tryz.prog 94 [.int .i64 0,.int .i64 0,.int .i64 0,.int .i64 0,.pointer none,.pointer none,.int .i64 0,.int .i64 0,.int .i64 0,.int .i64 0,.int .i64 0,.bool false,.int .i64 0,.pointer none,.int .i64 0,.int .i64 0,.int .i64 0,.pointer none,.pointer none,.int .i64 0,.int .i64 0,.int .i64 0,.int .i64 0,.int .i64 0,.bool false,.int .i64 0,.pointer none,.int .i64 0,.int .i64 0,.int .i64 0,.int .i64 0,.int .i64 0,.int .i64 0,.int .i64 0,.int .i64 0,.int .i64 0,.int .i64 0,.pointer none,.bool false,.int .i64 0,.int .i64 0,.int .i64 0,.int .i64 0,.int .i64 0,.int .i64 0,.int .i64 0,.int .i64 0,.int .i64 0,.int .i64 0,.int .i64 0,.int .i64 0,.int .i64 0,.int .i64 0,.bool false,.int .i64 0,.int .i64 0,.int .i64 0,.int .i64 0,.slice none 0 0,.int .i64 0,.int .i64 0,.int .i64 0,.int .i64 0,.int .i64 0,.int .i64 0,.int .i64 0,.int .i64 0,.slice none 0 0,.int .i64 0,.int .i64 0,.int .i64 0,.int .i64 0,.int .i64 0,.int .i64 0,.int .i64 0,.slice none 0 0,.int .i64 0,.int .i64 0,.int .i64 0,.int .i64 0,.slice none 0 0,.slice none 0 0] [(0,1),(1,1),(2,1),(3,1),(4,1),(5,1),(6,11),(17,1),(18,1),(19,11),(30,6),(36,1),(37,1),(38,1),(39,40),(79,3)] := ⟨fun w parts cells h=>by
 simp only [Instr.build,Sem.run_bind,Tryz.zeroValue94,run_underlying Tryz.underlying94,Result.andThen_ok]
 simp only [List.mapM_toArray,List.mapM_cons,List.mapM_nil,Sem.run_bind,Sem.run_map,Sem.run_pure,Result.andThen_ok,pure_bind,bind_assoc,map_eq_pure_bind,Tryz.sizeOf3,Tryz.sizeOf4,Tryz.sizeOf40,Tryz.sizeOf63,Tryz.sizeOf83,Tryz.sizeOf84,Tryz.sizeOf87,Tryz.sizeOf88,Tryz.sizeOf89,Tryz.sizeOf91,Tryz.sizeOf92,Value.cells]
 rw [zero94,h]
 rfl⟩
def newS (nd c : Int) : Rg := ⟨nd,0,0,0,noTm,[],newWay (plainCfg (c + 1) nd (2 ^ nd.toNat) 0),0,none,noWay,zeroEnt,0,none,false,zeroPkt,0,[],[]⟩
set_option maxHeartbeats 8000000 in
theorem r14 (nd c : Int) (w : World) (ht : Rd w (some ⟨1,0,none⟩) (bv tab64)) (hm : mayNew nd c = true) :
  CallsTo Tryz.prog 14 [.int .i64 nd,.int .i64 c] w fun v w'=>∃ (x : OutA) (b : Nat) (Z : RA),v = .tuple [.pointer (some ⟨b,0,none⟩),x.val,.int .i64 0].toArray ∧ x.o = (newRg nd c).2 ∧ RepA Z (newRg nd c).1 ∧ St w NoF (outO x (rgL b Z (newRg nd c).1 [])) w' := by
 have hm2 := hm
 unfold mayNew maxN at hm2
 rw [decide_eq_true_eq] at hm2
 have hnd : 1 ≤ nd ∧ nd ≤ 8 := ⟨hm2.1,hm2.2.1⟩
 refine go_in (n := 64) (St.rd1 ht) Tryz.func14 rfl rfl ?_
 repeat'(first|(refine kA' fun b2=>?_)|(apply CW.reg_heldC)|refine gz ?_|(apply addX;(iterate 2 exact rfl);(iterate 2(first|omega));exact rfl)|(apply LR.call;(·exact rfl);(intro w1 h1;refine CallsTo.mono (r37 w1) ?_;rintro v w2 ⟨ba,bam,rfl,hn⟩;refine LR.back (h1.got hn (alO_dep _ _ _)) ?_;clear hn h1))|(refine gs ?_ ?_;all_goals(intro hc;try simp only[hcs]at hc;try exact abz)))
 all_goals (first | skip)
 rw [wrap_pow hnd]
 all_goals (
  apply DW.quiet [0,1,3]
  ·decide +kernel
  ·exact stZ
  repeat'(first|refine gq ?_|apply QL.nil)
  all_goals (show DW _ _ _ _ _ _ _ _))
 all_goals (
  apply DW.loud 2
  ·exact rfl
  ·decide +kernel
  repeat'(first|refine gw ?_|(apply LR.call;(·exact rfl);(intro w1 h1;first | (refine CallsTo.mono (show CallsTo Tryz.prog 38 [] w1 _ from c38 w1) ?_;rintro v w2 ⟨bq,rfl,hn⟩;refine LR.back (h1.got hn (Asrt.dep_own _ _)) ?_;clear hn h1) )))
  all_goals (refine ats ?_))
 all_goals (
  apply DW.loud 4
  ·exact rfl
  ·decide +kernel
  repeat'(first|refine gw ?_|(apply LR.call;(·exact rfl);(intro w1 h1;first | (refine CallsTo.mono (show CallsTo Tryz.prog 39 [(plainCfg (c + 1) nd (2 ^ nd.toNat) 0).val] w1 _ from r39 _ w1) ?_;rintro v w2 ⟨bw,bm,rfl,hn⟩;refine LR.back (h1.got hn (wO_dep _ _ _ _ _)) ?_;clear hn h1) )))
  all_goals (refine ats ?_))
 all_goals (
  apply DW.loud 5
  ·exact rfl
  ·decide +kernel
  repeat'(first|refine gw ?_|(apply LR.call;(·exact rfl);(intro w1 h1;first | (refine CallsTo.mono (show CallsTo Tryz.prog 40 [] w1 _ from r40 w1) ?_;rintro v w2 ⟨bo,rfl,hn⟩;refine LR.back (h1.got hn (Asrt.dep_own _ _)) ?_;clear hn h1))))
  all_goals (refine ats ?_))
 all_goals (
  apply DW.quiet [6]
  ·decide +kernel
  ·exact stZ
  repeat'(first|refine gq ?_|apply QL.nil)
  all_goals (show DW _ _ _ _ _ _ _ _))
 all_goals (
  apply DW.loud 7
  ·exact rfl
  ·decide +kernel
  repeat'(first|(refine kB' fun br=>?_)|refine gw ?_)
  all_goals (refine ats ?_))
 all_goals (
  apply DW.quiet [8]
  ·decide +kernel
  ·exact stZ
  repeat'(first|refine gq ?_|apply QL.nil)
  all_goals (show DW _ _ _ _ _ _ _ _))
 all_goals (first | (apply DW.done_thn;(·decide +kernel)) |fail)
 repeat'(first|refine gz ?_)
 apply LR.call
 ·exact rfl
 intro w1 h1
 rw [← noTm_get] at h1
 have k0 := St.join (front (St.bun_nil MsgA.dep (front h1 3 rfl rfl)) 1 rfl rfl) rfl rfl
 have k1 := front k0 7 rfl rfl
 have k2 := St.nilsl 63 40 (St.bun_nil PkA.dep (St.nilsl 76 26 (St.bun_nil EvA.dep k1)))
 have k3 := St.osl_odl (St.nilsl 3 1 k2) (Sel.head _ _ _)
 have k4 := k3.addTriv.addTriv.addTriv
 have k5 := front (front (front (front (front k4 11 rfl rfl) 12 rfl rfl) 11 rfl rfl) 14 rfl rfl) 13 rfl rfl
 obtain ⟨Z0,hZ0⟩ : ∃ Z0 : RA,(⟨ba,bam,bq,0,List.replicate 32 zeroQA,[],bw,bm,[],bo,none,none,none,none,0,none,0,[],none,0,[]⟩ : RA) = Z0 := ⟨_,rfl⟩
 have hR0 : RepA Z0 (newS nd c) := by
  rw [← hZ0]
  exact ⟨⟨by simp,(show (0 : Nat) < 32 by decide),by simp,fun i h=>absurd h (Nat.not_lt_zero i)⟩,rfl,rfl,rfl,rfl,rfl,rfl,rfl⟩
 have k6 : St w NoF (rgL br ⟨ba,bam,bq,0,List.replicate 32 zeroQA,[],bw,bm,[],bo,none,none,none,none,0,none,0,[],none,0,[]⟩ (newS nd c) (_ :: _ :: [])) w1 := k5
 rw [hZ0] at k6
 clear k5 k4 k3 k2 k1 k0 h1 hZ0
 refine CallsTo.mono (r41 br Z0 (newS nd c) (c + 1) w1 k6) ?_
 intro v w2 hw2
 refine LR.back hw2 ?_
 clear hw2 k6
 have hR1 : RepA Z0 ((newS nd c).keep (c + 1)) := ⟨hR0.q,hR0.ql,hR0.nd,hR0.gp,hR0.np,hR0.ap,hR0.pk,hR0.ev⟩
 generalize hS1 : (newS nd c).keep (c + 1) = S1 at *
 repeat'(first|(apply Go.Hb.kK;(iterate 4 exact rfl);intro bs)|refine gz ?_)
 apply LR.call
 ·exact rfl
 intro w1 h1
 have j1 := St.bun_snoc (l := []) (x := cfgA (plainCfg (c + 1) nd (2 ^ nd.toNat) 0)) EvA.dep EvA.ex (St.nilsl 5 1 (St.bun_nil EvA.dep (rg_mid [_] h1)))
 have hlen : Z0.ev.length + 1 ≤ 10000000 := by rw [hR1.oe_len,← hS1];show (0 : Nat) + 1 ≤ 10000000;decide
 refine CallsTo.mono (r42 br Z0 S1 (some ⟨bs,0,none⟩) 1 [cfgA (plainCfg (c + 1) nd (2 ^ nd.toNat) 0)] w1 j1 (fun w' hw'=>hw'.rd_of_blk (mH _ _)) (by simp) hlen) ?_
 rintro v w2 ⟨ea,ec,hw2⟩
 refine LR.back hw2 ?_
 clear hw2 j1 h1
 have hR2 := hR1.told ea ec [cfgA (plainCfg (c + 1) nd (2 ^ nd.toNat) 0)]
 generalize hZ2 : ({ Z0 with ea := ea,ec := ec,ev := Z0.ev ++ [cfgA (plainCfg (c + 1) nd (2 ^ nd.toNat) 0)] } : RA) = Z2 at *
 have eN : newRg0 nd c = (S1.tell [cfgE (plainCfg (c + 1) nd (2 ^ nd.toNat) 0)]).gather := by rw [← hS1];rfl
 have hn1 : S1.node = nd := by rw [← hS1];rfl
 have hc1 : S1.counter = c + 1 := by rw [← hS1];rfl
 have ho1 : S1.op = [] := by rw [← hS1];rfl
 have eT : S1.tell ([cfgA (plainCfg (c + 1) nd (2 ^ nd.toNat) 0)].map EvA.e) = S1.tell [cfgE (plainCfg (c + 1) nd (2 ^ nd.toNat) 0)] := rfl
 rw [eT] at hR2 ⊢
 obtain ⟨S2,hS2⟩ : ∃ S2,S1.tell [cfgE (plainCfg (c + 1) nd (2 ^ nd.toNat) 0)] = S2 := ⟨_,rfl⟩
 have hn2 : S2.node = nd := by rw [← hS2];exact hn1
 have hc2 : S2.counter = c + 1 := by rw [← hS2];exact hc1
 have ho2 : S2.op = [] := by rw [← hS2];exact ho1
 rw [hS2] at hR2 eN ⊢
 repeat'(first|refine gz ?_)
 apply LR.call
 ·exact rfl
 intro w1 h1
 refine CallsTo.mono (r43 br S2 w1 ⟨Z2,hR2,h1⟩ (by rw [hn2];exact hnd) (by rw [hc2];unfold numB;rw [decide_eq_true (by omega),decide_eq_true (by omega)];rfl) (by rw [ho2];exact Nat.zero_le _)) ?_
 rintro v w2 ⟨Z3,hR3,hw2⟩
 rw [← eN] at hR3 hw2
 refine LR.back hw2 ?_
 clear hw2 h1
 repeat'(first|refine gz ?_|(apply LR.call;(·exact rfl);(intro w1 h1;refine CallsTo.mono (r44 br Z3 (newRg0 nd c) w1 h1 hR3) ?_;rintro v w2 ⟨x,rfl,hx,A3,hA3,hw2⟩;refine LR.back hw2 ?_;clear hw2 h1))|fail)
 apply ret3m
 ·exact rfl
 ·exact inferInstance
 ·exact rfl
 ·repeat (first | exact List.Mem.head _ | apply List.Mem.tail)
 ·exact rfl
 intro w' hS
 exact ⟨x,br,A3,rfl,hx,hA3,hS.sub subN⟩
end Go.Proofs.YtohbcfokihplbaaGreatDoor
namespace Go.Proofs.YtohbcfokihplbaaGreatDoor
open Go.Hb
attribute [local irreducible] LR CW At Ev thn blk finK noG again CallsTo DW QL dnext TW DP
set_option maxRecDepth 100000
structure MsH (R : List Asrt) (al : Option Addr) (l : List MsgA) : Prop where
 y : ∃ y ∈ R,(∀ w,y.holds w → Rd w al (l.flatMap MsgA.row) ∧ ∀ x ∈ l,MR w x) ∧ (∀ k,rdFoot al (l.flatMap MsgA.row) k → y.foot k) ∧ ∀ x ∈ l,∀ k,rdFoot x.a (bv x.m.body) k → y.foot k
 m : l.length ≤ 140737488355328
theorem qput_send (n : Nat) (l : List MsgA) : qputE n l = sendE n (l.map MsgA.m) := by
 unfold qputE sendE
 rw [List.any_map,List.length_map]
 rfl
section
variable {w0 : World} {F : Nat → Prop} {R : List Asrt} {node : Int} {E : List EvD} {kept lo : Int} {n o : Nat}
theorem r20 (b : Nat) (Z : RA) (S : Rg) (w : World) (h : St w0 F (rgL b Z S R) w) : CallsTo Tryz.prog 20 [.pointer (some ⟨b,0,none⟩)] w fun v w'=>v = .int .i64 S.clock ∧ St w0 F (rgL b Z S R) w' := by
 refine go_inS (n := 9) h Tryz.func20 rfl rfl ?_
 repeat'(first|refine gz ?_|(apply kq;(·exact rfl);(·intro w1 h1;exact r45 b Z S w1 h1))|fail)
 (apply ret1;(·exact rfl);intro w' hS)
 exact ⟨rfl,hS⟩
theorem r24 (b : Nat) (Z : RA) (S : Rg) (w : World) (h : St w0 F (rgL b Z S R) w) : CallsTo Tryz.prog 24 [.pointer (some ⟨b,0,none⟩)] w fun v w'=>v = .int .i64 S.state ∧ St w0 F (rgL b Z S R) w' := by
 refine go_inS (n := 9) h Tryz.func24 rfl rfl ?_
 repeat'(first|refine gz ?_|(apply kq;(·exact rfl);(·intro w1 h1;exact r45 b Z S w1 h1))|fail)
 (apply ret1;(·exact rfl);intro w' hS)
 exact ⟨rfl,hS⟩
set_option maxHeartbeats 4000000 in
theorem r19 (b : Nat) (S : Rg) (al : Option Addr) (cl : Nat) (l : List MsgA) (w : World) (h : Nd w0 F b S R w) (hM : MsH R al l) :
  CallsTo Tryz.prog 19 [.pointer (some ⟨b,0,none⟩),.slice al l.length cl] w fun v w'=>v = .int .i64 (S.sendM (l.map MsgA.m)).2 ∧ Nd w0 F b (S.sendM (l.map MsgA.m)).1 R w' := by
 obtain ⟨Z,hZ,h⟩ := h
 obtain ⟨y,hy,hyr,hyf,hyg⟩ := hM.y
 refine go_inS (n := 13) h Tryz.func19 rfl rfl ?_
 repeat'(first|refine gz ?_|(apply kq;(·exact rfl);(·intro w1 h1;exact r45 b Z S w1 h1))|fail)
 apply LR.call
 ·exact rfl
 intro w1 h1
 have hap := St.apart (x := qO Z.bq Z.fq Z.slots Z.qL) (h1.sub (L' := qO Z.bq Z.fq Z.slots Z.qL :: R) subN) hy rfl
 have hyw := hyr w1 (h1.holds y (by repeat (first | exact hy | apply List.Mem.tail)))
 refine CallsTo.mono (show CallsTo Tryz.prog 52 [.pointer (some ⟨Z.bq,0,none⟩),.slice al l.length cl] w1 _ from c41 Z.bq Z.fq Z.slots Z.qL al cl l w1 (h1.holds (qO Z.bq Z.fq Z.slots Z.qL) memZ) hZ.q hyw.1 (fun k hk hk2=>hap k hk2 (hyf k hk)) hyw.2 (fun x hx k hk hk2=>hap k hk2 (hyg x hx k hk)) hM.m) ?_
 rintro v w2 ⟨slots',L',rfl,hq2,hL2,st⟩
 have hlen : Z.qL.length = S.wq.length := by rw [← hZ.ql,List.length_map]
 rw [qput_send,hlen] at hL2 ⊢
 refine LR.back (h1.did selZ rfl st (qO_dep _ _ _ _)) ?_
 clear st h1
 repeat'(first|refine gz ?_)
 (apply ret1;(·exact rfl);intro w' hS)
 refine ⟨rfl,?_⟩
 unfold Rg.sendM
 dsimp only
 by_cases h0 : sendE S.wq.length (l.map MsgA.m) = 0
 ·rw [if_pos h0] at hL2 ⊢
  exact ⟨{ Z with slots := slots',qL := L' },⟨hq2,by rw [hL2,hZ.ql],hZ.nd,hZ.gp,hZ.np,hZ.ap,hZ.pk,hZ.ev⟩,hS⟩
 ·rw [if_neg h0] at hL2 ⊢
  exact ⟨{ Z with slots := slots',qL := L' },⟨hq2,by rw [hL2,hZ.ql,List.append_nil],hZ.nd,hZ.gp,hZ.np,hZ.ap,hZ.pk,hZ.ev⟩,hS⟩
end
end Go.Proofs.YtohbcfokihplbaaGreatDoor
namespace Go.Proofs.YtohbcfokihplbaaGreatDoor
open Go.Hb
set_option maxRecDepth 100000
theorem ints_of : ∀ (css : List (List Value)),(∀ c ∈ css,∃ n : Int,c = [.int .i64 n] ∧ i64 n) → ∃ l : List Int,css.flatten = iv l ∧ l.length = css.length ∧ ∀ x ∈ l,i64 x
 | [],_=>⟨[],rfl,rfl,fun p hp=>by simp at hp⟩
 | c :: r,h=>by
  obtain ⟨n,rfl,hp⟩ := h c List.mem_cons_self
  obtain ⟨l,h1,h2,h3⟩ := ints_of r fun c hc=>h c (List.mem_cons_of_mem _ hc)
  refine ⟨n :: l,by rw [List.flatten_cons,h1];rfl,by simp [h2],fun q hq=>?_⟩
  rcases List.mem_cons.1 hq with rfl | hq
  ·exact hp
  ·exact h3 q hq
theorem opn_ints : Opn Tryz.prog 22 (fun w cs=>∃ (a : Option Addr) (c : Nat) (l : List Int),cs = [.slice a l.length c] ∧ Rd w a (iv l) ∧ (∀ x ∈ l,i64 x) ∧ (a = none → c = 0) ∧ l.length ≤ c ∧ l.length ≤ 17592186043904) := by
 refine (opn_slice Tryz.underlying22 (sz := 1) (by_ := 8) (by kernel_rfl) (by omega) (by kernel_rfl) opn_i64).mono ?_
 rintro w cs ⟨a,len,cap,css,rfl,rfl,hg,hr,hz,hc,hm⟩
 obtain ⟨l,h1,h2,h3⟩ := ints_of css fun c hc=>(hg c hc).1
 rw [h1] at hr
 have hm : css.length * 8 ≤ 140737488351232 := hm
 exact ⟨a,cap,l,by rw [h2],hr,h3,hz,by omega,by omega⟩
def TkI (t : Tk) : Prop := i64 t.r1 ∧ i64 t.r2 ∧ i64 t.hop ∧ i64 t.seq ∧ i64 t.aru ∧ i64 t.low ∧ i64 t.stamp ∧ i64 t.idle ∧ ∀ x ∈ t.ask,i64 x
theorem opn_tok : Opn Tryz.prog 54 (fun w cs=>∃ (t : Tk) (a : Option Addr) (c : Nat),cs = t.cells a c ∧ Rd w a (iv t.ask) ∧ TkI t ∧ (a = none → c = 0) ∧ t.ask.length ≤ c ∧ t.ask.length ≤ 17592186043904) := by
 refine (opn_struct Tryz.underlying54).mono fun w cs ⟨hl,h⟩=>?_
 have hl : cs.length = 9 := hl
 match cs,hl with
 | [y0,y1,y2,y3,y4,y5,y6,y7,y8],hl=>
  obtain ⟨x0,x1,h0,g0,g1⟩ := h 0 _ rfl _ opn_ring
  obtain ⟨x2,h2,g2⟩ := h 1 _ rfl _ opn_i64
  obtain ⟨x3,h3,g3⟩ := h 2 _ rfl _ opn_i64
  obtain ⟨x4,h4,g4⟩ := h 3 _ rfl _ opn_i64
  obtain ⟨x5,h5,g5⟩ := h 4 _ rfl _ opn_i64
  obtain ⟨x6,h6,g6⟩ := h 5 _ rfl _ opn_i64
  obtain ⟨x7,h7,g7⟩ := h 6 _ rfl _ opn_i64
  obtain ⟨a,c,l,h8,hr,hb,hz,hc,hm⟩ := h 7 _ rfl _ opn_ints
  have k0 : [y0,y1] = [Value.int .i64 x0,.int .i64 x1] := h0
  have k2 : [y2] = [Value.int .i64 x2] := h2
  have k3 : [y3] = [Value.int .i64 x3] := h3
  have k4 : [y4] = [Value.int .i64 x4] := h4
  have k5 : [y5] = [Value.int .i64 x5] := h5
  have k6 : [y6] = [Value.int .i64 x6] := h6
  have k7 : [y7] = [Value.int .i64 x7] := h7
  have k8 : [y8] = [Value.slice a l.length c] := h8
  simp only [List.cons.injEq,and_true] at k0 k2 k3 k4 k5 k6 k7 k8
  exact ⟨⟨x0,x1,x2,x3,x4,x5,x6,x7,l⟩,a,c,by rw [k0.1,k0.2,k2,k3,k4,k5,k6,k7,k8];rfl,hr,⟨g0,g1,g2,g3,g4,g5,g6,g7,hb⟩,hz,hc,hm⟩
structure Vst where
 node : Int
 aru : Int
 gaps : List Int
def Vst.cells (v : Vst) (a : Option Addr) (c : Nat) : List Value := [.int .i64 v.node,.int .i64 v.aru,.slice a v.gaps.length c]
def Vst.val (v : Vst) (a : Option Addr) (c : Nat) : Value := .agg (v.cells a c).toArray
end Go.Proofs.YtohbcfokihplbaaGreatDoor
