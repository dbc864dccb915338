/-
  A node of a ring: each of its calls keeps what stays true: the plain law. Conditions: none; nothing here is the program.
-/
import Derived.Test.YtohbcfokihplbaaGreatDoorRLCM11
set_option linter.unusedSimpArgs false
set_option linter.unusedVariables false
namespace Go.Proofs.YtohbcfokihplbaaGreatDoor
open Go.Hb
attribute [local irreducible] LR CW At Ev thn blk finK noG again CallsTo DW QL dnext TW DP
set_option maxRecDepth 100000
structure VOk (S : Rg) (t : Tk) : Prop where
 node : 1 ≤ S.node ∧ S.node ≤ 8
 clk : 0 ≤ S.clock ∧ S.clock ≤ maxN
 wn : WayOk S.now
 wx : S.state = 2 → WayOk S.next
 ms : ∀ m ∈ S.wq,MOk m
 wl : S.wq.length ≤ 1000
 ag : S.state = 2 → ∃ l,S.again = some l ∧ (∀ m ∈ l,MOk m) ∧ l.length ≤ 100000
 done : 0 ≤ S.done ∧ S.done ≤ 9007199254740991
 op : S.op.length ≤ 700000
 oe : S.oe.length ≤ 800000
 dl : S.now.D.length ≤ 29000
 xl : S.state = 2 → S.next.D.length ≤ 29000
 kin : S.state = 2 → inI S.kin
 sq : 0 ≤ t.seq ∧ t.seq ≤ maxN
 sp : 0 ≤ t.stamp ∧ t.stamp ≤ maxN
 ar : 0 ≤ t.aru ∧ t.aru ≤ maxN
 ask : t.ask.length ≤ 1000
 idle : 0 ≤ t.idle
theorem osl_nz {w : World} {E sz n c : Nat} {a : Option Addr} {xs : List Value} (h : (osl (.slice a n c) E sz n xs).holds w) : a = none → c = 0 := by
 rintro rfl
 have h2 : w.ownsRow 0 E sz (.slice none n c) n xs := h
 rcases h2.2 with ⟨e,_⟩ | ⟨g,cap,cur,e,_⟩
 ·simp only [Value.slice.injEq] at e
  exact e.2.2
 ·cases e
theorem visit_ask (t : Tk) (n a : Int) (g : List Int) : (visitT t n a g).ask.length ≤ 1000 := by
 unfold visitT
 split
 ·show (askV t g).length ≤ 1000
  unfold askV
  rw [List.length_take]
  omega
 ·exact Nat.zero_le _
theorem toldA_len (D : List Dat) (o : OldC) (kin : Int) (nx : Cfg) : (toldA D o kin nx).length ≤ 2 * D.length + 2 := by
 unfold toldA
 split
 ·unfold toldT
  rw [List.length_append]
  have h1 := (prog_in (safe := o.safe) (kin := kin) (t := cfgE (trC o kin nx)) (abvT D o.done) o.done false false).2
  have h2 := abv_lenD (D := D) o.done
  show _ + 1 ≤ _
  omega
 ·exact Nat.zero_le _
theorem crew_inI {m : Int} (h : crewOk m = true) : inI m := crew_I h
theorem gaps_len (D : List Dat) (h : Int) : (gapsT D h 16).length ≤ 16 := by
 unfold gapsT
 rw [List.length_take]
 have : (min (16 : Int) 16).toNat = 16 := rfl
 omega
theorem ansL_len (D : List Dat) (l : List Int) : (ansL D l).length ≤ l.length := by
 unfold ansL
 rw [List.length_map]
 exact List.length_filter_le _ _
theorem ansQ_len (D : List Dat) (t : Tk) : (ansQ D t).ask.length ≤ t.ask.length := List.length_filter_le _ _
section
variable {w0 : World} {F : Nat → Prop} {R : List Asrt}
set_option maxHeartbeats 8000000 in
theorem r128 (b : Nat) (S : Rg) (t : Tk) (a : Option Addr) (c : Nat) (w : World) (h : Nd w0 F b S R w) (hv : VOk S t) (hs : S.state = 2 ∨ S.state = 3) (hr : ∀ w',St w0 F R w' → Rd w' a (iv t.ask)) (hz : a = none → c = 0) :
  CallsTo Tryz.prog 128 [.pointer (some ⟨b,0,none⟩),t.val a c] w fun v w'=>Nd w0 F b (S.visit t) R w' := by
 obtain ⟨A,hA,h⟩ := h
 have f1 := hv.sq
 have f2 := hv.sp
 have f3 := hv.clk
 refine go_inS (n := 162) h Tryz.func128 rfl rfl ?_
 by_cases hs3 : S.state = 3
 ·have hs2 : ¬ S.state = 2 := by omega
  have ew : S.way = S.now := by unfold Rg.way;rw [if_neg hs2]
  have eA : S.visitA t = { ({ S with now := S.now.came t } : Rg) with clock := max S.clock t.stamp } := by unfold Rg.visitA Rg.setWay;rw [if_neg hs2,ew];rfl
  have hn2 : ¬ ((S.visitA t).state = 2 ∧ cntC (S.visitA t).way.cfg.mem ≤ t.idle) := by
   rw [eA]
   rintro ⟨h9,_⟩
   exact hs2 h9
  rw [visit_eq,if_neg hn2]
  repeat'(first|(refine kB' fun b3=>?_)|(apply Go.Hb.kK;(iterate 4 exact rfl);intro bs)|refine kv' ?_|apply jJ|refine jE' ?_|refine jp' ?_|(apply jc;kernel_rfl)|refine kg' ?_|refine kG' ?_|refine kB' fun _=>?_|refine kA' fun _=>?_|refine kK' fun _=>?_|refine kU' ?_|(apply LR.call;(·exact rfl);(intro w1 h1;first | (have hq := r127 b A S w1 (rg_mid [_] h1);rw [if_neg hs2] at hq;refine CallsTo.mono hq ?_;rintro v w2 ⟨rfl,hw2⟩;refine LR.back hw2 ?_;clear hw2 h1 hq) | (refine CallsTo.mono (r176n b A S t a c w1 h1 hA) ?_;intro v w2 hw2;refine LR.back hw2 ?_;clear hw2 h1)))|((first|refine kR' ?_ ?_|refine kQ' ?_ ?_);all_goals(intro hc;try simp only[hcs]at hc;try(exfalso;first|contradiction|omega))))
  apply LR.call
  ·exact rfl
  intro w1 h1
  have hA1 := hA.camen t
  refine CallsTo.mono (r57 b A { S with now := S.now.came t } bs 0 1 [t.stamp] w1 (rg_mid [_] h1) (fun w' hw'=>hw'.rd_of_blk (mH _ _)) (by simp)) ?_
  intro v w2 hw2
  refine LR.back (C := St w0 F (rgL b A (S.visitA t) (_ :: _ :: R))) (by rw [eA];exact hw2) ?_
  clear hw2 h1
  have hxs : (S.visitA t).state = 3 := by rw [eA];exact hs3
  have hA2 : RepA A (S.visitA t) := by rw [eA];exact ⟨hA1.q,hA1.ql,hA1.nd,hA1.gp,hA1.np,hA1.ap,hA1.pk,hA1.ev⟩
  have hxo : (S.visitA t).op.length ≤ 800000 := by rw [eA];show S.op.length ≤ _;have := hv.op;omega
  have hF : FN (S.visitA t) t (S.visitA t) t := by
   refine ⟨Kept.refl _ _,f1,f2,⟨Int.le_refl _,?_⟩,?_,?_,⟨rfl,rfl⟩,Nat.le_refl _,Nat.le_refl _⟩
   ·rw [eA]
    show max S.clock t.stamp ≤ maxN
    omega
   ·rw [eA]
    exact hv.ms
   ·rw [eA]
    exact hv.wn.came t
  have hxwl : (S.visitA t).wq.length ≤ 1000 := by rw [eA];exact hv.wl
  have hx0 : 0 ≤ (S.visitA t).clock := by rw [eA];show 0 ≤ max S.clock t.stamp;omega
  have hxnode : 1 ≤ (S.visitA t).node ∧ (S.visitA t).node ≤ 8 := by rw [eA];exact hv.node
  have hxdone : 0 ≤ (S.visitA t).done ∧ (S.visitA t).done ≤ 9007199254740991 := by rw [eA];exact hv.done
  have hxoe : (S.visitA t).oe.length ≤ 950000 := by rw [eA];show S.oe.length ≤ _;have := hv.oe;omega
  have hxdl : (S.visitA t).now.D.length ≤ 30000 := by
   rw [eA]
   show (S.now.came t).D.length ≤ _
   rw [came_D]
   have := hv.dl
   omega
  generalize S.visitA t = X at *
  refine LR.sub (D := St w0 F (.own b3 (.cells (t.cells a c).toArray 54 (0,0)) :: rgL b A X R)) (fun w' hw'=>(front hw' 15 rfl rfl).sub subN) ?_
  clear hA1 eA hA h
  have hD : WOk (dats A.es) := by rw [← now_D hA2];exact hF.now.ok
  have eD := now_D hA2
  obtain ⟨D,hDD⟩ : ∃ D,dats A.es = D := ⟨_,rfl⟩
  have hw2 : X.way = X.now := by unfold Rg.way;rw [if_neg (by rw [hxs];decide)]
  have hn2 : ¬ X.state = 2 := by rw [hxs];decide
  repeat'(first|refine kv' ?_|apply jJ|refine jE' ?_|refine jp' ?_|(apply jc;kernel_rfl)|refine kg' ?_|refine kG' ?_|refine kB' fun _=>?_|refine kA' fun _=>?_|refine kK' fun _=>?_|refine kU' ?_|(apply LR.call;(·exact rfl);(intro w1 h1;refine CallsTo.mono (r178n b A X t a c w1 (rg_mid [_] h1) hA2 hD (fun w' hw'=>hr w' (hw'.sub subN)) hz hv.ask hxo) ?_;rintro v w2 ⟨a1,c1,pa1,pc1,ex,rfl,hex,hw2⟩;rw [hex] at hw2;refine LR.back hw2 ?_;clear hw2 h1))|((first|refine kR' ?_ ?_|refine kQ' ?_ ?_);all_goals(intro hc;try simp only[hcs]at hc;try(exfalso;first|contradiction|omega))))
  have hA3 := hA2.sents pa1 pc1 ex
  rw [hex] at hA3
  rw [hDD] at hA3 ⊢
  have haq := ansQ_len D t
  have hal := ansL_len D t.ask
  have hva := hv.ask
  have hA3o : (X.sends (ansL D t.ask)).op.length ≤ 900000 := by
   show (X.op ++ _).length ≤ _
   rw [List.length_append]
   omega
  have hF1 : FN (X.sends (ansL D t.ask)) (ansQ D t) (X.sends (ansL D t.ask)) (ansQ D t) := ⟨Kept.refl _ _,hF.sq,hF.sp,⟨Int.le_refl _,hF.ck.2⟩,hF.ms,hF.now,⟨rfl,rfl⟩,Nat.le_refl _,Nat.le_refl _⟩
  have hFill := fill_n_keeps (allow X.wq.length t.seq t.aru).toNat (S := X.sends (ansL D t.ask)) (t := ansQ D t) hxs hx0 hF1
  have eB : X.visitB t = (Rg.fill (allow X.wq.length t.seq t.aru).toNat (X.sends (ansL D t.ask)) (ansQ D t)).1.visitB2 (Rg.fill (allow X.wq.length t.seq t.aru).toNat (X.sends (ansL D t.ask)) (ansQ D t)).2 := by
   unfold Rg.visitB
   rw [answer_eq,hw2,eD,hDD]
   have e1 : (X.sends (ansL D t.ask)).leftS = (X.wq.length : Int) := by unfold Rg.leftS;rw [if_pos (show (X.sends (ansL D t.ask)).state = 3 from hxs)];rfl
   dsimp only
   rw [e1,if_neg]
   ·rfl
   ·have := hFill.k.state
    show ¬ (Rg.fill (allow X.wq.length t.seq t.aru).toNat (X.sends (ansL D t.ask)) (ansQ D t)).1.state = 2
    rw [this]
    exact hn2
  rw [eB]
  obtain ⟨⟨Y,y⟩,hYy⟩ : ∃ q,Rg.fill (allow X.wq.length t.seq t.aru).toNat (X.sends (ansL D t.ask)) (ansQ D t) = q := ⟨_,rfl⟩
  rw [hYy] at hFill ⊢
  have hys : Y.state = 3 := hFill.k.state.trans hxs
  have hyn : Y.node = X.node := hFill.k.node
  have hya : y.ask = (ansQ D t).ask := hFill.k.ask
  have hyal : y.ask.length ≤ 1000 := by rw [hya];omega
  dsimp only at hFill ⊢
  have hk := hFill.now.aru
  have hk2 := hFill.now.hi
  have hn2 : ¬ Y.state = 2 := by rw [hys];decide
  unfold maxN at hk2
  have hyw : Y.way = Y.now := by unfold Rg.way;rw [if_neg hn2]
  have eB2 : Y.visitB2 y = ({ Y with now := { Y.now with left := (visitT y Y.node Y.now.aru (gapsT Y.now.D Y.now.high 16)).aru } } : Rg).visitC (visitT y Y.node Y.now.aru (gapsT Y.now.D Y.now.high 16)) := by
   unfold Rg.visitB2 Rg.setWay
   rw [hyw]
   dsimp only
   rw [if_neg hn2]
  rw [eB2]
  repeat'(first|(apply CW.reg_sinkC 16;(·exact rfl);(·decide +kernel))|refine kv' ?_|apply jJ|refine jE' ?_|refine jp' ?_|(apply jc;kernel_rfl)|refine kg' ?_|refine kG' ?_|refine kB' fun _=>?_|refine kA' fun _=>?_|refine kK' fun _=>?_|refine kU' ?_|(apply LR.call;(·exact rfl);(intro w1 h1;refine CallsTo.mono (r179n b b3 { A with pa := pa1,pc := pc1,pk := A.pk ++ ex } (X.sends (ansL D t.ask)) (ansQ D t) a1 c1 w1 (front (rg_mid [_] h1) 15 rfl rfl) hA3 hxs (by rw [show (X.sends (ansL D t.ask)).now.D = X.now.D from rfl];exact ⟨hF.sq,hF.sp,⟨hx0,hF.ck.2⟩,hF.ms,hF.now.ok⟩) hv.ar (by show X.wq.length ≤ _;have := hxwl;omega) hA3o) ?_;rintro v w2 ⟨Z,hZ,hw2⟩;rw [show Rg.fill (allow (X.sends (ansL D t.ask)).wq.length (ansQ D t).seq (ansQ D t).aru).toNat (X.sends (ansL D t.ask)) (ansQ D t) = (Y,y) from hYy] at hZ hw2;rw [← hya] at hw2;refine LR.back (C := St w0 F (.own b3 (.cells (y.cells a1 c1).toArray 54 (0,0)) :: rgL b Z Y (osl (.slice a1 y.ask.length c1) 3 1 y.ask.length (iv y.ask) :: R))) hw2 ?_;clear hw2 h1))|((first|refine kR' ?_ ?_|refine kQ' ?_ ?_);all_goals(intro hc;try simp only[hcs]at hc;try(exfalso;first|contradiction|omega))))
  have hZ : RepA Z Y := by assumption
  have eDZ := now_D hZ
  have hup : Upto (dats Z.es) Y.now.aru := by rw [← eDZ];exact hFill.now.isAru.1
  rw [eDZ]
  have hgl := gaps_len (dats Z.es) Y.now.high
  generalize hGG : gapsT (dats Z.es) Y.now.high 16 = GG at *
  all_goals (
   apply DW.quiet [0,1,2,3,4,5,6,7,8,10,11,12,13]
   ·decide +kernel
   ·exact stZ
   repeat'(first|refine yv' ?_|refine uv' ?_|refine un' ?_|(refine us' ?_ ?_;all_goals(intro hc;try simp only[hcs]at hc;try(exfalso;first|contradiction|omega)))|apply QL.nil)
   all_goals (show DW _ _ _ _ _ _ _ _))
  all_goals (
   apply DW.loud 9
   ·exact rfl
   ·decide +kernel
   repeat'(first|refine kg' ?_|refine kG' ?_|apply kM|refine kv' ?_|refine kK' fun _=>?_|refine kU' ?_|refine kB' fun _=>?_|refine kA' fun _=>?_|(apply kq;(·exact rfl);(·intro w1 h1;exact CallsTo.q (show CallsTo Tryz.prog 182 [.pointer (some ⟨Z.bw,0,none⟩)] w1 _ from t35 Z.bw Z.bm Z.es Y.now.aru Y.now.high w1 (h1.holds (wO Z.bw Z.bm Z.es Y.now.aru Y.now.high) memZ)) h1))|(apply LR.call;(·exact rfl);(intro w1 h1;first | (have hq := t39 Z.bw Z.bm Z.es Y.now.aru Y.now.high 16 w1 (h1.holds (wO Z.bw Z.bm Z.es Y.now.aru Y.now.high) memZ) hup hk.2 hk2.2;rw [hGG] at hq;refine CallsTo.mono (show CallsTo Tryz.prog 184 [.pointer (some ⟨Z.bw,0,none⟩),.int .i64 16] w1 _ from hq) ?_;rintro v w2 ⟨a5,c5,rfl,hn⟩;refine LR.back (h1.newSl hn) ?_;clear hn h1 hq) | (refine CallsTo.mono (show CallsTo Tryz.prog 183 [y.val a1 c1,.int .i64 Y.node,.int .i64 Y.now.aru,.slice a5 GG.length c5] w1 _ from t14 y a1 c1 Y.node Y.now.aru a5 c5 GG w1 (h1.rd_of_own (n := y.ask.length) memZ) (osl_nz (h1.holds (osl (.slice a1 y.ask.length c1) 3 1 y.ask.length (iv y.ask)) memZ)) (by omega) (h1.rd_of_own (n := GG.length) memZ) (by omega)) ?_;rintro v w2 ⟨a9,c9,rfl,hn⟩;refine LR.back (St.newOd h1 hn) ?_;clear hn h1))))
   all_goals (refine ats ?_))
  all_goals (
   apply DW.loud 14
   ·exact rfl
   ·decide +kernel
   repeat'(first|refine kg' ?_|refine kG' ?_|apply kM|refine kv' ?_|refine kK' fun _=>?_|refine kU' ?_|refine kB' fun _=>?_|refine kA' fun _=>?_|(apply kq;(·exact rfl);(·intro w1 h1;exact CallsTo.q (show CallsTo Tryz.prog 182 [.pointer (some ⟨Z.bw,0,none⟩)] w1 _ from t35 Z.bw Z.bm Z.es Y.now.aru Y.now.high w1 (h1.holds (wO Z.bw Z.bm Z.es Y.now.aru Y.now.high) memZ)) h1))|(apply LR.call;(·exact rfl);(intro w1 h1;first | (have hq := t39 Z.bw Z.bm Z.es Y.now.aru Y.now.high 16 w1 (h1.holds (wO Z.bw Z.bm Z.es Y.now.aru Y.now.high) memZ) hup hk.2 hk2.2;rw [hGG] at hq;refine CallsTo.mono (show CallsTo Tryz.prog 184 [.pointer (some ⟨Z.bw,0,none⟩),.int .i64 16] w1 _ from hq) ?_;rintro v w2 ⟨a5,c5,rfl,hn⟩;refine LR.back (h1.newSl hn) ?_;clear hn h1 hq) | (refine CallsTo.mono (show CallsTo Tryz.prog 183 [y.val a1 c1,.int .i64 Y.node,.int .i64 Y.now.aru,.slice a5 GG.length c5] w1 _ from t14 y a1 c1 Y.node Y.now.aru a5 c5 GG w1 (h1.rd_of_own (n := y.ask.length) memZ) (osl_nz (h1.holds (osl (.slice a1 y.ask.length c1) 3 1 y.ask.length (iv y.ask)) memZ)) (by omega) (h1.rd_of_own (n := GG.length) memZ) (by omega)) ?_;rintro v w2 ⟨a9,c9,rfl,hn⟩;refine LR.back (St.newOd h1 hn) ?_;clear hn h1))))
   all_goals (refine ats ?_))
  all_goals (
   apply DW.loud 15
   ·exact rfl
   ·decide +kernel
   repeat'(first|refine kg' ?_|refine kG' ?_|apply kM|refine kv' ?_|refine kK' fun _=>?_|refine kU' ?_|refine kB' fun _=>?_|refine kA' fun _=>?_|(apply kq;(·exact rfl);(·intro w1 h1;exact CallsTo.q (show CallsTo Tryz.prog 182 [.pointer (some ⟨Z.bw,0,none⟩)] w1 _ from t35 Z.bw Z.bm Z.es Y.now.aru Y.now.high w1 (h1.holds (wO Z.bw Z.bm Z.es Y.now.aru Y.now.high) memZ)) h1))|(apply LR.call;(·exact rfl);(intro w1 h1;first | (have hq := t39 Z.bw Z.bm Z.es Y.now.aru Y.now.high 16 w1 (h1.holds (wO Z.bw Z.bm Z.es Y.now.aru Y.now.high) memZ) hup hk.2 hk2.2;rw [hGG] at hq;refine CallsTo.mono (show CallsTo Tryz.prog 184 [.pointer (some ⟨Z.bw,0,none⟩),.int .i64 16] w1 _ from hq) ?_;rintro v w2 ⟨a5,c5,rfl,hn⟩;refine LR.back (h1.newSl hn) ?_;clear hn h1 hq) | (refine CallsTo.mono (show CallsTo Tryz.prog 183 [y.val a1 c1,.int .i64 Y.node,.int .i64 Y.now.aru,.slice a5 GG.length c5] w1 _ from t14 y a1 c1 Y.node Y.now.aru a5 c5 GG w1 (h1.rd_of_own (n := y.ask.length) memZ) (osl_nz (h1.holds (osl (.slice a1 y.ask.length c1) 3 1 y.ask.length (iv y.ask)) memZ)) (by omega) (h1.rd_of_own (n := GG.length) memZ) (by omega)) ?_;rintro v w2 ⟨a9,c9,rfl,hn⟩;refine LR.back (St.newOd h1 hn) ?_;clear hn h1))))
   all_goals (refine ats ?_))
  all_goals (apply DW.done;(·decide +kernel))
  all_goals apply At.sink
  have hvl := visit_ask y Y.node Y.now.aru GG
  generalize ht6 : visitT y Y.node Y.now.aru GG = t6 at *
  repeat'(first|refine kv' ?_|apply jJ|refine jE' ?_|refine jp' ?_|(apply jc;kernel_rfl)|refine kg' ?_|refine kG' ?_|refine kB' fun _=>?_|refine kA' fun _=>?_|refine kK' fun _=>?_|refine kU' ?_|((first|refine kR' ?_ ?_|refine kQ' ?_ ?_);all_goals(intro hc;try simp only[hcs]at hc;try(exfalso;first|contradiction|omega))))
  have eC : ({ Y with now := { Y.now with left := t6.aru } } : Rg).visitC t6 = Rg.visitD { ({ Y with now := { Y.now with left := t6.aru } } : Rg).deliver with last := tokP (nextC ({ Y with now := { Y.now with left := t6.aru } } : Rg).deliver.way.cfg.mem ({ Y with now := { Y.now with left := t6.aru } } : Rg).deliver.node) t6 } := by
   unfold Rg.visitC
   dsimp only
   rw [if_pos hys]
  rw [eC]
  apply LR.call
  ·exact rfl
  intro w1 h1
  have hZ5 : RepA Z { Y with now := { Y.now with left := t6.aru } } := ⟨hZ.q,hZ.ql,hZ.nd,hZ.gp,hZ.np,hZ.ap,hZ.pk,hZ.ev⟩
  refine CallsTo.mono (r124 b { Y with now := { Y.now with left := t6.aru } } w1 ⟨Z,hZ5,rg_mid [_,_,_] h1⟩ hFill.now.ok (by show Y.now.D.length ≤ _;have q1 := hFill.len;have q2 : (X.sends (ansL D t.ask)).now.D.length ≤ 30000 := hxdl;have q3 : (X.sends (ansL D t.ask)).wq.length ≤ 1000 := hxwl;omega) (by show 0 ≤ Y.done ∧ _;rw [hFill.k.done];exact hxdone) (by show Y.oe.length ≤ _;rw [hFill.k.oe];show X.oe.length ≤ _;omega)) ?_
  rintro v w2 ⟨Z6,hZ6,hw2⟩
  have z1 : ({ Y with now := { Y.now with left := t6.aru } } : Rg).deliver.state = 3 := hys
  have z2 : 1 ≤ ({ Y with now := { Y.now with left := t6.aru } } : Rg).deliver.node ∧ ({ Y with now := { Y.now with left := t6.aru } } : Rg).deliver.node ≤ 8 := by show 1 ≤ Y.node ∧ Y.node ≤ 8;rw [hyn];exact hxnode
  have z3 : crewOk ({ Y with now := { Y.now with left := t6.aru } } : Rg).deliver.now.cfg.mem = true := hFill.now.mem
  have z4 : ({ Y with now := { Y.now with left := t6.aru } } : Rg).deliver.op.length ≤ 990000 := by
   show Y.op.length ≤ _
   have q1 := hFill.op
   have q3 : (X.sends (ansL D t.ask)).wq.length ≤ 1000 := hxwl
   omega
  generalize ({ Y with now := { Y.now with left := t6.aru } } : Rg).deliver = Y6 at *
  refine LR.back hw2 ?_
  clear hw2 h1 hZ5
  have z5 : Y6.way = Y6.now := by unfold Rg.way;rw [if_neg (by rw [z1];decide)]
  rw [z5]
  repeat'(first|(apply CW.reg_sinkC 15;(·exact rfl);(·decide +kernel))|refine kv' ?_|apply jJ|refine jE' ?_|refine jp' ?_|(apply jc;kernel_rfl)|refine kg' ?_|refine kG' ?_|refine kB' fun _=>?_|refine kA' fun _=>?_|refine kK' fun _=>?_|refine kU' ?_|((first|refine kR' ?_ ?_|refine kQ' ?_ ?_);all_goals(intro hc;try simp only[hcs]at hc;try(exfalso;first|contradiction|omega))))
  all_goals (
   apply DW.quiet [0,1,2,3,4,5,6,7,8,9,11]
   ·decide +kernel
   ·exact stZ
   repeat'(first|refine yv' ?_|refine uv' ?_|refine un' ?_|(refine us' ?_ ?_;all_goals(intro hc;try simp only[hcs]at hc;try(exfalso;first|contradiction|omega)))|apply QL.nil)
   all_goals (show DW _ _ _ _ _ _ _ _))
  all_goals (
   apply DW.loud 10
   ·exact rfl
   ·decide +kernel
   repeat'(first|refine kg' ?_|refine kG' ?_|apply kM|refine kv' ?_|refine kK' fun _=>?_|refine kU' ?_|refine kB' fun _=>?_|refine kA' fun _=>?_|(apply kq;(·exact rfl);(·intro w1 h1;exact CallsTo.q (show CallsTo Tryz.prog 185 [.int .i64 Y6.now.cfg.mem,.int .i64 Y6.node] w1 _ from r185 Y6.now.cfg.mem Y6.node w1 z3 z2 (h1.rd_of memZ)) h1)))
   all_goals (refine ats ?_))
  all_goals (
   apply DW.quiet [12,13,14]
   ·decide +kernel
   ·exact stZ
   repeat'(first|refine yv' ?_|refine uv' ?_|refine un' ?_|(refine us' ?_ ?_;all_goals(intro hc;try simp only[hcs]at hc;try(exfalso;first|contradiction|omega)))|apply QL.nil)
   all_goals (show DW _ _ _ _ _ _ _ _))
  all_goals (apply DW.done;(·decide +kernel))
  all_goals apply At.sink
  repeat'(first|refine kv' ?_|apply jJ|refine jE' ?_|refine jp' ?_|(apply jc;kernel_rfl)|refine kg' ?_|refine kG' ?_|refine kB' fun _=>?_|refine kA' fun _=>?_|refine kK' fun _=>?_|refine kU' ?_|((first|refine kR' ?_ ?_|refine kQ' ?_ ?_);all_goals(intro hc;try simp only[hcs]at hc;try(exfalso;first|contradiction|omega))))
  apply LR.call
  ·exact rfl
  intro w1 h1
  have j1 : St w0 F (odl (.slice a9 t6.ask.length c9) 3 1 t6.ask.length (iv t6.ask) :: _) w1 := front h1 14 rfl rfl
  have j2 := j1.repl (a := lastO Z6 Y6) selZ
  obtain ⟨S7,hS7⟩ : ∃ S7,({ Y6 with last := tokP (nextC Y6.now.cfg.mem Y6.node) t6 } : Rg) = S7 := ⟨_,rfl⟩
  have hZ7 : RepA { Z6 with la := a9,lc := c9 } S7 := by rw [← hS7];exact ⟨hZ6.q,hZ6.ql,hZ6.nd,hZ6.gp,hZ6.np,hZ6.ap,hZ6.pk,hZ6.ev⟩
  have j3 : St w0 F (rgL b { Z6 with la := a9,lc := c9 } { Y6 with last := tokP (nextC Y6.now.cfg.mem Y6.node) t6 } (_ :: _ :: _ :: R)) w1 := j2
  rw [hS7] at j3 ⊢
  have u1 : S7.state = 3 := by rw [← hS7];exact z1
  have u2 : S7.node = Y6.node := by rw [← hS7]
  have u3 : S7.now.cfg = Y6.now.cfg := by rw [← hS7]
  have u4 : S7.op.length ≤ 990000 := by rw [← hS7];exact z4
  refine CallsTo.mono (r86 b S7 w1 ⟨_,hZ7,j3⟩ (by rw [← hS7];rfl) (by rw [← hS7];rfl) (by rw [← hS7];exact hvl) (by omega)) ?_
  rintro v w2 ⟨A8,hA8,hw2⟩
  refine LR.back hw2 ?_
  clear hw2 j3 j2 j1 h1
  have hop8 : S7.resend.op.length ≤ 990001 := by show (S7.op ++ [_]).length ≤ _;rw [List.length_append];simp;omega
  obtain ⟨S8,hS8⟩ : ∃ S8,({ S7.resend with tm := (S7.tm.set 0 40).set 3 12 } : Rg) = S8 := ⟨_,rfl⟩
  have eD : S7.visitD = if S8.state = 3 ∧ leastC S8.way.cfg.mem = S8.node then S8.send (beaP S8.way.cfg S8.node) else S8 := by rw [← hS8];rfl
  repeat'(first|refine kv' ?_|apply jJ|refine jE' ?_|refine jp' ?_|(apply jc;kernel_rfl)|refine kg' ?_|refine kG' ?_|refine kB' fun _=>?_|refine kA' fun _=>?_|refine kK' fun _=>?_|refine kU' ?_|((first|refine kR' ?_ ?_|refine kQ' ?_ ?_);all_goals(intro hc;try simp only[hcs]at hc;try(exfalso;first|contradiction|omega))))
  apply LR.call
  ·exact rfl
  intro w1 h1
  refine CallsTo.mono (show CallsTo Tryz.prog 83 [.pointer (some ⟨A8.ba,0,none⟩),.int .i64 0,.int .i64 40] w1 _ from r83 A8.ba A8.bam S7.tm.get 0 40 w1 (h1.holds (alO A8.ba A8.bam S7.tm.get) memZ) (by decide) (by decide)) ?_
  rintro v w2 ⟨rfl,st⟩
  have h2 := h1.did selZ rfl st (alO_dep _ _ _)
  rw [tm_set _ (by decide)] at h2
  refine LR.back (C := St w0 F (rgL b A8 { S7.resend with tm := S7.tm.set 0 40 } (_ :: _ :: _ :: R))) h2 ?_
  clear h2 st h1
  repeat'(first|refine kv' ?_|apply jJ|refine jE' ?_|refine jp' ?_|(apply jc;kernel_rfl)|refine kg' ?_|refine kG' ?_|refine kB' fun _=>?_|refine kA' fun _=>?_|refine kK' fun _=>?_|refine kU' ?_|((first|refine kR' ?_ ?_|refine kQ' ?_ ?_);all_goals(intro hc;try simp only[hcs]at hc;try(exfalso;first|contradiction|omega))))
  apply LR.call
  ·exact rfl
  intro w1 h1
  refine CallsTo.mono (show CallsTo Tryz.prog 83 [.pointer (some ⟨A8.ba,0,none⟩),.int .i64 3,.int .i64 12] w1 _ from r83 A8.ba A8.bam (S7.tm.set 0 40).get 3 12 w1 (h1.holds (alO A8.ba A8.bam (S7.tm.set 0 40).get) memZ) (by decide) (by decide)) ?_
  rintro v w2 ⟨rfl,st⟩
  have h2 := h1.did selZ rfl st (alO_dep _ _ _)
  rw [tm_set _ (by decide)] at h2
  have h3 : St w0 F (rgL b A8 { S7.resend with tm := (S7.tm.set 0 40).set 3 12 } (_ :: _ :: _ :: R)) w2 := h2
  rw [hS8] at h3
  refine LR.back h3 ?_
  clear h3 h2 st h1
  replace hA8 : RepA A8 S8 := by rw [← hS8];exact ⟨hA8.q,hA8.ql,hA8.nd,hA8.gp,hA8.np,hA8.ap,hA8.pk,hA8.ev⟩
  have k1 : S8.state = 3 := by rw [← hS8];exact u1
  have k2 : S8.node = Y6.node := by rw [← hS8];exact u2
  have k3 : S8.now.cfg = Y6.now.cfg := by rw [← hS8];exact u3
  have k4 : S8.op.length ≤ 990001 := by rw [← hS8];exact hop8
  have k5 : S8.way = S8.now := by unfold Rg.way;rw [if_neg (by rw [k1];decide)]
  have k6 : crewOk S8.now.cfg.mem = true := by rw [k3];exact z3
  rw [eD,k5]
  clear eD hS8 hop8
  repeat'(first|(apply CW.reg_sinkC 13;(·exact rfl);(·decide +kernel))|refine kv' ?_|apply jJ|refine jE' ?_|refine jp' ?_|(apply jc;kernel_rfl)|refine kg' ?_|refine kG' ?_|refine kB' fun _=>?_|refine kA' fun _=>?_|refine kK' fun _=>?_|refine kU' ?_|(apply kq;(·exact rfl);(·intro w1 h1;exact CallsTo.q (show CallsTo Tryz.prog 186 [.int .i64 S8.now.cfg.mem] w1 _ from r186 S8.now.cfg.mem w1 k6 (h1.rd_of memZ)) h1))|((first|refine kR' ?_ ?_|refine kQ' ?_ ?_);all_goals(intro hc;try simp only[hcs]at hc;try(exfalso;first|contradiction|omega))))
  rotate_left
  ·apply end0
   ·exact rfl
   intro w' hS
   rw [if_neg (fun h9=>absurd h9.2 (by assumption))]
   exact ⟨A8,hA8,hS.sub subN⟩
  rw [if_pos ⟨k1,by assumption⟩]
  all_goals (
   apply DW.quiet [0,1,2,3,4,5,6,7,8,9,10,11]
   ·decide +kernel
   ·exact stZ
   repeat'(first|refine yv' ?_|refine uv' ?_|refine un' ?_|(refine us' ?_ ?_;all_goals(intro hc;try simp only[hcs]at hc;try(exfalso;first|contradiction|omega)))|apply QL.nil)
   all_goals (show DW _ _ _ _ _ _ _ _))
  all_goals (
   apply DW.loud 12
   ·exact rfl
   ·decide +kernel
   repeat'(first|(apply Go.Hb.kK;(iterate 4 exact rfl);intro bs)|refine kg' ?_|refine kG' ?_|apply kM|refine kv' ?_|refine kK' fun _=>?_|refine kU' ?_|refine kB' fun _=>?_|refine kA' fun _=>?_)
   all_goals (refine ats ?_))
  all_goals (apply DW.done;(·decide +kernel))
  all_goals apply At.sink
  apply LR.call
  ·exact rfl
  intro w1 h1
  have hl8 := hA8.op_len
  have j := rg_mid [_] h1
  refine CallsTo.mono (r118 b A8 S8 (some ⟨bs,0,none⟩) 1 ⟨beaP S8.now.cfg S8.node,noAd⟩ w1 (j.pk0 _ ⟨rfl,rfl,rfl⟩ ⟨rfl,rfl,rfl⟩ ⟨rfl,rfl,rfl⟩) (fun w' hw'=>hw'.rd_of_blk (mH _ _)) (by simp) (by omega)) ?_
  rintro v w2 ⟨pa,pc,hw2⟩
  refine LR.back hw2 ?_
  repeat'(first|refine kv' ?_|apply jJ|refine jE' ?_|refine jp' ?_|(apply jc;kernel_rfl)|refine kg' ?_|refine kG' ?_|refine kB' fun _=>?_|refine kA' fun _=>?_|refine kK' fun _=>?_|refine kU' ?_|((first|refine kR' ?_ ?_|refine kQ' ?_ ?_);all_goals(intro hc;try simp only[hcs]at hc;try(exfalso;first|contradiction|omega))))
  apply end0
  ·exact rfl
  intro w' hS
  exact (Nd.mk (hA8.sent pa pc ⟨beaP S8.now.cfg S8.node,noAd⟩) hS).le subN
 ·have hs2 : S.state = 2 := by omega
  have ew : S.way = S.next := by unfold Rg.way;rw [if_pos hs2]
  have hwx := hv.wx hs2
  have eA : S.visitA t = { ({ S with next := S.next.came t } : Rg) with clock := max S.clock t.stamp } := by unfold Rg.visitA Rg.setWay;rw [if_pos hs2,ew];rfl
  obtain ⟨p,hp,hpd⟩ := hA.nxt hwx.dat
  obtain ⟨Y,rfl⟩ : ∃ Y : RA,A = { Y with np := some p } := ⟨A,by rw [← hp]⟩
  clear hp
  rw [visit_eq]
  repeat'(first|(refine kB' fun b3=>?_)|(apply Go.Hb.kK;(iterate 4 exact rfl);intro bs)|refine kv' ?_|apply jJ|refine jE' ?_|refine jp' ?_|(apply jc;kernel_rfl)|refine kg' ?_|refine kG' ?_|refine kB' fun _=>?_|refine kA' fun _=>?_|refine kK' fun _=>?_|refine kU' ?_|(apply LR.call;(·exact rfl);(intro w1 h1;first | (have hq := r127 b { Y with np := some p } S w1 (rg_mid [_] h1);rw [if_pos hs2] at hq;refine CallsTo.mono hq ?_;rintro v w2 ⟨rfl,hw2⟩;refine LR.back hw2 ?_;clear hw2 h1 hq) | (refine CallsTo.mono (r176x b Y S t a c w1 p h1 hA) ?_;intro v w2 hw2;refine LR.back hw2 ?_;clear hw2 h1)))|((first|refine kR' ?_ ?_|refine kQ' ?_ ?_);all_goals(intro hc;try simp only[hcs]at hc;try(exfalso;first|contradiction|omega))))
  apply LR.call
  ·exact rfl
  intro w1 h1
  have hA1 := hA.camex t
  refine CallsTo.mono (r57 b { Y with np := some p } { S with next := S.next.came t } bs 0 1 [t.stamp] w1 (rg_mid [_] h1) (fun w' hw'=>hw'.rd_of_blk (mH _ _)) (by simp)) ?_
  intro v w2 hw2
  refine LR.back (C := St w0 F (rgL b { Y with np := some p } (S.visitA t) (_ :: _ :: R))) (by rw [eA];exact hw2) ?_
  clear hw2 h1
  have hxs : (S.visitA t).state = 2 := by rw [eA];exact hs2
  have hA2 : RepA { Y with np := some p } (S.visitA t) := by rw [eA];exact ⟨hA1.q,hA1.ql,hA1.nd,hA1.gp,hA1.np,hA1.ap,hA1.pk,hA1.ev⟩
  have hxo : (S.visitA t).op.length ≤ 700000 := by rw [eA];show S.op.length ≤ _;have := hv.op;omega
  have hxoe : (S.visitA t).oe.length ≤ 800000 := by rw [eA];show S.oe.length ≤ _;have := hv.oe;omega
  have hxwl : (S.visitA t).wq.length ≤ 1000 := by rw [eA];exact hv.wl
  have hxms : ∀ m ∈ (S.visitA t).wq,MOk m := by rw [eA];exact hv.ms
  have hx0 : 0 ≤ (S.visitA t).clock ∧ (S.visitA t).clock ≤ maxN := by rw [eA];show 0 ≤ max S.clock t.stamp ∧ max S.clock t.stamp ≤ maxN;omega
  have hxnode : 1 ≤ (S.visitA t).node ∧ (S.visitA t).node ≤ 8 := by rw [eA];exact hv.node
  have hxdone : 0 ≤ (S.visitA t).done ∧ (S.visitA t).done ≤ 9007199254740991 := by rw [eA];exact hv.done
  have hxn : WayOk (S.visitA t).now := by rw [eA];exact hv.wn
  have hxx : WayOk (S.visitA t).next := by rw [eA];exact hwx.came t
  have hxdl : (S.visitA t).now.D.length ≤ 29000 := by rw [eA];exact hv.dl
  have hxxl : (S.visitA t).next.D.length ≤ 29000 := by rw [eA];show (S.next.came t).D.length ≤ _;rw [came_D];exact hv.xl hs2
  have hxk : inI (S.visitA t).kin := by rw [eA];exact hv.kin hs2
  have hxag : ∃ l,(S.visitA t).again = some l ∧ (∀ m ∈ l,MOk m) ∧ l.length ≤ 100000 := by rw [eA];exact hv.ag hs2
  have hf15 : ∀ w',St w0 F (rgL b { Y with np := some p } (S.visitA t) (.own bs (.cells #[.int .i64 t.stamp] 3 (0,0)) :: .own b3 (.cells (t.cells a c).toArray 54 (0,0)) :: R)) w' → St w0 F (.own b3 (.cells (t.cells a c).toArray 54 (0,0)) :: rgL b { Y with np := some p } (S.visitA t) R) w' := fun w' hw'=>(front hw' 15 rfl rfl).sub subN
  generalize S.visitA t = X0 at *
  clear eA hA1 hA h ew
  refine LR.sub (D := St w0 F (.own b3 (.cells (t.cells a c).toArray 54 (0,0)) :: rgL b { Y with np := some p } X0 R)) (fun w' hw'=>hf15 w' hw') ?_
  clear hf15
  have hwX : X0.way = X0.next := by unfold Rg.way;rw [if_pos hxs]
  have hcm := hxx.mem
  rw [hwX]
  by_cases hc : cntC X0.next.cfg.mem ≤ t.idle
  ·rw [if_pos ⟨hxs,hc⟩]
   repeat'(first|refine kv' ?_|apply jJ|refine jE' ?_|refine jp' ?_|(apply jc;kernel_rfl)|refine kg' ?_|refine kG' ?_|refine kB' fun _=>?_|refine kA' fun _=>?_|refine kK' fun _=>?_|refine kU' ?_|(apply kq;(·exact rfl);(·intro w1 h1;exact CallsTo.q (show CallsTo Tryz.prog 25 [.int .i64 X0.next.cfg.mem] w1 _ from r25 X0.next.cfg.mem w1 hcm) h1))|((first|refine kR' ?_ ?_|refine kQ' ?_ ?_);all_goals(intro hc;try simp only[hcs]at hc;try(exfalso;first|contradiction|omega))))
   apply LR.call
   ·exact rfl
   intro w1 h1
   refine CallsTo.mono (r177 b X0 w1 ⟨_,hA2,rg_mid [_] h1⟩ hxn.ok (by omega) hxdone (by omega) hxx.dat (crew_inI hxn.mem) (crew_inI hcm) hxk) ?_
   rintro v w2 ⟨A,hA2,hw2⟩
   refine LR.back hw2 ?_
   clear hw2 h1
   have hxoe2 : X0.install.oe.length ≤ 950000 := by
    show (X0.oe ++ _).length ≤ _
    rw [List.length_append]
    have := toldA_len X0.now.D X0.old X0.kin X0.next.cfg
    omega
   replace hF : FN X0.install t X0.install t := ⟨Kept.refl _ _,f1,f2,⟨Int.le_refl _,hx0.2⟩,hxms,hxx,⟨rfl,rfl⟩,Nat.le_refl _,Nat.le_refl _⟩
   replace hxs : X0.install.state = 3 := rfl
   replace hxo : X0.install.op.length ≤ 800000 := by show X0.op.length ≤ _;omega
   replace hxwl : X0.install.wq.length ≤ 1000 := hxwl
   replace hx0 : 0 ≤ X0.install.clock := hx0.1
   replace hxnode : 1 ≤ X0.install.node ∧ X0.install.node ≤ 8 := hxnode
   replace hxdone : 0 ≤ X0.install.done ∧ X0.install.done ≤ 9007199254740991 := by show 0 ≤ (0 : Int) ∧ (0 : Int) ≤ 9007199254740991;decide
   replace hxoe := hxoe2
   replace hxdl : X0.install.now.D.length ≤ 30000 := by show X0.next.D.length ≤ _;omega
   clear hxoe2 hxn hxx hxms hxag hxk hxxl hwX hcm hc
   generalize X0.install = X at *
   refine LR.sub (D := St w0 F (.own b3 (.cells (t.cells a c).toArray 54 (0,0)) :: rgL b A X R)) (fun w' hw'=>(front hw' 14 rfl rfl).sub subN) ?_
   have hD : WOk (dats A.es) := by rw [← now_D hA2];exact hF.now.ok
   have eD := now_D hA2
   obtain ⟨D,hDD⟩ : ∃ D,dats A.es = D := ⟨_,rfl⟩
   have hw2 : X.way = X.now := by unfold Rg.way;rw [if_neg (by rw [hxs];decide)]
   have hn2 : ¬ X.state = 2 := by rw [hxs];decide
   repeat'(first|refine kv' ?_|apply jJ|refine jE' ?_|refine jp' ?_|(apply jc;kernel_rfl)|refine kg' ?_|refine kG' ?_|refine kB' fun _=>?_|refine kA' fun _=>?_|refine kK' fun _=>?_|refine kU' ?_|(apply LR.call;(·exact rfl);(intro w1 h1;refine CallsTo.mono (r178n b A X t a c w1 (rg_mid [_] h1) hA2 hD (fun w' hw'=>hr w' (hw'.sub subN)) hz hv.ask hxo) ?_;rintro v w2 ⟨a1,c1,pa1,pc1,ex,rfl,hex,hw2⟩;rw [hex] at hw2;refine LR.back hw2 ?_;clear hw2 h1))|((first|refine kR' ?_ ?_|refine kQ' ?_ ?_);all_goals(intro hc;try simp only[hcs]at hc;try(exfalso;first|contradiction|omega))))
   have hA3 := hA2.sents pa1 pc1 ex
   rw [hex] at hA3
   rw [hDD] at hA3 ⊢
   have haq := ansQ_len D t
   have hal := ansL_len D t.ask
   have hva := hv.ask
   have hA3o : (X.sends (ansL D t.ask)).op.length ≤ 900000 := by
    show (X.op ++ _).length ≤ _
    rw [List.length_append]
    omega
   have hF1 : FN (X.sends (ansL D t.ask)) (ansQ D t) (X.sends (ansL D t.ask)) (ansQ D t) := ⟨Kept.refl _ _,hF.sq,hF.sp,⟨Int.le_refl _,hF.ck.2⟩,hF.ms,hF.now,⟨rfl,rfl⟩,Nat.le_refl _,Nat.le_refl _⟩
   have hFill := fill_n_keeps (allow X.wq.length t.seq t.aru).toNat (S := X.sends (ansL D t.ask)) (t := ansQ D t) hxs hx0 hF1
   have eB : X.visitB t = (Rg.fill (allow X.wq.length t.seq t.aru).toNat (X.sends (ansL D t.ask)) (ansQ D t)).1.visitB2 (Rg.fill (allow X.wq.length t.seq t.aru).toNat (X.sends (ansL D t.ask)) (ansQ D t)).2 := by
    unfold Rg.visitB
    rw [answer_eq,hw2,eD,hDD]
    have e1 : (X.sends (ansL D t.ask)).leftS = (X.wq.length : Int) := by unfold Rg.leftS;rw [if_pos (show (X.sends (ansL D t.ask)).state = 3 from hxs)];rfl
    dsimp only
    rw [e1,if_neg]
    ·rfl
    ·have := hFill.k.state
     show ¬ (Rg.fill (allow X.wq.length t.seq t.aru).toNat (X.sends (ansL D t.ask)) (ansQ D t)).1.state = 2
     rw [this]
     exact hn2
   rw [eB]
   obtain ⟨⟨Y,y⟩,hYy⟩ : ∃ q,Rg.fill (allow X.wq.length t.seq t.aru).toNat (X.sends (ansL D t.ask)) (ansQ D t) = q := ⟨_,rfl⟩
   rw [hYy] at hFill ⊢
   have hys : Y.state = 3 := hFill.k.state.trans hxs
   have hyn : Y.node = X.node := hFill.k.node
   have hya : y.ask = (ansQ D t).ask := hFill.k.ask
   have hyal : y.ask.length ≤ 1000 := by rw [hya];omega
   dsimp only at hFill ⊢
   have hk := hFill.now.aru
   have hk2 := hFill.now.hi
   have hn2 : ¬ Y.state = 2 := by rw [hys];decide
   unfold maxN at hk2
   have hyw : Y.way = Y.now := by unfold Rg.way;rw [if_neg hn2]
   have eB2 : Y.visitB2 y = ({ Y with now := { Y.now with left := (visitT y Y.node Y.now.aru (gapsT Y.now.D Y.now.high 16)).aru } } : Rg).visitC (visitT y Y.node Y.now.aru (gapsT Y.now.D Y.now.high 16)) := by
    unfold Rg.visitB2 Rg.setWay
    rw [hyw]
    dsimp only
    rw [if_neg hn2]
   rw [eB2]
   repeat'(first|(apply CW.reg_sinkC 16;(·exact rfl);(·decide +kernel))|refine kv' ?_|apply jJ|refine jE' ?_|refine jp' ?_|(apply jc;kernel_rfl)|refine kg' ?_|refine kG' ?_|refine kB' fun _=>?_|refine kA' fun _=>?_|refine kK' fun _=>?_|refine kU' ?_|(apply LR.call;(·exact rfl);(intro w1 h1;refine CallsTo.mono (r179n b b3 { A with pa := pa1,pc := pc1,pk := A.pk ++ ex } (X.sends (ansL D t.ask)) (ansQ D t) a1 c1 w1 (front (rg_mid [_] h1) 15 rfl rfl) hA3 hxs (by rw [show (X.sends (ansL D t.ask)).now.D = X.now.D from rfl];exact ⟨hF.sq,hF.sp,⟨hx0,hF.ck.2⟩,hF.ms,hF.now.ok⟩) hv.ar (by show X.wq.length ≤ _;have := hxwl;omega) hA3o) ?_;rintro v w2 ⟨Z,hZ,hw2⟩;rw [show Rg.fill (allow (X.sends (ansL D t.ask)).wq.length (ansQ D t).seq (ansQ D t).aru).toNat (X.sends (ansL D t.ask)) (ansQ D t) = (Y,y) from hYy] at hZ hw2;rw [← hya] at hw2;refine LR.back (C := St w0 F (.own b3 (.cells (y.cells a1 c1).toArray 54 (0,0)) :: rgL b Z Y (osl (.slice a1 y.ask.length c1) 3 1 y.ask.length (iv y.ask) :: R))) hw2 ?_;clear hw2 h1))|((first|refine kR' ?_ ?_|refine kQ' ?_ ?_);all_goals(intro hc;try simp only[hcs]at hc;try(exfalso;first|contradiction|omega))))
   have hZ : RepA Z Y := by assumption
   have eDZ := now_D hZ
   have hup : Upto (dats Z.es) Y.now.aru := by rw [← eDZ];exact hFill.now.isAru.1
   rw [eDZ]
   have hgl := gaps_len (dats Z.es) Y.now.high
   generalize hGG : gapsT (dats Z.es) Y.now.high 16 = GG at *
   all_goals (
    apply DW.quiet [0,1,2,3,4,5,6,7,8,10,11,12,13]
    ·decide +kernel
    ·exact stZ
    repeat'(first|refine yv' ?_|refine uv' ?_|refine un' ?_|(refine us' ?_ ?_;all_goals(intro hc;try simp only[hcs]at hc;try(exfalso;first|contradiction|omega)))|apply QL.nil)
    all_goals (show DW _ _ _ _ _ _ _ _))
   all_goals (
    apply DW.loud 9
    ·exact rfl
    ·decide +kernel
    repeat'(first|refine kg' ?_|refine kG' ?_|apply kM|refine kv' ?_|refine kK' fun _=>?_|refine kU' ?_|refine kB' fun _=>?_|refine kA' fun _=>?_|(apply kq;(·exact rfl);(·intro w1 h1;exact CallsTo.q (show CallsTo Tryz.prog 182 [.pointer (some ⟨Z.bw,0,none⟩)] w1 _ from t35 Z.bw Z.bm Z.es Y.now.aru Y.now.high w1 (h1.holds (wO Z.bw Z.bm Z.es Y.now.aru Y.now.high) memZ)) h1))|(apply LR.call;(·exact rfl);(intro w1 h1;first | (have hq := t39 Z.bw Z.bm Z.es Y.now.aru Y.now.high 16 w1 (h1.holds (wO Z.bw Z.bm Z.es Y.now.aru Y.now.high) memZ) hup hk.2 hk2.2;rw [hGG] at hq;refine CallsTo.mono (show CallsTo Tryz.prog 184 [.pointer (some ⟨Z.bw,0,none⟩),.int .i64 16] w1 _ from hq) ?_;rintro v w2 ⟨a5,c5,rfl,hn⟩;refine LR.back (h1.newSl hn) ?_;clear hn h1 hq) | (refine CallsTo.mono (show CallsTo Tryz.prog 183 [y.val a1 c1,.int .i64 Y.node,.int .i64 Y.now.aru,.slice a5 GG.length c5] w1 _ from t14 y a1 c1 Y.node Y.now.aru a5 c5 GG w1 (h1.rd_of_own (n := y.ask.length) memZ) (osl_nz (h1.holds (osl (.slice a1 y.ask.length c1) 3 1 y.ask.length (iv y.ask)) memZ)) (by omega) (h1.rd_of_own (n := GG.length) memZ) (by omega)) ?_;rintro v w2 ⟨a9,c9,rfl,hn⟩;refine LR.back (St.newOd h1 hn) ?_;clear hn h1))))
    all_goals (refine ats ?_))
   all_goals (
    apply DW.loud 14
    ·exact rfl
    ·decide +kernel
    repeat'(first|refine kg' ?_|refine kG' ?_|apply kM|refine kv' ?_|refine kK' fun _=>?_|refine kU' ?_|refine kB' fun _=>?_|refine kA' fun _=>?_|(apply kq;(·exact rfl);(·intro w1 h1;exact CallsTo.q (show CallsTo Tryz.prog 182 [.pointer (some ⟨Z.bw,0,none⟩)] w1 _ from t35 Z.bw Z.bm Z.es Y.now.aru Y.now.high w1 (h1.holds (wO Z.bw Z.bm Z.es Y.now.aru Y.now.high) memZ)) h1))|(apply LR.call;(·exact rfl);(intro w1 h1;first | (have hq := t39 Z.bw Z.bm Z.es Y.now.aru Y.now.high 16 w1 (h1.holds (wO Z.bw Z.bm Z.es Y.now.aru Y.now.high) memZ) hup hk.2 hk2.2;rw [hGG] at hq;refine CallsTo.mono (show CallsTo Tryz.prog 184 [.pointer (some ⟨Z.bw,0,none⟩),.int .i64 16] w1 _ from hq) ?_;rintro v w2 ⟨a5,c5,rfl,hn⟩;refine LR.back (h1.newSl hn) ?_;clear hn h1 hq) | (refine CallsTo.mono (show CallsTo Tryz.prog 183 [y.val a1 c1,.int .i64 Y.node,.int .i64 Y.now.aru,.slice a5 GG.length c5] w1 _ from t14 y a1 c1 Y.node Y.now.aru a5 c5 GG w1 (h1.rd_of_own (n := y.ask.length) memZ) (osl_nz (h1.holds (osl (.slice a1 y.ask.length c1) 3 1 y.ask.length (iv y.ask)) memZ)) (by omega) (h1.rd_of_own (n := GG.length) memZ) (by omega)) ?_;rintro v w2 ⟨a9,c9,rfl,hn⟩;refine LR.back (St.newOd h1 hn) ?_;clear hn h1))))
    all_goals (refine ats ?_))
   all_goals (
    apply DW.loud 15
    ·exact rfl
    ·decide +kernel
    repeat'(first|refine kg' ?_|refine kG' ?_|apply kM|refine kv' ?_|refine kK' fun _=>?_|refine kU' ?_|refine kB' fun _=>?_|refine kA' fun _=>?_|(apply kq;(·exact rfl);(·intro w1 h1;exact CallsTo.q (show CallsTo Tryz.prog 182 [.pointer (some ⟨Z.bw,0,none⟩)] w1 _ from t35 Z.bw Z.bm Z.es Y.now.aru Y.now.high w1 (h1.holds (wO Z.bw Z.bm Z.es Y.now.aru Y.now.high) memZ)) h1))|(apply LR.call;(·exact rfl);(intro w1 h1;first | (have hq := t39 Z.bw Z.bm Z.es Y.now.aru Y.now.high 16 w1 (h1.holds (wO Z.bw Z.bm Z.es Y.now.aru Y.now.high) memZ) hup hk.2 hk2.2;rw [hGG] at hq;refine CallsTo.mono (show CallsTo Tryz.prog 184 [.pointer (some ⟨Z.bw,0,none⟩),.int .i64 16] w1 _ from hq) ?_;rintro v w2 ⟨a5,c5,rfl,hn⟩;refine LR.back (h1.newSl hn) ?_;clear hn h1 hq) | (refine CallsTo.mono (show CallsTo Tryz.prog 183 [y.val a1 c1,.int .i64 Y.node,.int .i64 Y.now.aru,.slice a5 GG.length c5] w1 _ from t14 y a1 c1 Y.node Y.now.aru a5 c5 GG w1 (h1.rd_of_own (n := y.ask.length) memZ) (osl_nz (h1.holds (osl (.slice a1 y.ask.length c1) 3 1 y.ask.length (iv y.ask)) memZ)) (by omega) (h1.rd_of_own (n := GG.length) memZ) (by omega)) ?_;rintro v w2 ⟨a9,c9,rfl,hn⟩;refine LR.back (St.newOd h1 hn) ?_;clear hn h1))))
    all_goals (refine ats ?_))
   all_goals (apply DW.done;(·decide +kernel))
   all_goals apply At.sink
   have hvl := visit_ask y Y.node Y.now.aru GG
   generalize ht6 : visitT y Y.node Y.now.aru GG = t6 at *
   repeat'(first|refine kv' ?_|apply jJ|refine jE' ?_|refine jp' ?_|(apply jc;kernel_rfl)|refine kg' ?_|refine kG' ?_|refine kB' fun _=>?_|refine kA' fun _=>?_|refine kK' fun _=>?_|refine kU' ?_|((first|refine kR' ?_ ?_|refine kQ' ?_ ?_);all_goals(intro hc;try simp only[hcs]at hc;try(exfalso;first|contradiction|omega))))
   have eC : ({ Y with now := { Y.now with left := t6.aru } } : Rg).visitC t6 = Rg.visitD { ({ Y with now := { Y.now with left := t6.aru } } : Rg).deliver with last := tokP (nextC ({ Y with now := { Y.now with left := t6.aru } } : Rg).deliver.way.cfg.mem ({ Y with now := { Y.now with left := t6.aru } } : Rg).deliver.node) t6 } := by
    unfold Rg.visitC
    dsimp only
    rw [if_pos hys]
   rw [eC]
   apply LR.call
   ·exact rfl
   intro w1 h1
   have hZ5 : RepA Z { Y with now := { Y.now with left := t6.aru } } := ⟨hZ.q,hZ.ql,hZ.nd,hZ.gp,hZ.np,hZ.ap,hZ.pk,hZ.ev⟩
   refine CallsTo.mono (r124 b { Y with now := { Y.now with left := t6.aru } } w1 ⟨Z,hZ5,rg_mid [_,_,_] h1⟩ hFill.now.ok (by show Y.now.D.length ≤ _;have q1 := hFill.len;have q2 : (X.sends (ansL D t.ask)).now.D.length ≤ 30000 := hxdl;have q3 : (X.sends (ansL D t.ask)).wq.length ≤ 1000 := hxwl;omega) (by show 0 ≤ Y.done ∧ _;rw [hFill.k.done];exact hxdone) (by show Y.oe.length ≤ _;rw [hFill.k.oe];show X.oe.length ≤ _;omega)) ?_
   rintro v w2 ⟨Z6,hZ6,hw2⟩
   have z1 : ({ Y with now := { Y.now with left := t6.aru } } : Rg).deliver.state = 3 := hys
   have z2 : 1 ≤ ({ Y with now := { Y.now with left := t6.aru } } : Rg).deliver.node ∧ ({ Y with now := { Y.now with left := t6.aru } } : Rg).deliver.node ≤ 8 := by show 1 ≤ Y.node ∧ Y.node ≤ 8;rw [hyn];exact hxnode
   have z3 : crewOk ({ Y with now := { Y.now with left := t6.aru } } : Rg).deliver.now.cfg.mem = true := hFill.now.mem
   have z4 : ({ Y with now := { Y.now with left := t6.aru } } : Rg).deliver.op.length ≤ 990000 := by
    show Y.op.length ≤ _
    have q1 := hFill.op
    have q3 : (X.sends (ansL D t.ask)).wq.length ≤ 1000 := hxwl
    omega
   generalize ({ Y with now := { Y.now with left := t6.aru } } : Rg).deliver = Y6 at *
   refine LR.back hw2 ?_
   clear hw2 h1 hZ5
   have z5 : Y6.way = Y6.now := by unfold Rg.way;rw [if_neg (by rw [z1];decide)]
   rw [z5]
   repeat'(first|(apply CW.reg_sinkC 15;(·exact rfl);(·decide +kernel))|refine kv' ?_|apply jJ|refine jE' ?_|refine jp' ?_|(apply jc;kernel_rfl)|refine kg' ?_|refine kG' ?_|refine kB' fun _=>?_|refine kA' fun _=>?_|refine kK' fun _=>?_|refine kU' ?_|((first|refine kR' ?_ ?_|refine kQ' ?_ ?_);all_goals(intro hc;try simp only[hcs]at hc;try(exfalso;first|contradiction|omega))))
   all_goals (
    apply DW.quiet [0,1,2,3,4,5,6,7,8,9,11]
    ·decide +kernel
    ·exact stZ
    repeat'(first|refine yv' ?_|refine uv' ?_|refine un' ?_|(refine us' ?_ ?_;all_goals(intro hc;try simp only[hcs]at hc;try(exfalso;first|contradiction|omega)))|apply QL.nil)
    all_goals (show DW _ _ _ _ _ _ _ _))
   all_goals (
    apply DW.loud 10
    ·exact rfl
    ·decide +kernel
    repeat'(first|refine kg' ?_|refine kG' ?_|apply kM|refine kv' ?_|refine kK' fun _=>?_|refine kU' ?_|refine kB' fun _=>?_|refine kA' fun _=>?_|(apply kq;(·exact rfl);(·intro w1 h1;exact CallsTo.q (show CallsTo Tryz.prog 185 [.int .i64 Y6.now.cfg.mem,.int .i64 Y6.node] w1 _ from r185 Y6.now.cfg.mem Y6.node w1 z3 z2 (h1.rd_of memZ)) h1)))
    all_goals (refine ats ?_))
   all_goals (
    apply DW.quiet [12,13,14]
    ·decide +kernel
    ·exact stZ
    repeat'(first|refine yv' ?_|refine uv' ?_|refine un' ?_|(refine us' ?_ ?_;all_goals(intro hc;try simp only[hcs]at hc;try(exfalso;first|contradiction|omega)))|apply QL.nil)
    all_goals (show DW _ _ _ _ _ _ _ _))
   all_goals (apply DW.done;(·decide +kernel))
   all_goals apply At.sink
   repeat'(first|refine kv' ?_|apply jJ|refine jE' ?_|refine jp' ?_|(apply jc;kernel_rfl)|refine kg' ?_|refine kG' ?_|refine kB' fun _=>?_|refine kA' fun _=>?_|refine kK' fun _=>?_|refine kU' ?_|((first|refine kR' ?_ ?_|refine kQ' ?_ ?_);all_goals(intro hc;try simp only[hcs]at hc;try(exfalso;first|contradiction|omega))))
   apply LR.call
   ·exact rfl
   intro w1 h1
   have j1 : St w0 F (odl (.slice a9 t6.ask.length c9) 3 1 t6.ask.length (iv t6.ask) :: _) w1 := front h1 14 rfl rfl
   have j2 := j1.repl (a := lastO Z6 Y6) selZ
   obtain ⟨S7,hS7⟩ : ∃ S7,({ Y6 with last := tokP (nextC Y6.now.cfg.mem Y6.node) t6 } : Rg) = S7 := ⟨_,rfl⟩
   have hZ7 : RepA { Z6 with la := a9,lc := c9 } S7 := by rw [← hS7];exact ⟨hZ6.q,hZ6.ql,hZ6.nd,hZ6.gp,hZ6.np,hZ6.ap,hZ6.pk,hZ6.ev⟩
   have j3 : St w0 F (rgL b { Z6 with la := a9,lc := c9 } { Y6 with last := tokP (nextC Y6.now.cfg.mem Y6.node) t6 } (_ :: _ :: _ :: R)) w1 := j2
   rw [hS7] at j3 ⊢
   have u1 : S7.state = 3 := by rw [← hS7];exact z1
   have u2 : S7.node = Y6.node := by rw [← hS7]
   have u3 : S7.now.cfg = Y6.now.cfg := by rw [← hS7]
   have u4 : S7.op.length ≤ 990000 := by rw [← hS7];exact z4
   refine CallsTo.mono (r86 b S7 w1 ⟨_,hZ7,j3⟩ (by rw [← hS7];rfl) (by rw [← hS7];rfl) (by rw [← hS7];exact hvl) (by omega)) ?_
   rintro v w2 ⟨A8,hA8,hw2⟩
   refine LR.back hw2 ?_
   clear hw2 j3 j2 j1 h1
   have hop8 : S7.resend.op.length ≤ 990001 := by show (S7.op ++ [_]).length ≤ _;rw [List.length_append];simp;omega
   obtain ⟨S8,hS8⟩ : ∃ S8,({ S7.resend with tm := (S7.tm.set 0 40).set 3 12 } : Rg) = S8 := ⟨_,rfl⟩
   have eD : S7.visitD = if S8.state = 3 ∧ leastC S8.way.cfg.mem = S8.node then S8.send (beaP S8.way.cfg S8.node) else S8 := by rw [← hS8];rfl
   repeat'(first|refine kv' ?_|apply jJ|refine jE' ?_|refine jp' ?_|(apply jc;kernel_rfl)|refine kg' ?_|refine kG' ?_|refine kB' fun _=>?_|refine kA' fun _=>?_|refine kK' fun _=>?_|refine kU' ?_|((first|refine kR' ?_ ?_|refine kQ' ?_ ?_);all_goals(intro hc;try simp only[hcs]at hc;try(exfalso;first|contradiction|omega))))
   apply LR.call
   ·exact rfl
   intro w1 h1
   refine CallsTo.mono (show CallsTo Tryz.prog 83 [.pointer (some ⟨A8.ba,0,none⟩),.int .i64 0,.int .i64 40] w1 _ from r83 A8.ba A8.bam S7.tm.get 0 40 w1 (h1.holds (alO A8.ba A8.bam S7.tm.get) memZ) (by decide) (by decide)) ?_
   rintro v w2 ⟨rfl,st⟩
   have h2 := h1.did selZ rfl st (alO_dep _ _ _)
   rw [tm_set _ (by decide)] at h2
   refine LR.back (C := St w0 F (rgL b A8 { S7.resend with tm := S7.tm.set 0 40 } (_ :: _ :: _ :: R))) h2 ?_
   clear h2 st h1
   repeat'(first|refine kv' ?_|apply jJ|refine jE' ?_|refine jp' ?_|(apply jc;kernel_rfl)|refine kg' ?_|refine kG' ?_|refine kB' fun _=>?_|refine kA' fun _=>?_|refine kK' fun _=>?_|refine kU' ?_|((first|refine kR' ?_ ?_|refine kQ' ?_ ?_);all_goals(intro hc;try simp only[hcs]at hc;try(exfalso;first|contradiction|omega))))
   apply LR.call
   ·exact rfl
   intro w1 h1
   refine CallsTo.mono (show CallsTo Tryz.prog 83 [.pointer (some ⟨A8.ba,0,none⟩),.int .i64 3,.int .i64 12] w1 _ from r83 A8.ba A8.bam (S7.tm.set 0 40).get 3 12 w1 (h1.holds (alO A8.ba A8.bam (S7.tm.set 0 40).get) memZ) (by decide) (by decide)) ?_
   rintro v w2 ⟨rfl,st⟩
   have h2 := h1.did selZ rfl st (alO_dep _ _ _)
   rw [tm_set _ (by decide)] at h2
   have h3 : St w0 F (rgL b A8 { S7.resend with tm := (S7.tm.set 0 40).set 3 12 } (_ :: _ :: _ :: R)) w2 := h2
   rw [hS8] at h3
   refine LR.back h3 ?_
   clear h3 h2 st h1
   replace hA8 : RepA A8 S8 := by rw [← hS8];exact ⟨hA8.q,hA8.ql,hA8.nd,hA8.gp,hA8.np,hA8.ap,hA8.pk,hA8.ev⟩
   have k1 : S8.state = 3 := by rw [← hS8];exact u1
   have k2 : S8.node = Y6.node := by rw [← hS8];exact u2
   have k3 : S8.now.cfg = Y6.now.cfg := by rw [← hS8];exact u3
   have k4 : S8.op.length ≤ 990001 := by rw [← hS8];exact hop8
   have k5 : S8.way = S8.now := by unfold Rg.way;rw [if_neg (by rw [k1];decide)]
   have k6 : crewOk S8.now.cfg.mem = true := by rw [k3];exact z3
   rw [eD,k5]
   clear eD hS8 hop8
   repeat'(first|(apply CW.reg_sinkC 13;(·exact rfl);(·decide +kernel))|refine kv' ?_|apply jJ|refine jE' ?_|refine jp' ?_|(apply jc;kernel_rfl)|refine kg' ?_|refine kG' ?_|refine kB' fun _=>?_|refine kA' fun _=>?_|refine kK' fun _=>?_|refine kU' ?_|(apply kq;(·exact rfl);(·intro w1 h1;exact CallsTo.q (show CallsTo Tryz.prog 186 [.int .i64 S8.now.cfg.mem] w1 _ from r186 S8.now.cfg.mem w1 k6 (h1.rd_of memZ)) h1))|((first|refine kR' ?_ ?_|refine kQ' ?_ ?_);all_goals(intro hc;try simp only[hcs]at hc;try(exfalso;first|contradiction|omega))))
   rotate_left
   ·apply end0
    ·exact rfl
    intro w' hS
    rw [if_neg (fun h9=>absurd h9.2 (by assumption))]
    exact ⟨A8,hA8,hS.sub subN⟩
   rw [if_pos ⟨k1,by assumption⟩]
   all_goals (
    apply DW.quiet [0,1,2,3,4,5,6,7,8,9,10,11]
    ·decide +kernel
    ·exact stZ
    repeat'(first|refine yv' ?_|refine uv' ?_|refine un' ?_|(refine us' ?_ ?_;all_goals(intro hc;try simp only[hcs]at hc;try(exfalso;first|contradiction|omega)))|apply QL.nil)
    all_goals (show DW _ _ _ _ _ _ _ _))
   all_goals (
    apply DW.loud 12
    ·exact rfl
    ·decide +kernel
    repeat'(first|(apply Go.Hb.kK;(iterate 4 exact rfl);intro bs)|refine kg' ?_|refine kG' ?_|apply kM|refine kv' ?_|refine kK' fun _=>?_|refine kU' ?_|refine kB' fun _=>?_|refine kA' fun _=>?_)
    all_goals (refine ats ?_))
   all_goals (apply DW.done;(·decide +kernel))
   all_goals apply At.sink
   apply LR.call
   ·exact rfl
   intro w1 h1
   have hl8 := hA8.op_len
   have j := rg_mid [_] h1
   refine CallsTo.mono (r118 b A8 S8 (some ⟨bs,0,none⟩) 1 ⟨beaP S8.now.cfg S8.node,noAd⟩ w1 (j.pk0 _ ⟨rfl,rfl,rfl⟩ ⟨rfl,rfl,rfl⟩ ⟨rfl,rfl,rfl⟩) (fun w' hw'=>hw'.rd_of_blk (mH _ _)) (by simp) (by omega)) ?_
   rintro v w2 ⟨pa,pc,hw2⟩
   refine LR.back hw2 ?_
   repeat'(first|refine kv' ?_|apply jJ|refine jE' ?_|refine jp' ?_|(apply jc;kernel_rfl)|refine kg' ?_|refine kG' ?_|refine kB' fun _=>?_|refine kA' fun _=>?_|refine kK' fun _=>?_|refine kU' ?_|((first|refine kR' ?_ ?_|refine kQ' ?_ ?_);all_goals(intro hc;try simp only[hcs]at hc;try(exfalso;first|contradiction|omega))))
   apply end0
   ·exact rfl
   intro w' hS
   exact (Nd.mk (hA8.sent pa pc ⟨beaP S8.now.cfg S8.node,noAd⟩) hS).le subN
  ·rw [if_neg (fun h9=>hc h9.2)]
   obtain ⟨l,hl,hlm,hll⟩ := hxag
   obtain ⟨q,hq,hql⟩ : ∃ q,Y.ap = some q ∧ q.2.2.2.map MsA.m = l := by
    have h9 := hA2.ap
    rw [hl] at h9
    cases hp9 : Y.ap with
    | none=>rw [show ({ Y with np := some p } : RA).ap = Y.ap from rfl,hp9] at h9;cases h9
    | some q=>rw [show ({ Y with np := some p } : RA).ap = Y.ap from rfl,hp9] at h9;exact ⟨q,rfl,(Option.some.inj h9).symm⟩
   obtain ⟨Y1,rfl⟩ : ∃ Y1 : RA,Y = { Y1 with ap := some q } := ⟨Y,by rw [← hq]⟩
   clear hq
   have eDX : X0.next.D = dats p.2.2 := by unfold Way.D;rw [show X0.next.dat = some (dats p.2.2,X0.next.high) from hA2.np]
   have hD : WOk (dats p.2.2) := by rw [← eDX];exact hxx.ok
   have hqlen : q.2.2.2.length = l.length := by rw [← hql,List.length_map]
   repeat'(first|refine kv' ?_|apply jJ|refine jE' ?_|refine jp' ?_|(apply jc;kernel_rfl)|refine kg' ?_|refine kG' ?_|refine kB' fun _=>?_|refine kA' fun _=>?_|refine kK' fun _=>?_|refine kU' ?_|(apply kq;(·exact rfl);(·intro w1 h1;exact CallsTo.q (show CallsTo Tryz.prog 25 [.int .i64 X0.next.cfg.mem] w1 _ from r25 X0.next.cfg.mem w1 hcm) h1))|(apply LR.call;(·exact rfl);(intro w1 h1;refine CallsTo.mono (r178x b { Y1 with ap := some q } X0 t a c w1 p (rg_mid [_] h1) hA2 hD (fun w' hw'=>hr w' (hw'.sub subN)) hz hv.ask (by omega)) ?_;rintro v w2 ⟨a1,c1,pa1,pc1,ex,rfl,hex,hw2⟩;rw [hex] at hw2;refine LR.back hw2 ?_;clear hw2 h1))|((first|refine kR' ?_ ?_|refine kQ' ?_ ?_);all_goals(intro hc;try simp only[hcs]at hc;try(exfalso;first|contradiction|omega))))
   have hA3 := hA2.sents pa1 pc1 ex
   rw [hex] at hA3
   have haq := ansQ_len (dats p.2.2) t
   have hal := ansL_len (dats p.2.2) t.ask
   have hva := hv.ask
   obtain ⟨X,hXX⟩ : ∃ X,X0.sends (ansL (dats p.2.2) t.ask) = X := ⟨_,rfl⟩
   rw [hXX] at hA3 ⊢
   have x1 : X.state = 2 := by rw [← hXX];exact hxs
   have x2 : X.next = X0.next := by rw [← hXX];rfl
   have x3 : X.node = X0.node := by rw [← hXX];rfl
   have x4 : X.clock = X0.clock := by rw [← hXX];rfl
   have x5 : X.again = some l := by rw [← hXX];exact hl
   have x6 : X.op.length ≤ 800000 := by rw [← hXX];show (X0.op ++ _).length ≤ _;rw [List.length_append];omega
   have hx02 : 0 ≤ X.clock ∧ X.clock ≤ maxN := by rw [x4];exact hx0
   have hxx2 : WayOk X.next := by rw [x2];exact hxx
   have hF1 : FX X (ansQ (dats p.2.2) t) l X (ansQ (dats p.2.2) t) := ⟨Kept.refl _ _,f1,f2,⟨Int.le_refl _,hx02.2⟩,hxx2,⟨rfl,rfl⟩,⟨l,x5,hlm,Nat.le_refl _,Nat.le_refl _,Nat.le_refl _⟩⟩
   have hFill := fill_x_keeps (allow (q.2.2.2.length : Int) t.seq t.aru).toNat x1 hx02.1 x5 hF1
   have eB : X0.visitB t = (Rg.fill (allow (q.2.2.2.length : Int) t.seq t.aru).toNat X (ansQ (dats p.2.2) t)).1.visitB2 (idleT (Rg.fill (allow (q.2.2.2.length : Int) t.seq t.aru).toNat X (ansQ (dats p.2.2) t)).2 (quietT (Rg.fill (allow (q.2.2.2.length : Int) t.seq t.aru).toNat X (ansQ (dats p.2.2) t)).1 t (Rg.fill (allow (q.2.2.2.length : Int) t.seq t.aru).toNat X (ansQ (dats p.2.2) t)).2)) := by
    unfold Rg.visitB
    rw [answer_eq,hwX,eDX]
    dsimp only
    rw [hXX]
    have e1 : X.leftS = (q.2.2.2.length : Int) := by unfold Rg.leftS;rw [if_neg (by rw [x1];decide),x5,hqlen];rfl
    rw [e1,if_pos]
    ·rfl
    ·have h9 := hFill.k.state
     exact h9.trans x1
   rw [eB]
   obtain ⟨⟨Y5,y⟩,hYy⟩ : ∃ r,Rg.fill (allow (q.2.2.2.length : Int) t.seq t.aru).toNat X (ansQ (dats p.2.2) t) = r := ⟨_,rfl⟩
   rw [hYy] at hFill ⊢
   have hys : Y5.state = 2 := hFill.k.state.trans x1
   have hyn : Y5.node = X0.node := hFill.k.node.trans x3
   have hya : y.ask = (ansQ (dats p.2.2) t).ask := hFill.k.ask
   have hyi : 0 ≤ y.idle := by rw [hFill.k.idle];exact hv.idle
   have hyal : y.ask.length ≤ 1000 := by rw [hya];omega
   dsimp only at hFill ⊢
   have hk := hFill.next.aru
   have hk2 := hFill.next.hi
   unfold maxN at hk2
   have hyw : Y5.way = Y5.next := by unfold Rg.way;rw [if_pos hys]
   have hycm := hFill.next.mem
   obtain ⟨l5,hl5,_,_,hop5,_⟩ := hFill.ms
   have eB2 : ∀ y,Y5.visitB2 y = Rg.visitD { ({ Y5 with next := { Y5.next with left := (visitT y Y5.node Y5.next.aru (gapsT Y5.next.D Y5.next.high 16)).aru } } : Rg) with last := tokP (nextC Y5.next.cfg.mem Y5.node) (visitT y Y5.node Y5.next.aru (gapsT Y5.next.D Y5.next.high 16)) } := by
    intro y
    unfold Rg.visitB2 Rg.setWay
    rw [hyw]
    dsimp only
    rw [if_pos hys]
    unfold Rg.visitC
    dsimp only
    rw [if_neg (by rw [hys];decide)]
    unfold Rg.way
    dsimp only
    rw [if_pos hys]
   rw [eB2]
   repeat'(first|refine kv' ?_|apply jJ|refine jE' ?_|refine jp' ?_|(apply jc;kernel_rfl)|refine kg' ?_|refine kG' ?_|refine kB' fun _=>?_|refine kA' fun _=>?_|refine kK' fun _=>?_|refine kU' ?_|((first|refine kR' ?_ ?_|refine kQ' ?_ ?_);all_goals(intro hc;try simp only[hcs]at hc;try(exfalso;first|contradiction|omega))))
   apply LR.call
   ·exact rfl
   intro w1 h1
   refine CallsTo.mono (r179x b b3 { Y1 with pa := pa1,pc := pc1,pk := Y1.pk ++ ex } p q X (ansQ (dats p.2.2) t) a1 c1 w1 (front (rg_mid [_] h1) 15 rfl rfl) hA3 x1 ⟨f1,f2,hx02,by rw [hql];exact hlm,hD⟩ hv.ar (by omega) (by omega)) ?_
   rintro v w2 ⟨Z,hZ,hw2⟩
   rw [show Rg.fill (allow (q.2.2.2.length : Int) (ansQ (dats p.2.2) t).seq (ansQ (dats p.2.2) t).aru).toNat X (ansQ (dats p.2.2) t) = (Y5,y) from hYy] at hZ hw2
   rw [← hya] at hw2
   refine LR.back (C := St w0 F (.own b3 (.cells (y.cells a1 c1).toArray 54 (0,0)) :: rgL b Z Y5 (osl (.slice a1 y.ask.length c1) 3 1 y.ask.length (iv y.ask) :: R))) hw2 ?_
   clear hw2 h1
   obtain ⟨p5,hp5,hpd5⟩ := hZ.nxt hFill.next.dat
   obtain ⟨q5,hq5,hql5⟩ : ∃ q,Z.ap = some q ∧ q.2.2.2.map MsA.m = l5 := by
    have h9 := hZ.ap
    rw [hl5] at h9
    cases hp9 : Z.ap with
    | none=>rw [hp9] at h9;cases h9
    | some q=>rw [hp9] at h9;exact ⟨q,rfl,(Option.some.inj h9).symm⟩
   obtain ⟨Z1,rfl⟩ : ∃ Z1 : RA,Z = { Z1 with np := some p5,ap := some q5 } := ⟨Z,by rw [← hp5,← hq5]⟩
   clear hp5 hq5
   have eDZ : Y5.next.D = dats p5.2.2 := by unfold Way.D;rw [hpd5]
   have hup : Upto (dats p5.2.2) Y5.next.aru := by rw [← eDZ];exact hFill.next.isAru.1
   have hqt : quietT Y5 t y = (decide (y.seq = (ansQ (dats p.2.2) t).seq) && decide (q5.2.2.2.length = 0) && decide (Y5.next.aru = y.seq)) := by
    unfold quietT
    rw [hl5,hyw,← hql5]
    show (decide (y.seq = (ansQ (dats p.2.2) t).seq) && decide ((q5.2.2.2.map MsA.m).length = 0) && _) = _
    rw [List.length_map]
   rw [eDZ]
   have hgl := gaps_len (dats p5.2.2) Y5.next.high
   generalize hGG : gapsT (dats p5.2.2) Y5.next.high 16 = GG at *
   repeat'(first|(apply CW.reg_sinkC 24;(·exact rfl);(·decide +kernel))|refine kv' ?_|apply jJ|refine jE' ?_|refine jp' ?_|(apply jc;kernel_rfl)|refine kg' ?_|refine kG' ?_|refine kB' fun _=>?_|refine kA' fun _=>?_|refine kK' fun _=>?_|refine kU' ?_|((first|refine kR' ?_ ?_|refine kQ' ?_ ?_);all_goals(intro hc;try simp only[hcs]at hc;try(exfalso;first|contradiction|omega))))
   all_goals (
    apply DW.quiet [0,1,2,3,4,5,6,7,8,9]
    ·decide +kernel
    ·exact stZ
    repeat'(first|refine yv' ?_|refine uv' ?_|refine un' ?_|(refine us' ?_ ?_;all_goals(intro hc;try simp only[hcs]at hc;try(exfalso;first|contradiction|omega)))|apply QL.nil)
    all_goals (show DW _ _ _ _ _ _ _ _))
   all_goals (
    apply DW.loud 10
    ·exact rfl
    ·decide +kernel
    repeat'(first|refine kg' ?_|refine kG' ?_|apply kM|refine kv' ?_|refine kK' fun _=>?_|refine kU' ?_|refine kB' fun _=>?_|refine kA' fun _=>?_|(apply kq;(·exact rfl);(·intro w1 h1;first | exact CallsTo.q (show CallsTo Tryz.prog 181 [.pointer (some ⟨q5.1,0,none⟩)] w1 _ from g40 q5.1 q5.2.1 q5.2.2.1 q5.2.2.2.length w1 (ga_rd (h1.holds (gO q5.1 q5.2.1 q5.2.2.1 q5.2.2.2) memZ))) h1 | exact CallsTo.q (show CallsTo Tryz.prog 182 [.pointer (some ⟨p5.1,0,none⟩)] w1 _ from t35 p5.1 p5.2.1 p5.2.2 Y5.next.aru Y5.next.high w1 (h1.holds (wO p5.1 p5.2.1 p5.2.2 Y5.next.aru Y5.next.high) memZ)) h1))|(apply LR.call;(·exact rfl);(intro w1 h1;have hq := r180 y a1 c1 (quietT Y5 t y) w1 (h1.rd_of_own (n := y.ask.length) memZ) (osl_nz (h1.holds (osl (.slice a1 y.ask.length c1) 3 1 y.ask.length (iv y.ask)) memZ)) (by omega) hyi;rw [hqt] at hq;(first | rw [decide_eq_false (show ¬ y.seq = (ansQ (dats p.2.2) t).seq by assumption),Bool.false_and,Bool.false_and] at hq | rw [decide_eq_true (show y.seq = (ansQ (dats p.2.2) t).seq by assumption),decide_eq_false (show ¬ q5.2.2.2.length = 0 by omega),Bool.true_and,Bool.false_and] at hq | rw [decide_eq_true (show y.seq = (ansQ (dats p.2.2) t).seq by assumption),decide_eq_true (show q5.2.2.2.length = 0 by omega),Bool.true_and,Bool.true_and] at hq);refine CallsTo.mono hq ?_;clear hq;rintro v w2 ⟨a7,c7,rfl,hask,hn⟩;rw [← hask] at hn;refine LR.back (h1.newSl hn) ?_;clear hn h1)))
    all_goals (refine ats ?_))
   all_goals (
    apply DW.quiet [11,12,13,14,15,16,17,19,20]
    ·decide +kernel
    ·exact stZ
    repeat'(first|refine yv' ?_|refine uv' ?_|refine un' ?_|(refine us' ?_ ?_;all_goals(intro hc;try simp only[hcs]at hc;try(exfalso;first|contradiction|omega)))|apply QL.nil)
    all_goals (show DW _ _ _ _ _ _ _ _))
   all_goals (
    apply DW.loud 18
    ·exact rfl
    ·decide +kernel
    repeat'(first|refine kg' ?_|refine kG' ?_|apply kM|refine kv' ?_|refine kK' fun _=>?_|refine kU' ?_|refine kB' fun _=>?_|refine kA' fun _=>?_|(apply kq;(·exact rfl);(·intro w1 h1;first | exact CallsTo.q (show CallsTo Tryz.prog 181 [.pointer (some ⟨q5.1,0,none⟩)] w1 _ from g40 q5.1 q5.2.1 q5.2.2.1 q5.2.2.2.length w1 (ga_rd (h1.holds (gO q5.1 q5.2.1 q5.2.2.1 q5.2.2.2) memZ))) h1 | exact CallsTo.q (show CallsTo Tryz.prog 182 [.pointer (some ⟨p5.1,0,none⟩)] w1 _ from t35 p5.1 p5.2.1 p5.2.2 Y5.next.aru Y5.next.high w1 (h1.holds (wO p5.1 p5.2.1 p5.2.2 Y5.next.aru Y5.next.high) memZ)) h1))|(apply LR.call;(·exact rfl);(intro w1 h1;have hq := r180 y a1 c1 (quietT Y5 t y) w1 (h1.rd_of_own (n := y.ask.length) memZ) (osl_nz (h1.holds (osl (.slice a1 y.ask.length c1) 3 1 y.ask.length (iv y.ask)) memZ)) (by omega) hyi;rw [hqt] at hq;(first | rw [decide_eq_false (show ¬ y.seq = (ansQ (dats p.2.2) t).seq by assumption),Bool.false_and,Bool.false_and] at hq | rw [decide_eq_true (show y.seq = (ansQ (dats p.2.2) t).seq by assumption),decide_eq_false (show ¬ q5.2.2.2.length = 0 by omega),Bool.true_and,Bool.false_and] at hq | rw [decide_eq_true (show y.seq = (ansQ (dats p.2.2) t).seq by assumption),decide_eq_true (show q5.2.2.2.length = 0 by omega),Bool.true_and,Bool.true_and] at hq);refine CallsTo.mono hq ?_;clear hq;rintro v w2 ⟨a7,c7,rfl,hask,hn⟩;rw [← hask] at hn;refine LR.back (h1.newSl hn) ?_;clear hn h1)))
    all_goals (refine ats ?_))
   all_goals (
    apply DW.quiet [21,22]
    ·decide +kernel
    ·exact stZ
    repeat'(first|refine yv' ?_|refine uv' ?_|refine un' ?_|(refine us' ?_ ?_;all_goals(intro hc;try simp only[hcs]at hc;try(exfalso;first|contradiction|omega)))|apply QL.nil)
    all_goals (show DW _ _ _ _ _ _ _ _))
   all_goals (
    apply DW.loud 23
    ·exact rfl
    ·decide +kernel
    repeat'(first|refine kg' ?_|refine kG' ?_|apply kM|refine kv' ?_|refine kK' fun _=>?_|refine kU' ?_|refine kB' fun _=>?_|refine kA' fun _=>?_|(apply kq;(·exact rfl);(·intro w1 h1;first | exact CallsTo.q (show CallsTo Tryz.prog 181 [.pointer (some ⟨q5.1,0,none⟩)] w1 _ from g40 q5.1 q5.2.1 q5.2.2.1 q5.2.2.2.length w1 (ga_rd (h1.holds (gO q5.1 q5.2.1 q5.2.2.1 q5.2.2.2) memZ))) h1 | exact CallsTo.q (show CallsTo Tryz.prog 182 [.pointer (some ⟨p5.1,0,none⟩)] w1 _ from t35 p5.1 p5.2.1 p5.2.2 Y5.next.aru Y5.next.high w1 (h1.holds (wO p5.1 p5.2.1 p5.2.2 Y5.next.aru Y5.next.high) memZ)) h1))|(apply LR.call;(·exact rfl);(intro w1 h1;have hq := r180 y a1 c1 (quietT Y5 t y) w1 (h1.rd_of_own (n := y.ask.length) memZ) (osl_nz (h1.holds (osl (.slice a1 y.ask.length c1) 3 1 y.ask.length (iv y.ask)) memZ)) (by omega) hyi;rw [hqt] at hq;(first | rw [decide_eq_false (show ¬ y.seq = (ansQ (dats p.2.2) t).seq by assumption),Bool.false_and,Bool.false_and] at hq | rw [decide_eq_true (show y.seq = (ansQ (dats p.2.2) t).seq by assumption),decide_eq_false (show ¬ q5.2.2.2.length = 0 by omega),Bool.true_and,Bool.false_and] at hq | rw [decide_eq_true (show y.seq = (ansQ (dats p.2.2) t).seq by assumption),decide_eq_true (show q5.2.2.2.length = 0 by omega),Bool.true_and,Bool.true_and] at hq);refine CallsTo.mono hq ?_;clear hq;rintro v w2 ⟨a7,c7,rfl,hask,hn⟩;rw [← hask] at hn;refine LR.back (h1.newSl hn) ?_;clear hn h1)))
    all_goals (refine ats ?_))
   all_goals (apply DW.done;(·decide +kernel))
   all_goals apply At.sink
   all_goals (
    first
     | rw [decide_eq_false (show ¬ y.seq = (ansQ (dats p.2.2) t).seq by assumption),Bool.false_and,Bool.false_and] at hqt
     | rw [decide_eq_true (show y.seq = (ansQ (dats p.2.2) t).seq by assumption),decide_eq_false (show ¬ q5.2.2.2.length = 0 by omega),Bool.true_and,Bool.false_and] at hqt
     | rw [decide_eq_true (show y.seq = (ansQ (dats p.2.2) t).seq by assumption),decide_eq_true (show q5.2.2.2.length = 0 by omega),Bool.true_and,Bool.true_and] at hqt
    obtain ⟨y7,hy7⟩ : ∃ y7,idleT y (quietT Y5 t y) = y7 := ⟨_,rfl⟩
    have hy7a : y7.ask = y.ask := by rw [← hy7];unfold idleT;split <;> (try split) <;> rfl
    have hy7l : y7.ask.length ≤ 1000 := by rw [hy7a];exact hyal
    rw [hy7]
    rw [hqt] at hy7
    rw [hy7]
    clear hy7 hqt hy7a
    repeat'(first|(apply CW.reg_sinkC 16;(·exact rfl);(·decide +kernel))|refine kv' ?_|apply jJ|refine jE' ?_|refine jp' ?_|(apply jc;kernel_rfl)|refine kg' ?_|refine kG' ?_|refine kB' fun _=>?_|refine kA' fun _=>?_|refine kK' fun _=>?_|refine kU' ?_|((first|refine kR' ?_ ?_|refine kQ' ?_ ?_);all_goals(intro hc;try simp only[hcs]at hc;try(exfalso;first|contradiction|omega))))
    all_goals (
     apply DW.quiet [0,1,2,3,4,5,6,7,8,10,11,12,13]
     ·decide +kernel
     ·exact stZ
     repeat'(first|refine yv' ?_|refine uv' ?_|refine un' ?_|(refine us' ?_ ?_;all_goals(intro hc;try simp only[hcs]at hc;try(exfalso;first|contradiction|omega)))|apply QL.nil)
     all_goals (show DW _ _ _ _ _ _ _ _))
    all_goals (
     apply DW.loud 9
     ·exact rfl
     ·decide +kernel
     repeat'(first|refine kg' ?_|refine kG' ?_|apply kM|refine kv' ?_|refine kK' fun _=>?_|refine kU' ?_|refine kB' fun _=>?_|refine kA' fun _=>?_|(apply kq;(·exact rfl);(·intro w1 h1;exact CallsTo.q (show CallsTo Tryz.prog 182 [.pointer (some ⟨p5.1,0,none⟩)] w1 _ from t35 p5.1 p5.2.1 p5.2.2 Y5.next.aru Y5.next.high w1 (h1.holds (wO p5.1 p5.2.1 p5.2.2 Y5.next.aru Y5.next.high) memZ)) h1))|(apply LR.call;(·exact rfl);(intro w1 h1;first | (have hq := t39 p5.1 p5.2.1 p5.2.2 Y5.next.aru Y5.next.high 16 w1 (h1.holds (wO p5.1 p5.2.1 p5.2.2 Y5.next.aru Y5.next.high) memZ) hup hk.2 hk2.2;rw [hGG] at hq;refine CallsTo.mono (show CallsTo Tryz.prog 184 [.pointer (some ⟨p5.1,0,none⟩),.int .i64 16] w1 _ from hq) ?_;rintro v w2 ⟨a5,c5,rfl,hn⟩;refine LR.back (h1.newSl hn) ?_;clear hn h1 hq) | (refine CallsTo.mono (show CallsTo Tryz.prog 183 [y7.val a7 c7,.int .i64 Y5.node,.int .i64 Y5.next.aru,.slice a5 GG.length c5] w1 _ from t14 y7 a7 c7 Y5.node Y5.next.aru a5 c5 GG w1 (h1.rd_of_own (n := y7.ask.length) memZ) (osl_nz (h1.holds (osl (.slice a7 y7.ask.length c7) 3 1 y7.ask.length (iv y7.ask)) memZ)) (by omega) (h1.rd_of_own (n := GG.length) memZ) (by omega)) ?_;rintro v w2 ⟨a9,c9,rfl,hn⟩;refine LR.back (St.newOd h1 hn) ?_;clear hn h1))))
     all_goals (refine ats ?_))
    all_goals (
     apply DW.loud 14
     ·exact rfl
     ·decide +kernel
     repeat'(first|refine kg' ?_|refine kG' ?_|apply kM|refine kv' ?_|refine kK' fun _=>?_|refine kU' ?_|refine kB' fun _=>?_|refine kA' fun _=>?_|(apply kq;(·exact rfl);(·intro w1 h1;exact CallsTo.q (show CallsTo Tryz.prog 182 [.pointer (some ⟨p5.1,0,none⟩)] w1 _ from t35 p5.1 p5.2.1 p5.2.2 Y5.next.aru Y5.next.high w1 (h1.holds (wO p5.1 p5.2.1 p5.2.2 Y5.next.aru Y5.next.high) memZ)) h1))|(apply LR.call;(·exact rfl);(intro w1 h1;first | (have hq := t39 p5.1 p5.2.1 p5.2.2 Y5.next.aru Y5.next.high 16 w1 (h1.holds (wO p5.1 p5.2.1 p5.2.2 Y5.next.aru Y5.next.high) memZ) hup hk.2 hk2.2;rw [hGG] at hq;refine CallsTo.mono (show CallsTo Tryz.prog 184 [.pointer (some ⟨p5.1,0,none⟩),.int .i64 16] w1 _ from hq) ?_;rintro v w2 ⟨a5,c5,rfl,hn⟩;refine LR.back (h1.newSl hn) ?_;clear hn h1 hq) | (refine CallsTo.mono (show CallsTo Tryz.prog 183 [y7.val a7 c7,.int .i64 Y5.node,.int .i64 Y5.next.aru,.slice a5 GG.length c5] w1 _ from t14 y7 a7 c7 Y5.node Y5.next.aru a5 c5 GG w1 (h1.rd_of_own (n := y7.ask.length) memZ) (osl_nz (h1.holds (osl (.slice a7 y7.ask.length c7) 3 1 y7.ask.length (iv y7.ask)) memZ)) (by omega) (h1.rd_of_own (n := GG.length) memZ) (by omega)) ?_;rintro v w2 ⟨a9,c9,rfl,hn⟩;refine LR.back (St.newOd h1 hn) ?_;clear hn h1))))
     all_goals (refine ats ?_))
    all_goals (
     apply DW.loud 15
     ·exact rfl
     ·decide +kernel
     repeat'(first|refine kg' ?_|refine kG' ?_|apply kM|refine kv' ?_|refine kK' fun _=>?_|refine kU' ?_|refine kB' fun _=>?_|refine kA' fun _=>?_|(apply kq;(·exact rfl);(·intro w1 h1;exact CallsTo.q (show CallsTo Tryz.prog 182 [.pointer (some ⟨p5.1,0,none⟩)] w1 _ from t35 p5.1 p5.2.1 p5.2.2 Y5.next.aru Y5.next.high w1 (h1.holds (wO p5.1 p5.2.1 p5.2.2 Y5.next.aru Y5.next.high) memZ)) h1))|(apply LR.call;(·exact rfl);(intro w1 h1;first | (have hq := t39 p5.1 p5.2.1 p5.2.2 Y5.next.aru Y5.next.high 16 w1 (h1.holds (wO p5.1 p5.2.1 p5.2.2 Y5.next.aru Y5.next.high) memZ) hup hk.2 hk2.2;rw [hGG] at hq;refine CallsTo.mono (show CallsTo Tryz.prog 184 [.pointer (some ⟨p5.1,0,none⟩),.int .i64 16] w1 _ from hq) ?_;rintro v w2 ⟨a5,c5,rfl,hn⟩;refine LR.back (h1.newSl hn) ?_;clear hn h1 hq) | (refine CallsTo.mono (show CallsTo Tryz.prog 183 [y7.val a7 c7,.int .i64 Y5.node,.int .i64 Y5.next.aru,.slice a5 GG.length c5] w1 _ from t14 y7 a7 c7 Y5.node Y5.next.aru a5 c5 GG w1 (h1.rd_of_own (n := y7.ask.length) memZ) (osl_nz (h1.holds (osl (.slice a7 y7.ask.length c7) 3 1 y7.ask.length (iv y7.ask)) memZ)) (by omega) (h1.rd_of_own (n := GG.length) memZ) (by omega)) ?_;rintro v w2 ⟨a9,c9,rfl,hn⟩;refine LR.back (St.newOd h1 hn) ?_;clear hn h1))))
     all_goals (refine ats ?_))
    all_goals (apply DW.done;(·decide +kernel))
    all_goals apply At.sink
    have hvl := visit_ask y7 Y5.node Y5.next.aru GG
    generalize ht6 : visitT y7 Y5.node Y5.next.aru GG = t6 at *
    repeat'(first|(apply CW.reg_sinkC 15;(·exact rfl);(·decide +kernel))|refine kv' ?_|apply jJ|refine jE' ?_|refine jp' ?_|(apply jc;kernel_rfl)|refine kg' ?_|refine kG' ?_|refine kB' fun _=>?_|refine kA' fun _=>?_|refine kK' fun _=>?_|refine kU' ?_|((first|refine kR' ?_ ?_|refine kQ' ?_ ?_);all_goals(intro hc;try simp only[hcs]at hc;try(exfalso;first|contradiction|omega))))
    all_goals (
     apply DW.quiet [0,1,2,3,4,5,6,7,8,9,11]
     ·decide +kernel
     ·exact stZ
     repeat'(first|refine yv' ?_|refine uv' ?_|refine un' ?_|(refine us' ?_ ?_;all_goals(intro hc;try simp only[hcs]at hc;try(exfalso;first|contradiction|omega)))|apply QL.nil)
     all_goals (show DW _ _ _ _ _ _ _ _))
    all_goals (
     apply DW.loud 10
     ·exact rfl
     ·decide +kernel
     repeat'(first|refine kg' ?_|refine kG' ?_|apply kM|refine kv' ?_|refine kK' fun _=>?_|refine kU' ?_|refine kB' fun _=>?_|refine kA' fun _=>?_|(apply kq;(·exact rfl);(·intro w1 h1;exact CallsTo.q (show CallsTo Tryz.prog 185 [.int .i64 Y5.next.cfg.mem,.int .i64 Y5.node] w1 _ from r185 Y5.next.cfg.mem Y5.node w1 hycm (by rw [hyn];exact hxnode) (h1.rd_of memZ)) h1)))
     all_goals (refine ats ?_))
    all_goals (
     apply DW.quiet [12,13,14]
     ·decide +kernel
     ·exact stZ
     repeat'(first|refine yv' ?_|refine uv' ?_|refine un' ?_|(refine us' ?_ ?_;all_goals(intro hc;try simp only[hcs]at hc;try(exfalso;first|contradiction|omega)))|apply QL.nil)
     all_goals (show DW _ _ _ _ _ _ _ _))
    all_goals (apply DW.done;(·decide +kernel))
    all_goals apply At.sink
    repeat'(first|refine kv' ?_|apply jJ|refine jE' ?_|refine jp' ?_|(apply jc;kernel_rfl)|refine kg' ?_|refine kG' ?_|refine kB' fun _=>?_|refine kA' fun _=>?_|refine kK' fun _=>?_|refine kU' ?_|((first|refine kR' ?_ ?_|refine kQ' ?_ ?_);all_goals(intro hc;try simp only[hcs]at hc;try(exfalso;first|contradiction|omega))))
    apply LR.call
    ·exact rfl
    intro w1 h1
    have j2 := St.repl (a := lastO { Z1 with np := some p5,ap := some q5 } Y5) h1 selZ
    obtain ⟨S7,hS7⟩ : ∃ S7,({ ({ Y5 with next := { Y5.next with left := t6.aru } } : Rg) with last := tokP (nextC Y5.next.cfg.mem Y5.node) t6 } : Rg) = S7 := ⟨_,rfl⟩
    have hZ7 : RepA { Z1 with np := some p5,ap := some q5,la := a9,lc := c9 } S7 := by rw [← hS7];exact ⟨hZ.q,hZ.ql,hZ.nd,hZ.gp,hZ.np,hZ.ap,hZ.pk,hZ.ev⟩
    have j3 : St w0 F (rgL b { Z1 with np := some p5,ap := some q5,la := a9,lc := c9 } { ({ Y5 with next := { Y5.next with left := t6.aru } } : Rg) with last := tokP (nextC Y5.next.cfg.mem Y5.node) t6 } (_ :: _ :: _ :: _ :: R)) w1 := rg_mid [_,_,_] j2
    rw [hS7] at j3 ⊢
    have u1 : S7.state = 2 := by rw [← hS7];exact hys
    have u4 : S7.op.length ≤ 990000 := by rw [← hS7];show Y5.op.length ≤ _;omega
    refine CallsTo.mono (r86 b S7 w1 ⟨_,hZ7,j3⟩ (by rw [← hS7];rfl) (by rw [← hS7];rfl) (by rw [← hS7];exact hvl) (by omega)) ?_
    rintro v w2 ⟨A8,hA8,hw2⟩
    refine LR.back (St.sub (L' := rgL b A8 S7.resend (_ :: _ :: _ :: R)) hw2 subN) ?_
    clear hw2 j3 j2 h1
    obtain ⟨S8,hS8⟩ : ∃ S8,({ S7.resend with tm := (S7.tm.set 0 40).set 3 12 } : Rg) = S8 := ⟨_,rfl⟩
    have eD : S7.visitD = if S8.state = 3 ∧ leastC S8.way.cfg.mem = S8.node then S8.send (beaP S8.way.cfg S8.node) else S8 := by rw [← hS8];rfl
    repeat'(first|refine kv' ?_|apply jJ|refine jE' ?_|refine jp' ?_|(apply jc;kernel_rfl)|refine kg' ?_|refine kG' ?_|refine kB' fun _=>?_|refine kA' fun _=>?_|refine kK' fun _=>?_|refine kU' ?_|((first|refine kR' ?_ ?_|refine kQ' ?_ ?_);all_goals(intro hc;try simp only[hcs]at hc;try(exfalso;first|contradiction|omega))))
    apply LR.call
    ·exact rfl
    intro w1 h1
    refine CallsTo.mono (show CallsTo Tryz.prog 83 [.pointer (some ⟨A8.ba,0,none⟩),.int .i64 0,.int .i64 40] w1 _ from r83 A8.ba A8.bam S7.tm.get 0 40 w1 (h1.holds (alO A8.ba A8.bam S7.tm.get) memZ) (by decide) (by decide)) ?_
    rintro v w2 ⟨rfl,st⟩
    have h2 := h1.did selZ rfl st (alO_dep _ _ _)
    rw [tm_set _ (by decide)] at h2
    refine LR.back (C := St w0 F (rgL b A8 { S7.resend with tm := S7.tm.set 0 40 } (_ :: _ :: _ :: R))) h2 ?_
    clear h2 st h1
    repeat'(first|refine kv' ?_|apply jJ|refine jE' ?_|refine jp' ?_|(apply jc;kernel_rfl)|refine kg' ?_|refine kG' ?_|refine kB' fun _=>?_|refine kA' fun _=>?_|refine kK' fun _=>?_|refine kU' ?_|((first|refine kR' ?_ ?_|refine kQ' ?_ ?_);all_goals(intro hc;try simp only[hcs]at hc;try(exfalso;first|contradiction|omega))))
    apply LR.call
    ·exact rfl
    intro w1 h1
    refine CallsTo.mono (show CallsTo Tryz.prog 83 [.pointer (some ⟨A8.ba,0,none⟩),.int .i64 3,.int .i64 12] w1 _ from r83 A8.ba A8.bam (S7.tm.set 0 40).get 3 12 w1 (h1.holds (alO A8.ba A8.bam (S7.tm.set 0 40).get) memZ) (by decide) (by decide)) ?_
    rintro v w2 ⟨rfl,st⟩
    have h2 := h1.did selZ rfl st (alO_dep _ _ _)
    rw [tm_set _ (by decide)] at h2
    have h3 : St w0 F (rgL b A8 { S7.resend with tm := (S7.tm.set 0 40).set 3 12 } (_ :: _ :: _ :: R)) w2 := h2
    rw [hS8] at h3
    refine LR.back h3 ?_
    clear h3 h2 st h1
    replace hA8 : RepA A8 S8 := by rw [← hS8];exact ⟨hA8.q,hA8.ql,hA8.nd,hA8.gp,hA8.np,hA8.ap,hA8.pk,hA8.ev⟩
    have k1 : S8.state = 2 := by rw [← hS8];exact u1
    rw [eD,if_neg (fun h9=>by omega)]
    clear eD hS8
    repeat'(first|refine kv' ?_|apply jJ|refine jE' ?_|refine jp' ?_|(apply jc;kernel_rfl)|refine kg' ?_|refine kG' ?_|refine kB' fun _=>?_|refine kA' fun _=>?_|refine kK' fun _=>?_|refine kU' ?_|((first|refine kR' ?_ ?_|refine kQ' ?_ ?_);all_goals(intro hc;try simp only[hcs]at hc;try(exfalso;first|contradiction|omega))))
    apply end0
    ·exact rfl
    intro w' hS
    exact ⟨A8,hA8,hS.sub subN⟩)
end
end Go.Proofs.YtohbcfokihplbaaGreatDoor
namespace Go.Proofs.YtohbcfokihplbaaGreatDoor
open Go.Hb
set_option maxRecDepth 100000
section
variable {node : Int} {E : List EvD} {kept lo : Int} {n o : Nat} {S : Rg}
structure TOk (t : Tk) : Prop where
 sq : 0 ≤ t.seq ∧ t.seq ≤ maxN
 sp : 0 ≤ t.stamp ∧ t.stamp ≤ maxN
 ar : 0 ≤ t.aru ∧ t.aru ≤ maxN
 ask : t.ask.length ≤ 1000
 idle : 0 ≤ t.idle
def OfW (S : Rg) (t : Tk) : Prop := t.r1 = S.way.cfg.rs ∧ t.r2 = S.way.cfg.rr
theorem way_n (h : ¬ S.state = 2) : S.way = S.now := by unfold Rg.way;rw [if_neg h]
theorem way_x (h : S.state = 2) : S.way = S.next := by unfold Rg.way;rw [if_pos h]
theorem Inv.visitA (h : Inv node E kept lo n o S) {t : Tk} (ht : TOk t) (hr : OfW S t) : Inv node E kept lo n o (S.visitA t) ∧ (S.visitA t).state = S.state ∧ OfW (S.visitA t) t := by
 unfold Rg.visitA Rg.setWay
 by_cases hs : S.state = 2
 ·rw [if_pos hs,way_x hs]
  have t2 := h.two hs
  refine ⟨(h.nexts hs (Nat.le_refl _) (t2.w.came t) rfl (by rw [came_D];exact t2.d) (by rw [came_D];exact t2.len)).raise ht.sp.2,rfl,?_⟩
  unfold OfW at *
  rw [way_x hs] at hr
  rw [way_x (show (({ S with next := S.next.came t } : Rg).raise t.stamp).state = 2 from hs)]
  exact hr
 ·rw [if_neg hs,way_n hs]
  refine ⟨(h.nows (Nat.le_refl _) (h.c.wn.came t) rfl (by rw [came_D];exact h.c.dn) (by rw [came_D];exact h.c.len)).raise ht.sp.2,rfl,?_⟩
  unfold OfW at *
  rw [way_n hs] at hr
  rw [way_n (show ¬ (({ S with now := S.now.came t } : Rg).raise t.stamp).state = 2 from hs)]
  exact hr
theorem Inv.fillN : ∀ (k : Nat) {n o : Nat} {S : Rg} {t : Tk},S.state = 3 → Inv node E kept lo n o S → TOk t → OfW S t →
  Inv node E kept lo (n + k) (o + k) (Rg.fill k S t).1 ∧ TOk (Rg.fill k S t).2 ∧ OfW (Rg.fill k S t).1 (Rg.fill k S t).2 ∧ (Rg.fill k S t).1.state = 3
 | 0,n,o,S,t,hs,h,ht,hr=>⟨h,ht,hr,hs⟩
 | k + 1,n,o,S,t,hs,h,ht,hr=>by
  have hup : Inv node E kept lo (n + (k + 1)) (o + (k + 1)) S := h.up (by omega) (by omega)
  by_cases h1 : t.seq = maxN
  ·rw [fill_stop _ (.inl h1)];exact ⟨hup,ht,hr,hs⟩
  by_cases h2 : max t.stamp S.clock = maxN
  ·rw [fill_stop _ (.inr ⟨by unfold Rg.more;rw [if_pos hs];decide,h2⟩)];exact ⟨hup,ht,hr,hs⟩
  cases hq : S.wq with
  | nil=>rw [fill_n0 _ hs hq];exact ⟨hup,ht,hr,hs⟩
  | cons m r=>
   rw [fill_n k hs hq h1 h2]
   have hw := h.c.wq
   have hwl := h.c.wl
   rw [hq] at hw hwl
   have hm := hw m (List.mem_cons_self ..)
   have hst := (FOk.step (S := S) (t := t) (m := m) (r := r) (D := S.now.D) ⟨ht.sq,ht.sp,h.c.clk,fun x hx=>(hw x hx).1,h.c.wn.ok⟩ (more := 1) (.inr ⟨rfl,h2⟩) h1)
   have hns : ¬ S.state = 2 := by omega
   unfold OfW at hr
   rw [way_n hns] at hr
   have hpt := h.c.wn.put (datN S t m 1) hm.1.len
   have h3 : Inv node E kept lo n o { S with wq := r } :=
    ⟨⟨h.c.nd,h.c.nr,h.c.clk,h.c.lw,h.c.ctr,h.c.kp,h.c.ke,h.c.wn,h.c.cn,h.c.cr,h.c.dn,h.c.ne,h.c.ord,h.c.done,h.c.told,fun x hx=>hw x (List.mem_cons_of_mem _ hx),by rw [List.length_cons] at hwl;show r.length ≤ 32;omega,h.c.len⟩,
     h.tm,h.g,h.st,fun hs=>let t := h.one hs;⟨t.c,t.lt,t.le,t.own⟩,fun hs=>let t := h.two hs;⟨t.w,t.c,t.lt,t.le,t.d,t.len,t.kin,t.ag⟩,h.op,h.oe,h.last⟩
   have h4 := Inv.raise h3 hst.2
   have h5 := Inv.nows h4 (w := S.now.put (datN S t m 1)) (n' := n + 1) (by omega) hpt.1 rfl (by
    rw [hpt.2.1]
    refine DOk.wp h4.c.dn hr ?_ hm.2
    show stN S t m 1 ≤ max S.clock (stN S t m 1)
    exact Int.le_max_right ..) (by have q1 := hpt.2.2.1;have q2 := h.c.len;omega)
   have h6 := Inv.send h5 (dataP (datN S t m 1))
   have ih := Inv.fillN k (n := n + 1) (o := o + 1) (S := stepn S t m r) (t := tkN S t m 1) hs h6 ⟨?_,hst,ht.ar,ht.ask,ht.idle⟩ ?_
   ·rw [show n + (k + 1) = n + 1 + k by omega,show o + (k + 1) = o + 1 + k by omega]
    exact ih
   ·have := ht.sq
    show 0 ≤ t.seq + 1 ∧ t.seq + 1 ≤ maxN
    unfold maxN at *
    omega
   ·unfold OfW
    rw [way_n (show ¬ (stepn S t m r).state = 2 from hns)]
    exact hr
theorem Inv.fillX : ∀ (k : Nat) {n o : Nat} {S : Rg} {t : Tk},S.state = 2 → Inv node E kept lo n o S → TOk t → OfW S t →
  Inv node E kept lo (n + k) (o + k) (Rg.fill k S t).1 ∧ TOk (Rg.fill k S t).2 ∧ OfW (Rg.fill k S t).1 (Rg.fill k S t).2 ∧ (Rg.fill k S t).1.state = 2
 | 0,n,o,S,t,hs,h,ht,hr=>⟨h,ht,hr,hs⟩
 | k + 1,n,o,S,t,hs,h,ht,hr=>by
  have hup : Inv node E kept lo (n + (k + 1)) (o + (k + 1)) S := h.up (by omega) (by omega)
  by_cases h1 : t.seq = maxN
  ·rw [fill_stop _ (.inl h1)];exact ⟨hup,ht,hr,hs⟩
  have t2 := h.two hs
  obtain ⟨l,hl,hlm,hll⟩ := t2.ag
  cases l with
  | nil=>rw [fill_x0 _ hs hl];exact ⟨hup,ht,hr,hs⟩
  | cons m r=>
   rw [fill_x k hs hl h1]
   have hm := hlm m (List.mem_cons_self ..)
   have hst := (FOk.step (S := S) (t := t) (m := m) (r := r) (D := S.next.D) ⟨ht.sq,ht.sp,h.c.clk,fun x hx=>(hlm x hx).1,t2.w.ok⟩ (more := 0) (.inl rfl) h1)
   unfold OfW at hr
   rw [way_x hs] at hr
   have hpt := t2.w.put (datN S t m 0) hm.1.len
   rw [List.length_cons] at hll
   have h3 : Inv node E kept lo n o { S with again := some r } :=
    ⟨⟨h.c.nd,h.c.nr,h.c.clk,h.c.lw,h.c.ctr,h.c.kp,h.c.ke,h.c.wn,h.c.cn,h.c.cr,h.c.dn,h.c.ne,h.c.ord,h.c.done,h.c.told,h.c.wq,h.c.wl,h.c.len⟩,
     h.tm,h.g,h.st,fun hs=>let t := h.one hs;⟨t.c,t.lt,t.le,t.own⟩,fun hs=>⟨t2.w,t2.c,t2.lt,t2.le,t2.d,t2.len,t2.kin,⟨r,rfl,fun x hx=>hlm x (List.mem_cons_of_mem _ hx),by omega⟩⟩,h.op,h.oe,h.last⟩
   have h4 := Inv.raise h3 hst.2
   have t4 := h4.two hs
   have h5 := Inv.nexts h4 (w := S.next.put (datN S t m 0)) (n' := n + 1) hs (by omega) hpt.1 rfl (by
    rw [hpt.2.1]
    refine DOk.wp t4.d hr ?_ hm.2
    show stN S t m 0 ≤ max S.clock (stN S t m 0)
    exact Int.le_max_right ..) (by have q1 := hpt.2.2.1;have q2 := t2.len;omega)
   have h6 := Inv.send h5 (dataP (datN S t m 0))
   have ih := Inv.fillX k (n := n + 1) (o := o + 1) (S := stepx S t m r) (t := tkN S t m 0) hs h6 ⟨?_,hst,ht.ar,ht.ask,ht.idle⟩ ?_
   ·rw [show n + (k + 1) = n + 1 + k by omega,show o + (k + 1) = o + 1 + k by omega]
    exact ih
   ·have := ht.sq
    show 0 ≤ t.seq + 1 ∧ t.seq + 1 ≤ maxN
    unfold maxN at *
    omega
   ·unfold OfW
    rw [way_x (show (stepx S t m r).state = 2 from hs)]
    exact hr
theorem allow_le (w q a : Int) : (allow w q a).toNat ≤ 4 := by
 unfold allow
 omega
theorem Inv.visitD (h : Inv node E kept lo n o S) : Inv node E kept lo n (o + 2) S.visitD := by
 unfold Rg.visitD
 dsimp only
 have h1 : Inv node E kept lo n (o + 1) { S.resend with tm := (S.tm.set 0 40).set 3 12 } := h.resend.tms (tm_set_bd (tm_set_bd h.tm (by decide)) (by decide))
 split
 ·exact h1.send _
 ·exact h1.up (Nat.le_refl _) (by omega)
theorem Inv.lasts (h : Inv node E kept lo n o S) {p : Pkt} (hp : p.d.msg.body = [] ∧ p.c.ents = [] ∧ p.t.ask.length ≤ 1000) : Inv node E kept lo n o { S with last := p } :=
 ⟨⟨h.c.nd,h.c.nr,h.c.clk,h.c.lw,h.c.ctr,h.c.kp,h.c.ke,h.c.wn,h.c.cn,h.c.cr,h.c.dn,h.c.ne,h.c.ord,h.c.done,h.c.told,h.c.wq,h.c.wl,h.c.len⟩,
  h.tm,h.g,h.st,fun hs=>let t := h.one hs;⟨t.c,t.lt,t.le,t.own⟩,fun hs=>let t := h.two hs;⟨t.w,t.c,t.lt,t.le,t.d,t.len,t.kin,t.ag⟩,h.op,h.oe,hp⟩
theorem Inv.visitC (h : Inv node E kept lo n o S) {t : Tk} (ht : t.ask.length ≤ 1000) : Inv node E kept lo n (o + n + 2) (S.visitC t) := by
 unfold Rg.visitC
 dsimp only
 refine Inv.visitD (o := o + n) (Inv.lasts ?_ ⟨rfl,rfl,ht⟩)
 split
 ·exact h.deliver
 ·exact h.up (Nat.le_refl _) (by omega)
theorem visit_askI (t : Tk) (nd a : Int) (g : List Int) : (visitT t nd a g).ask.length ≤ 1000 := by
 unfold visitT
 split
 ·show (askV t g).length ≤ 1000
  unfold askV
  rw [List.length_take]
  omega
 ·exact Nat.zero_le _
theorem Inv.visitB2 (h : Inv node E kept lo n o S) (hs : S.state = 2 ∨ S.state = 3) (t : Tk) : Inv node E kept lo n (o + n + 2) (S.visitB2 t) := by
 unfold Rg.visitB2
 dsimp only
 refine Inv.visitC ?_ (visit_askI ..)
 unfold Rg.setWay
 by_cases hs2 : S.state = 2
 ·rw [if_pos hs2,way_x hs2]
  have t2 := h.two hs2
  exact h.nexts hs2 (Nat.le_refl _) ⟨t2.w.dat,t2.w.ok,t2.w.hi,t2.w.le,t2.w.mem⟩ rfl t2.d t2.len
 ·rw [if_neg hs2,way_n hs2]
  exact h.nows (Nat.le_refl _) ⟨h.c.wn.dat,h.c.wn.ok,h.c.wn.hi,h.c.wn.le,h.c.wn.mem⟩ rfl h.c.dn h.c.len
theorem ansQ_askI (D : List Dat) (t : Tk) : (ansQ D t).ask.length ≤ t.ask.length := List.length_filter_le _ _
theorem ansL_askI (D : List Dat) (l : List Int) : (ansL D l).length ≤ l.length := by
 unfold ansL
 rw [List.length_map]
 exact List.length_filter_le _ _
theorem ansQ_ok {D : List Dat} {t : Tk} (ht : TOk t) : TOk (ansQ D t) := ⟨ht.sq,ht.sp,ht.ar,Nat.le_trans (ansQ_askI D t) ht.ask,ht.idle⟩
theorem Inv.visitB (h : Inv node E kept lo n o S) (hs : S.state = 2 ∨ S.state = 3) {t : Tk} (ht : TOk t) (hr : OfW S t) : Inv node E kept lo (n + 4) (o + n + 1010) (S.visitB t) := by
 unfold Rg.visitB
 rw [answer_eq]
 dsimp only
 have h1 := (h.sends (ansL S.way.D t.ask))
 have hk := allow_le (S.sends (ansL S.way.D t.ask)).leftS (ansQ S.way.D t).seq (ansQ S.way.D t).aru
 have hl := ansL_askI S.way.D t.ask
 have ha := ht.ask
 generalize (allow (S.sends (ansL S.way.D t.ask)).leftS (ansQ S.way.D t).seq (ansQ S.way.D t).aru).toNat = k at *
 have key : ∃ x,Inv node E kept lo (n + k) (o + (ansL S.way.D t.ask).length + k) (Rg.fill k (S.sends (ansL S.way.D t.ask)) (ansQ S.way.D t)).1 ∧ ((Rg.fill k (S.sends (ansL S.way.D t.ask)) (ansQ S.way.D t)).1.state = 2 ∨ (Rg.fill k (S.sends (ansL S.way.D t.ask)) (ansQ S.way.D t)).1.state = 3) ∧ x = 0 := by
  rcases hs with hs | hs
  ·have := Inv.fillX k (S := S.sends (ansL S.way.D t.ask)) (t := ansQ S.way.D t) hs h1 (ansQ_ok ht) hr
   exact ⟨0,this.1,.inl this.2.2.2,rfl⟩
  ·have := Inv.fillN k (S := S.sends (ansL S.way.D t.ask)) (t := ansQ S.way.D t) hs h1 (ansQ_ok ht) hr
   exact ⟨0,this.1,.inr this.2.2.2,rfl⟩
 obtain ⟨x,h2,h3,_⟩ := key
 exact (h2.visitB2 h3 _).up (by omega) (by omega)
theorem Inv.visit (h : Inv node E kept lo n o S) (hs : S.state = 2 ∨ S.state = 3) {t : Tk} (ht : TOk t) (hr : OfW S t) : Inv node E kept lo (n + 4) (o + 3 * n + 1020) (S.visit t) := by
 rw [visit_eq]
 obtain ⟨h1,h2,h3⟩ := h.visitA ht hr
 split
 ·rename_i hc
  have h4 := h1.install hc.1
  refine (h4.visitB (.inr rfl) ht ?_).up (by omega) (by omega)
  unfold OfW at *
  rw [way_x hc.1] at h3
  exact h3
 ·exact (h1.visitB (by rw [h2];exact hs) ht h3).up (by omega) (by omega)
end
section
variable {node : Int} {E : List EvD} {kept lo : Int} {n o : Nat} {S : Rg}
theorem newTk_ok {r1 r2 s : Int} (h : (newTk r1 r2 s).2 = 0) : TOk (newTk r1 r2 s).1 ∧ (newTk r1 r2 s).1.r1 = r1 ∧ (newTk r1 r2 s).1.r2 = r2 := by
 unfold newTk at h ⊢
 split at h
 ·rename_i hc
  rw [if_pos hc]
  unfold withinB at hc
  simp only [Bool.and_eq_true,decide_eq_true_eq] at hc
  exact ⟨⟨by show 0 ≤ (0 : Int) ∧ (0 : Int) ≤ maxN;decide,hc.2,by show 0 ≤ (0 : Int) ∧ (0 : Int) ≤ maxN;decide,Nat.zero_le _,Int.le_refl _⟩,rfl,rfl⟩
 ·cases h
theorem Inv.begun (h : Inv node E kept lo n o S) (b : Bool) : Inv node E kept lo n o { S with begun := b } :=
 ⟨⟨h.c.nd,h.c.nr,h.c.clk,h.c.lw,h.c.ctr,h.c.kp,h.c.ke,h.c.wn,h.c.cn,h.c.cr,h.c.dn,h.c.ne,h.c.ord,h.c.done,h.c.told,h.c.wq,h.c.wl,h.c.len⟩,
  h.tm,h.g,h.st,fun hs=>let t := h.one hs;⟨t.c,t.lt,t.le,t.own⟩,fun hs=>let t := h.two hs;⟨t.w,t.c,t.lt,t.le,t.d,t.len,t.kin,t.ag⟩,h.op,h.oe,h.last⟩
theorem begin_of (hs : S.state = 2) : OfW ({ S with begun := true } : Rg) (newTk S.next.cfg.rs S.next.cfg.rr S.next.cfg.stamp).1 ∨ ¬ (newTk S.next.cfg.rs S.next.cfg.rr S.next.cfg.stamp).2 = 0 := by
 by_cases h : (newTk S.next.cfg.rs S.next.cfg.rr S.next.cfg.stamp).2 = 0
 ·refine .inl ?_
  unfold OfW
  rw [way_x (show ({ S with begun := true } : Rg).state = 2 from hs)]
  exact (newTk_ok h).2
 ·exact .inr h
theorem Inv.begin (h : Inv node E kept lo n o S) (hs : S.state = 2) : Inv node E kept lo (n + 4) (o + 3 * n + 1020) S.begin := by
 unfold Rg.begin
 dsimp only
 split
 ·rename_i h0
  have hb := begin_of hs
  exact (h.begun true).visit (.inl hs) (newTk_ok h0).1 (hb.resolve_right (fun h=>h h0))
 ·exact (h.begun true).up (by omega) (by omega)
theorem Inv.foreign (h : Inv node E kept lo n o S) (r1 r2 s : Int) : Inv node E kept lo n (o + 1) (S.foreign r1 r2 s) := by
 unfold Rg.foreign
 split
 ·exact h.gather
 ·exact h.up (Nat.le_refl _) (by omega)
theorem msg_ok {m : Msg} (h : check m = 0) (hb : Byt m.body) : MQ m := by
 have hc := check_ok h
 have hm := hc.2
 unfold mayB at hm
 simp only [Bool.and_eq_true,decide_eq_true_eq] at hm
 have hk := hm.1.2
 unfold keyE at hk
 split at hk
 ·rename_i h2
  unfold keyB Go.Proofs.YtohbcfokihplbaaGreatDoor.numB at h2
  simp only [Bool.and_eq_true,decide_eq_true_eq] at h2
  refine ⟨⟨?_,by have := hc.1;omega⟩,hb⟩
  unfold maxN
  exact h2.1.1
 ·cases hk
theorem dat_facts {d : Dat} (h : mayD d = true) : d.stamp ≤ maxN ∧ check d.msg = 0 := by
 unfold mayD at h
 simp only [Bool.and_eq_true,decide_eq_true_eq,List.all_cons,List.all_nil] at h
 have h1 := h.1.1.2.2.1
 unfold Go.Proofs.YtohbcfokihplbaaGreatDoor.numB at h1
 simp only [Bool.and_eq_true,decide_eq_true_eq] at h1
 exact ⟨h1.2,h.2⟩
theorem unpackW_bd {ck : Msg → Int} {l : List Int} (hb : Byt l) : Byt (unpackW ck l).1.body ∧ (unpackW ck l).1.body.length ≤ 160 := by
 have hz : Byt zeroMsg.body ∧ zeroMsg.body.length ≤ 160 := ⟨fun _ h=>(by cases h),Nat.zero_le _⟩
 unfold unpackW
 split
 ·exact hz
 split
 ·exact hz
 split
 ·exact hz
 split
 ·exact hz
 split
 ·exact hz
 ·show Byt (octs 160 _).1 ∧ (octs 160 _).1.length ≤ 160
  have h2 : Byt (decs 4 (decs 8 l).2.2).2.2 := decs_rest_byt 4 (decs_rest_byt 8 hb)
  generalize (decs 4 (decs 8 l).2.2).2.2 = L at *
  unfold octs
  split
  ·exact ⟨fun _ h=>(by cases h),Nat.zero_le _⟩
  split
  ·exact ⟨fun _ h=>(by cases h),Nat.zero_le _⟩
  split
  ·exact ⟨fun _ h=>(by cases h),Nat.zero_le _⟩
  ·refine ⟨fun b hx=>h2 b (List.mem_of_mem_drop (List.mem_of_mem_take hx)),?_⟩
   show ((L.drop _).take _).length ≤ 160
   rw [List.length_take]
   omega
theorem unpackF_bd : ∀ (k : Nat) {l : List Int},Byt l → Byt (unpackF k l).1.body ∧ (unpackF k l).1.body.length ≤ 160
 | 0,_,h=>unpackW_bd h
 | _ + 1,_,h=>unpackW_bd h
theorem inner_bd {m : Msg} (hb : Byt m.body) : Byt (inner m).1.msg.body ∧ (inner m).1.msg.body.length ≤ 160 := by
 unfold inner
 split
 ·exact unpackF_bd _ hb
 ·exact ⟨fun _ h=>(by cases h),Nat.zero_le _⟩
theorem inner_st {m : Msg} (h : (inner m).2 = 0) : (inner m).1.stamp = m.stamp := by
 unfold inner at h ⊢
 split at h
 ·rename_i hc
  rw [if_pos hc]
  rfl
 ·cases h
theorem tk_way {w : Way} (hw : WayOk w) (m : Msg) (r1 r2 : Int) : ({ w with dat := w.dat.map fun x=>(tkD r1 r2 x.1 m,tkH r1 r2 x.1 x.2 m) } : Way) = if tkB r1 r2 w.D m then w.put (inner m).1 else w := by
 have hd := hw.dat
 by_cases hb : tkB r1 r2 w.D m = true
 ·rw [if_pos hb]
  have e : (w.dat.map fun x=>(tkD r1 r2 x.1 m,tkH r1 r2 x.1 x.2 m)) = w.dat.map fun x=>(wpD x.1 (inner m).1,wpH x.1 x.2 (inner m).1) := by
   rw [hd]
   show some (tkD r1 r2 w.D m,tkH r1 r2 w.D w.high m) = some (wpD w.D (inner m).1,wpH w.D w.high (inner m).1)
   unfold tkD tkH
   rw [if_pos hb,if_pos hb]
  rw [e]
  rfl
 ·rw [if_neg hb]
  have e : (w.dat.map fun x=>(tkD r1 r2 x.1 m,tkH r1 r2 x.1 x.2 m)) = w.dat := by
   rw [hd]
   show some (tkD r1 r2 w.D m,tkH r1 r2 w.D w.high m) = some (w.D,w.high)
   unfold tkD tkH
   rw [if_neg hb,if_neg hb]
  rw [e]
theorem Inv.takeData (h : Inv node E kept lo n o S) {d : Dat} (hd : mayD d = true) (hb : Byt d.msg.body) : Inv node E kept lo (n + 1) (o + n + 1) (S.takeData d) := by
 have hf := dat_facts hd
 have hm := msg_ok hf.2 hb
 unfold Rg.takeData
 split
 ·rename_i hc
  have hof := hc.2
  unfold Way.of at hof
  simp only [Bool.and_eq_true,decide_eq_true_eq] at hof
  have h2 := (h.raise hf.1).raise hm.1.st.2
  have hpt := h.c.wn.put d hm.1.len
  refine (Inv.deliver (S := { ((S.raise d.stamp).raise d.msg.stamp) with now := S.now.put d }) (n := n + 1) (o := o) (h2.nows (by omega) hpt.1 rfl ?_ ?_)).up (Nat.le_refl _) (by omega)
  ·rw [hpt.2.1]
   refine h2.c.dn.wp ⟨hof.1.1.symm,hof.1.2.symm⟩ ?_ hb
   show d.stamp ≤ max (max S.clock d.stamp) d.msg.stamp
   omega
  ·have q1 := hpt.2.2.1
   have q2 := h.c.len
   omega
 split
 ·rename_i hc
  obtain ⟨hs,hof⟩ := hc
  unfold Way.of at hof
  simp only [Bool.and_eq_true,decide_eq_true_eq] at hof
  have h2 := (h.raise hf.1).raise hm.1.st.2
  have t2 := h2.two hs
  have hpt := t2.w.put d hm.1.len
  have h3 : Inv node E kept lo (n + 1) o { ((S.raise d.stamp).raise d.msg.stamp) with next := S.next.put d } := by
   refine h2.nexts hs (by omega) hpt.1 rfl ?_ ?_
   ·have : ((S.raise d.stamp).raise d.msg.stamp).next.put d = S.next.put d := rfl
    rw [← this,hpt.2.1]
    refine t2.d.wp ⟨hof.1.1.symm,hof.1.2.symm⟩ ?_ hb
    show d.stamp ≤ max (max S.clock d.stamp) d.msg.stamp
    omega
   ·have q1 := hpt.2.2.1
    have q2 := t2.len
    have : ((S.raise d.stamp).raise d.msg.stamp).next.put d = S.next.put d := rfl
    rw [this] at q1
    omega
  dsimp only
  split
  ·have hi := inner_bd hb
   have hpn := h.c.wn.put (inner d.msg).1 (by have := hi.2;omega)
   have e := tk_way h.c.wn d.msg S.now.cfg.rs S.now.cfg.rr
   have e2 : ({ ((({ S with next := S.next.put d } : Rg).raise d.stamp).raise d.msg.stamp) with now := { S.now with dat := S.now.dat.map fun x=>(tkD S.now.cfg.rs S.now.cfg.rr x.1 d.msg,tkH S.now.cfg.rs S.now.cfg.rr x.1 x.2 d.msg) } } : Rg)
     = { ((({ S with next := S.next.put d } : Rg).raise d.stamp).raise d.msg.stamp) with now := if tkB S.now.cfg.rs S.now.cfg.rr S.now.D d.msg then S.now.put (inner d.msg).1 else S.now } := by rw [e]
   refine (Eq.mp (congrArg (Inv node E kept lo (n + 1) (o + n + 1)) e2.symm) ?_)
   split
   ·rename_i hk
    unfold tkB at hk
    rw [decide_eq_true_eq] at hk
    refine (Inv.nows h3 (Nat.le_refl _) hpn.1 rfl ?_ ?_).up (Nat.le_refl _) (by omega)
    ·rw [hpn.2.1]
     refine h2.c.dn.wp hk.2 ?_ hi.1
     rw [inner_st hk.1]
     show d.msg.stamp ≤ max (max S.clock d.stamp) d.msg.stamp
     omega
    ·have q1 := hpn.2.2.1
     have q2 := h.c.len
     omega
   ·exact h3.up (Nat.le_refl _) (by omega)
  ·exact h3.up (Nat.le_refl _) (by omega)
 ·exact (h.foreign _ _ _).up (by omega) (by omega)
theorem tok_ok {t : Tkn} (h : mayT t = true) : TOk t.k := by
 unfold mayT tokHead at h
 simp only [Bool.and_eq_true,decide_eq_true_eq,List.all_cons,List.all_nil,Bool.not_eq_true',decide_eq_false_iff_not] at h
 obtain ⟨⟨⟨⟨⟨⟨h1,h2⟩,h3,h4,h5,h6,h7,_⟩,h8⟩,h9⟩,h10⟩,h11⟩ := h
 unfold Go.Proofs.YtohbcfokihplbaaGreatDoor.numB at h4 h5 h6 h7
 simp only [Bool.and_eq_true,decide_eq_true_eq] at h4 h5 h6 h7
 refine ⟨?_,?_,?_,?_,?_⟩
 ·show 0 ≤ t.seq ∧ t.seq ≤ maxN;unfold maxN;exact h4
 ·show 0 ≤ t.stamp ∧ t.stamp ≤ maxN;unfold maxN;exact h6
 ·show 0 ≤ t.aru ∧ t.aru ≤ maxN;unfold maxN;exact h5
 ·show t.ask.length ≤ 1000;omega
 ·exact h7.1
theorem Inv.takeToken (h : Inv node E kept lo n o S) {t : Tkn} (ht : mayT t = true) : Inv node E kept lo (n + 4) (o + 3 * n + 1020) (S.takeToken t.k) := by
 unfold Rg.takeToken
 split
 ·rename_i hc
  exact h.visit (by omega) (tok_ok ht) hc.2.1
 ·exact h.up (by omega) (by omega)
theorem Inv.takeJoin (h : Inv node E kept lo n o S) (j : Jn) : Inv node E kept lo n (o + 3) (S.takeJoin j) := by
 unfold Rg.takeJoin
 dsimp only
 split
 ·rename_i hs
  exact (h.hear hs j).up (Nat.le_refl _) (by omega)
 generalize (if S.state = 3 then S.now.cfg else S.next.cfg) = c
 split
 ·exact h.up (Nat.le_refl _) (by omega)
 ·exact h.gather.hear rfl j
theorem sameE_eq {x y : Ent} (h : sameE x y = true) : x = y := by
 unfold sameE at h
 rw [decide_eq_true_eq] at h
 unfold Ent.nums at h
 cases x;cases y
 simp_all
theorem cmt_facts {x : Cmt} (hx : cmtB x = true) : crewOk x.mem = true ∧ liveR x.r1 x.r2 = true := by
 unfold cmtB comHead at hx
 simp only [Bool.and_eq_true] at hx
 exact ⟨hx.1.1.1.1,hx.1.1.2⟩
theorem vis_facts {x : Cmt} {nd : Int} (h : visC x nd ≠ 0) : cmtB x = true := by
 unfold visC at h
 split at h
 ·rename_i hc
  rw [Bool.and_eq_true] at hc
  exact hc.1
 ·exact absurd rfl h
theorem Inv.takeCommit (h : Inv node E kept lo n o S) (x : Cmt) : Inv node E kept lo (n + 4) (o + 3 * n + 1020) (S.takeCommit x) := by
 unfold Rg.takeCommit
 have hup : Inv node E kept lo (n + 4) (o + 3 * n + 1020) S := h.up (by omega) (by omega)
 split
 ·rename_i hv
  split
  ·rename_i hc
   obtain ⟨hs,hm,hr⟩ := hc
   have hx := vis_facts (by rw [hv];decide)
   obtain ⟨G,hG,hGo,hGn⟩ := h.g
   have eG : S.gth = G := by unfold Rg.gth;rw [hG];rfl
   have hh := heard_ok hGo.j
   exact (Inv.hand (h.enter hr (cmt_facts hx).2 (cmt_facts hx).1 (by rw [hm,eG,← hGn];exact hh.2)) _).up (by omega) (by omega)
  ·exact hup
 split
 ·rename_i hv
  split
  ·rename_i hc
   obtain ⟨hs,hr,hm,ht⟩ := hc
   have hx := vis_facts (x := x) (nd := S.node) (by rw [hv];decide)
   have t1 := h.one hs
   unfold Rg.trusts at ht
   rw [Bool.and_eq_true,List.any_eq_true,decide_eq_true_eq] at ht
   obtain ⟨⟨e,he,hee⟩,hk⟩ := ht
   have := sameE_eq hee
   subst this
   have hkin : crewOk (kinC2 x S.now.cfg.rs S.now.cfg.rr).1 = true := by
    have hes := (cmt_ents hx).1
    unfold kinC2
    rw [if_pos hx]
    exact memE_ok fun e he=>hasC_rng (hes e (List.mem_filter.1 he).1).2
   refine (Inv.regain (h.hand (passC x)) (x := x) hx ?_ ?_ ?_ ?_ ?_).up (by omega) (by omega)
   ·have e : (S.hand (passC x)).now = S.now := by unfold Rg.hand;split <;> rfl
    rw [e,hr.1]
    exact t1.lt
   ·have e : (S.hand (passC x)).counter = S.counter := by unfold Rg.hand;split <;> rfl
    rw [e,hr.1]
    exact t1.le
   ·rw [hm];exact t1.c.has
   ·have e : (S.hand (passC x)).now = S.now := by unfold Rg.hand;split <;> rfl
    rw [e]
    exact ⟨_,he,t1.own⟩
   ·have e : (S.hand (passC x)).now = S.now := by unfold Rg.hand;split <;> rfl
    rw [e]
    exact (andNot_within hkin).1 hk
  ·exact hup
 split
 ·rename_i hv
  split
  ·rename_i hc
   exact h.begin hc.1
  ·exact hup
 ·exact hup
theorem Inv.take0 (h : Inv node E kept lo n o S) {p : Pkt} (hp : chkP p = true) (hb : Byt p.d.msg.body) : Inv node E kept lo (n + 4) (o + 3 * n + 1020) (S.take0 p) := by
 unfold chkP at hp
 rw [Bool.and_eq_true] at hp
 have hm := hp.1
 unfold mayP at hm
 unfold Rg.take0
 by_cases h1 : p.kind = 1
 ·rw [if_pos h1] at hm ⊢
  rw [Bool.and_eq_true] at hm
  exact (h.takeData hm.2 hb).up (by omega) (by omega)
 rw [if_neg h1] at hm ⊢
 by_cases h2 : p.kind = 2
 ·rw [if_pos h2] at hm ⊢
  rw [Bool.and_eq_true] at hm
  exact h.takeToken hm.2
 rw [if_neg h2] at hm ⊢
 split
 ·exact (h.takeJoin _).up (by omega) (by omega)
 split
 ·exact h.takeCommit _
 ·exact (h.foreign _ _ _).up (by omega) (by omega)
theorem Inv.keep (h : Inv node E kept lo n o S) {r : Int} (hr : S.counter < r) (hm : r ≤ maxN) : Inv node E kept lo n o (S.keep r) := by
 have hcr := h.c.cr
 have hc0 := h.c.ctr
 have hke : kept ≤ S.counter := by
  rcases h.c.ke with h1 | h1 <;> omega
 refine ⟨⟨h.c.nd,h.c.nr,h.c.clk,h.c.lw,⟨?_,hm⟩,h.c.kp,.inr ⟨rfl,?_⟩,h.c.wn,h.c.cn,?_,h.c.dn,h.c.ne,h.c.ord,h.c.done,fun e he=>(h.c.told e he).up ?_ (Int.le_refl _),h.c.wq,h.c.wl,h.c.len⟩,h.tm,h.g,h.st,fun hs=>?_,fun hs=>?_,h.op,h.oe,h.last⟩
 ·show 0 ≤ r;omega
 ·show kept < r;omega
 ·show S.now.cfg.rs ≤ r;omega
 ·show S.counter ≤ r;omega
 ·have t := h.one hs
  refine ⟨t.c,t.lt,?_,t.own⟩
  have := t.le
  show S.next.cfg.rs ≤ r
  omega
 ·have t := h.two hs
  refine ⟨t.w,t.c,t.lt,?_,t.d,t.len,t.kin,t.ag⟩
  have := t.le
  show S.next.cfg.rs ≤ r
  omega
theorem alone_in (h : Inv node E kept lo n o S) (hn : S.number ≤ maxN) (hx : (newC S.number S.node (2 ^ S.node.toNat) S.entry).2 = 0) :
  Inv node E kept lo n o ((S.keep S.number).regain (newC S.number S.node (2 ^ S.node.toNat) S.entry).1) ∧ cmtB (newC S.number S.node (2 ^ S.node.toNat) S.entry).1 = true := by
 have hb := chkdC_ok ⟨S.number,S.node,2 ^ S.node.toNat,1,[S.entry]⟩ hx
 have e : (newC S.number S.node (2 ^ S.node.toNat) S.entry).1 = ⟨S.number,S.node,2 ^ S.node.toNat,1,[S.entry]⟩ := by
  unfold newC chkdC at hx ⊢
  split at hx
  ·rename_i hc;rw [if_pos hc]
  ·cases hx
 have hb2 : cmtB (newC S.number S.node (2 ^ S.node.toNat) S.entry).1 = true := hb
 refine ⟨?_,hb2⟩
 rw [e] at hb2 ⊢
 have hcr := h.c.cr
 have hlt : S.counter < S.number := by unfold Rg.number;omega
 have hnr := h.nodeR
 refine (h.keep hlt hn).regain hb2 (by show S.now.cfg.rs < S.number;omega) (Int.le_refl _) ?_ ⟨_,List.mem_cons_self ..,h.c.nd,rfl,rfl⟩ ?_
 ·show hasC (2 ^ S.node.toNat) node = true
  rw [h.c.nd,hasC_pow h.c.nr h.c.nr]
  exact decide_eq_true rfl
 ·rw [within_iff]
  intro k hk
  have hkr := hasC_rng hk
  have hk2 : (kinC2 ⟨S.number,S.node,2 ^ S.node.toNat,1,[S.entry]⟩ S.now.cfg.rs S.now.cfg.rr).1 = memE (kinE [S.entry] S.now.cfg.rs S.now.cfg.rr) := by unfold kinC2;rw [if_pos hb2]
  have hk3 : hasC (kinC2 ⟨S.number,S.node,2 ^ S.node.toNat,1,[S.entry]⟩ S.now.cfg.rs S.now.cfg.rr).1 k = true := hk
  rw [hk2,memE_has (fun e he=>by
   have := List.mem_singleton.1 (List.mem_filter.1 he).1
   rw [this]
   exact hnr) hkr,List.any_eq_true] at hk3
  obtain ⟨e2,h5,h6⟩ := hk3
  rw [decide_eq_true_eq] at h6
  have := List.mem_singleton.1 (List.mem_filter.1 h5).1
  rw [this] at h6
  have h7 : k = node := h6.trans h.c.nd
  rw [h7]
  exact h.c.cn.has
theorem Inv.alone (h : Inv node E kept lo n o S) : Inv node E kept lo (n + 4) (o + 3 * n + 1020) S.alone := by
 unfold Rg.alone
 dsimp only
 have hup : Inv node E kept lo (n + 4) (o + 3 * n + 1020) S := h.up (by omega) (by omega)
 split
 ·exact hup
 split
 ·rename_i hn hx
  exact (alone_in h (by omega) hx).1.begin rfl
 ·exact hup
theorem Inv.rings (h : Inv node E kept lo n o S) (k : Int) : Inv node E kept lo (n + 4) (o + 3 * n + 1020) (S.rings k) := by
 unfold Rg.rings
 split
 ·exact h.gather.up (by omega) (by omega)
 split
 ·exact (h.join.tms (tm_set_bd h.join.tm (by decide))).up (by omega) (by omega)
 split
 ·split
  ·exact h.alone
  ·exact h.gather.up (by omega) (by omega)
 split
 ·exact (h.resend.tms (tm_set_bd h.resend.tm (by decide))).up (by omega) (by omega)
 ·exact h.up (by omega) (by omega)
theorem Inv.ringsL : ∀ (l : List Int) {n o : Nat} {S : Rg},Inv node E kept lo n o S → n + 4 * l.length ≤ 29000 → Inv node E kept lo (n + 4 * l.length) (o + 90000 * l.length) (l.foldl Rg.rings S)
 | [],n,o,S,h,_=>h.up (by omega) (by omega)
 | k :: r,n,o,S,h,hl=>by
  rw [List.length_cons] at hl
  exact (Inv.ringsL r (h.rings k) (by omega)).up (by rw [List.length_cons];omega) (by rw [List.length_cons];omega)
theorem Inv.flush (h : Inv node E kept lo n o S) : Inv node (E ++ S.oe) S.counter S.clock n 0 S.flush :=
 ⟨⟨h.c.nd,h.c.nr,h.c.clk,Int.le_refl _,h.c.ctr,h.c.ctr.1,.inl ⟨rfl,rfl⟩,h.c.wn,h.c.cn,h.c.cr,h.c.dn,by show (E ++ S.oe) ++ [] ≠ [];rw [List.append_nil];exact h.c.ne,by
   show ∃ q,ordF node ((E ++ S.oe) ++ []) = _ ∧ _
   rw [List.append_nil];exact h.c.ord,h.c.done,fun _ h=>(by cases h),h.c.wq,h.c.wl,h.c.len⟩,
  h.tm,h.g,h.st,fun hs=>let t := h.one hs;⟨t.c,t.lt,t.le,t.own⟩,fun hs=>let t := h.two hs;⟨t.w,t.c,t.lt,t.le,t.d,t.len,t.kin,t.ag⟩,Nat.le_refl _,Nat.le_refl _,h.last⟩
theorem tick_bd {t : Tm} (ht : ∀ k,0 ≤ t.get k ∧ t.get k ≤ 10000) : ∀ k,0 ≤ t.tick.get k ∧ t.tick.get k ≤ 10000 := by
 obtain ⟨h0,h1,h2,h3⟩ := tm_bd ht
 have key : ∀ x : Int,0 ≤ x ∧ x ≤ 10000 → 0 ≤ dec1 x ∧ dec1 x ≤ 10000 := fun x hx=>by unfold dec1;split <;> omega
 exact tm_of_bd (key _ h0) (key _ h1) (key _ h2) (key _ h3)
theorem due_len (t : Tm) : t.due.length ≤ 4 := List.length_filter_le _ _
theorem Inv.tick1 (h : Inv node E kept lo n o S) (hn : n + 16 ≤ 29000) : Inv node E kept lo (n + 16) (o + 360000) (S.tm.due.foldl Rg.rings { S with tm := S.tm.tick }) := by
 have hl := due_len S.tm
 exact (Inv.ringsL S.tm.due (h.tms (tick_bd h.tm)) (by omega)).up (by omega) (by omega)
theorem Inv.fire1 (h : Inv node E kept lo n o S) (k : Int) : Inv node E kept lo (n + 4) (o + 3 * n + 1020) (({ S with tm := S.tm.set k 0 } : Rg).rings k) :=
 (h.tms (tm_set_bd h.tm (by decide))).rings k
theorem Inv.sendM (h : Inv node E kept lo n o S) {l : List Msg} (hb : ∀ m ∈ l,Byt m.body) : Inv node E kept lo n o (S.sendM l).1 := by
 unfold Rg.sendM
 dsimp only
 split
 ·rename_i he
  unfold sendE at he
  split at he
  ·cases he
  rename_i hany
  split at he
  ·cases he
  rename_i hle
  have hall : ∀ m ∈ l,check m = 0 := fun m hm=>by
   by_cases hc : check m = 0
   ·exact hc
   ·exact absurd (List.any_eq_true.2 ⟨m,hm,decide_eq_true hc⟩) hany
  refine ⟨⟨h.c.nd,h.c.nr,h.c.clk,h.c.lw,h.c.ctr,h.c.kp,h.c.ke,h.c.wn,h.c.cn,h.c.cr,h.c.dn,h.c.ne,h.c.ord,h.c.done,h.c.told,fun m hm=>?_,?_,h.c.len⟩,
   h.tm,h.g,h.st,fun hs=>let t := h.one hs;⟨t.c,t.lt,t.le,t.own⟩,fun hs=>let t := h.two hs;⟨t.w,t.c,t.lt,t.le,t.d,t.len,t.kin,t.ag⟩,h.op,h.oe,h.last⟩
  ·rcases List.mem_append.1 (show m ∈ S.wq ++ l from hm) with hm | hm
   ·exact h.c.wq m hm
   ·exact msg_ok (hall m hm) (hb m hm)
  ·show (S.wq ++ l).length ≤ 32
   rw [List.length_append]
   have := h.c.wl
   omega
 ·exact h
theorem new_core {nd c : Int} (h : mayNew nd c = true) : Inv nd [] c 0 0 2 (newRg0 nd c) := by
 unfold mayNew at h
 rw [decide_eq_true_eq] at h
 have hn : 1 ≤ nd ∧ nd ≤ 8 := ⟨h.1,h.2.1⟩
 have hpow := pow_ok nd hn
 have hc1 : 1 ≤ c + 1 ∧ c + 1 ≤ maxN := by unfold maxN at *;omega
 unfold newRg0
 dsimp only
 refine Core.gather (S := (((⟨nd,0,0,0,noTm,[],newWay (plainCfg (c + 1) nd (2 ^ nd.toNat) 0),0,none,noWay,zeroEnt,0,none,false,zeroPkt,0,[],[]⟩ : Rg).keep (c + 1)).tell [cfgE (plainCfg (c + 1) nd (2 ^ nd.toNat) 0)])) (o := 1) ⟨rfl,hn,by show 0 ≤ (0 : Int) ∧ (0 : Int) ≤ maxN;decide,Int.le_refl _,⟨by show 0 ≤ c + 1;omega,hc1.2⟩,by omega,.inr ⟨rfl,by show c < c + 1;omega⟩,newWay_ok hpow.1,⟨rfl,hpow.1,hpow.2,liveR_of hc1 hn,by show 0 ≤ (0 : Int) ∧ (0 : Int) ≤ maxN;decide⟩,Int.le_refl _,DOk.nil,by simp [Rg.tell,Rg.keep],⟨0,?_,Int.le_refl _⟩,by show 0 ≤ (0 : Int) ∧ (0 : Int) ≤ maxN;decide,fun e he=>?_,fun m h=>(by have h2 : m ∈ ([] : List Msg) := h;cases h2),Nat.zero_le _,Nat.zero_le _⟩ (Nat.zero_le _) (Nat.le_refl _) ⟨rfl,rfl,Nat.zero_le _⟩
 ·show (ordStep nd true zst (cfgE (plainCfg (c + 1) nd (2 ^ nd.toNat) 0))).bind (ordRun nd []) = _
  unfold ordStep
  rw [if_neg (show ¬ (cfgE (plainCfg (c + 1) nd (2 ^ nd.toNat) 0)).kind = 2 from (by decide : ¬ (1 : Int) = 2)),if_neg (show ¬ (cfgE (plainCfg (c + 1) nd (2 ^ nd.toNat) 0)).cfg.trans = true from (by decide : ¬ false = true)),if_pos]
  ·rfl
  ·show (hasC (2 ^ nd.toNat) nd && (true || _)) = true
   rw [hpow.2];rfl
 ·have := List.mem_singleton.1 (show e ∈ [cfgE (plainCfg (c + 1) nd (2 ^ nd.toNat) 0)] from he)
  rw [this]
  exact ToldOk.cfg (Int.le_refl _)
theorem new_inv {nd c : Int} (h : mayNew nd c = true) : Inv nd (newRg0 nd c).oe (c + 1) 0 0 0 (newRg nd c).1 := by
 have h2 := (new_core h).flush
 have e1 : (newRg0 nd c).counter = c + 1 := rfl
 have e2 : (newRg0 nd c).clock = 0 := rfl
 rw [e1,e2,List.nil_append] at h2
 exact h2
end
end Go.Proofs.YtohbcfokihplbaaGreatDoor
