/-
  A node of a ring: where messages to be sent come from.
-/
import Derived.Test.YtohbcfokihplbaaGreatDoorRLCM9
set_option linter.unusedSimpArgs false
set_option linter.unusedVariables false
namespace Go.Proofs.YtohbcfokihplbaaGreatDoor
open Go.Hb
attribute [local irreducible] LR CW At Ev thn blk finK noG again CallsTo DW QL dnext TW DP
set_option maxRecDepth 100000
theorem bunE_one {w0 w : World} {F : Nat → Prop} {L : List Asrt} {x : DaA} (h : St w0 F (x.body :: L) w) : St w0 F (bunE [msgA x] :: L) w := by
 have h1 : St w0 F (bunE [] :: x.body :: L) w := St.bun_nil EvA.dep h
 exact St.bun_snoc (f := EvA.body) (l := []) (x := msgA x) EvA.dep EvA.ex h1.swap
theorem now_D {A : RA} {S : Rg} (h : RepA A S) : S.now.D = dats A.es := by
 unfold Way.D
 rw [h.nd]
structure Dls where
 i : Nat
 ea : Option Addr
 ec : Nat
section
variable {w0 : World} {F : Nat → Prop} {R : List Asrt}
set_option maxHeartbeats 2000000 in
theorem r124 (b : Nat) (S : Rg) (w : World) (h : Nd w0 F b S R w) (hD : WOk S.now.D) (hl : S.now.D.length ≤ 100000) (hd : 0 ≤ S.done ∧ S.done ≤ 9007199254740991) (ho : S.oe.length ≤ 1000000) :
  CallsTo Tryz.prog 124 [.pointer (some ⟨b,0,none⟩)] w fun v w'=>Nd w0 F b S.deliver R w' := by
 obtain ⟨A,hA,h⟩ := h
 have hel := hA.oe_len
 have eD := now_D hA
 obtain ⟨d0,hd0⟩ : ∃ d0 : Nat,S.done = (d0 : Int) := ⟨S.done.toNat,by omega⟩
 rw [eD] at hD hl
 have hle : A.es.length ≤ 100000 := by rw [← dats_len];exact hl
 have hdel : S.deliver = { S with oe := S.oe ++ (nextGo (dats A.es) S.now.safe (dats A.es).length d0).1,done := (nextGo (dats A.es) S.now.safe (dats A.es).length d0).2 } := by
  unfold Rg.deliver
  rw [eD,hd0]
 generalize hr : nextGo (dats A.es) S.now.safe (dats A.es).length d0 = r at hdel
 refine go_inS (n := 36) h Tryz.func124 rfl rfl ?_
 repeat'(first|(apply CW.reg_held (St w0 F [rgB b A S]))|refine gz ?_)
 all_goals (
  apply DW.quiet [0,1,2,3,4,5,6,7,8,9,10,11,12,13]
  ·decide +kernel
  ·exact stZ
  repeat'(first|refine gq ?_|apply QL.nil)
  all_goals (show DW _ _ _ _ _ _ _ _))
 all_goals (
  apply DW.loud 14
  ·exact rfl
  ·decide +kernel
  repeat'(first|refine gw ?_|(apply LR.call;(·exact rfl);(intro w1 h1;have hap := St.apart (x := wO A.bw A.bm A.es S.now.aru S.now.high) (y := oB A.bo S.done) (h1.sub (L' := [wO A.bw A.bm A.es S.now.aru S.now.high,oB A.bo S.done]) subN) memZ rfl;refine CallsTo.mono (r174 A.bo A.bw A.bm A.es S.now.aru S.now.high S.now.safe d0 w1 (by rw [← hd0];exact h1.holds (oB A.bo S.done) memZ) (h1.holds (wO A.bw A.bm A.es S.now.aru S.now.high) memZ) (fun hf=>hap _ hf rfl) hD hle (by omega)) ?_;rintro v w2 ⟨a6,c6,o,rfl,ho6,hol,st⟩;rw [hr] at ho6 st;have hfo : 0 < o.length → ∃ q p,a6 = some ⟨q,p,none⟩ := (fun h0=>(ownsRow_rd (show w2.ownsRow 0 52 18 (.slice a6 o.length c6) o.length (o.flatMap DaA.row) from st.g0.1)).form (Go.Hb.rows_ne DaA.row_len (by omega) h0));refine LR.back (St.did1 (a := oB A.bo S.done) (a' := oB A.bo r.2) h1 selZ rfl rfl rfl st.swap) ?_;clear st h1 hap)))
  all_goals (refine ats ?_))
 all_goals (
  apply DW.quiet [15,16,17,18,19]
  ·decide +kernel
  ·exact stZ
  repeat'(first|refine gq ?_|apply QL.nil)
  all_goals (show DW _ _ _ _ _ _ _ _))
 all_goals (first | (apply DW.done_thn;(·decide +kernel)) |fail)
 refine CW.sub (D := St w0 F (bunD o :: dS a6 c6 o :: rgL b A { S with done := r.2 } R)) ?_ (fun w' hw'=>(St.part hw' (osl.dep _ _ _ _ _) (bun_dep DaA.dep o)).swap)
 repeat'(first|refine gz ?_)
 apply CW.loop [5,26,27,28,29,30,31,32,33,34,35] (fun s : Dls=>s.i ≤ o.length) (fun s=>[(26,.int .i64 (s.i : Int))])
  (fun s=>St w0 F (bunD (o.drop s.i) :: dS a6 c6 o :: rgL b { A with ea := s.ea,ec := s.ec,ev := A.ev ++ (o.take s.i).map msgA } ({ S with done := r.2 }.tell (((o.take s.i).map msgA).map EvA.e)) R)) (fun s=>o.length - s.i)
 ·refine fun w' hw'=>⟨⟨0,A.ea,A.ec⟩,Nat.zero_le _,⟨rfl,trivial⟩,?_⟩
  have e1 : ({ A with ea := A.ea,ec := A.ec,ev := A.ev ++ (o.take 0).map msgA } : RA) = A := by simp
  have e2 : ({ S with done := r.2 } : Rg).tell (((o.take 0).map msgA).map EvA.e) = { S with done := r.2 } := by unfold Rg.tell;simp
  simp only [e1,e2,List.drop_zero]
  exact hw'
 rintro ⟨i,ea,ec⟩ g hi
 simp only at hi ⊢
 by_cases hlt : i < o.length
 ·obtain ⟨aq,ap,rfl⟩ := hfo (by omega)
  obtain ⟨x,hx⟩ : ∃ x,o[i] = x := ⟨_,rfl⟩
  have hdr : o.drop i = x :: o.drop (i + 1) := by rw [List.drop_eq_getElem_cons hlt,hx]
  have htk : (o.take (i + 1)).map msgA = (o.take i).map msgA ++ [msgA x] := by
   rw [List.take_add_one,List.getElem?_eq_getElem hlt,hx]
   simp
  have hlen : (A.ev ++ (o.take i).map msgA).length ≤ 2000000 := by
   rw [List.length_append,List.length_map,List.length_take]
   omega
  rw [hdr]
  generalize hE : (o.take i).map msgA = E at *
  refine CW.sub (D := St w0 F (x.body :: bunD (o.drop (i + 1)) :: dS (some ⟨aq,ap,none⟩) c6 o :: rgL b { A with ea := ea,ec := ec,ev := A.ev ++ E } ({ S with done := r.2 }.tell (E.map EvA.e)) R)) ?_ (fun w' hw'=>St.bun_head DaA.dep hw')
  repeat'(first|(apply LR.ev;(·apply Ev.load_agg_at (cs := x.row);(·exact rfl);(·exact rfl);(·intro w' hw';have h9 := Go.Hb.rd_row (f := DaA.row) DaA.row_len (hw'.rd_of_own (a := some ⟨aq,ap,none⟩) (c := c6) (n := o.length) (E := 52) (sz := 18) (xs := o.flatMap DaA.row) memZ) hlt (q := (i : Int).toNat * 18) (by simp);rw [hx] at h9;exact h9));(·exact rfl))|(apply Go.Hb.kK;(iterate 4 exact rfl);intro bs)|refine gz ?_|refine gy fun _=>?_|(apply idxX;(iterate 2 exact rfl);(iterate 2(first|omega));exact rfl)|(refine gs ?_ ?_;all_goals(intro hc;try simp only[hcs]at hc;try exact abz)))
  apply LR.call
  ·exact rfl
  intro w1 h1
  have j := front (rg_mid [_,_,_,_,_] h1) 16 rfl rfl
  refine CallsTo.mono (r42 b { A with ea := ea,ec := ec,ev := A.ev ++ E } ({ S with done := r.2 }.tell (E.map EvA.e)) (some ⟨bs,0,none⟩) 1 [msgA x] w1 (bunE_one j) (fun w' hw'=>hw'.rd_of_blk (mH _ _)) (fun e=>by cases e) (by show (A.ev ++ E).length + 1 ≤ _;omega)) ?_
  rintro v w2 ⟨ea2,ec2,hw2⟩
  refine LR.back hw2 ?_
  repeat'(first|refine gz ?_|(apply addX;(iterate 2 exact rfl);(iterate 2(first|omega));exact rfl))
  refine At.again (⟨i + 1,ea2,ec2⟩ : Dls) (by show i + 1 ≤ o.length;omega) ?_ ⟨rfl,trivial⟩ (fun w' hw'=>?_) (by show o.length - (i + 1) < o.length - i;omega)
  ·exact outZ
  ·simp only [htk]
   have e1 : (({ S with done := r.2 } : Rg).tell (E.map EvA.e)).tell ([msgA x].map EvA.e) = ({ S with done := r.2 } : Rg).tell ((E ++ [msgA x]).map EvA.e) := by unfold Rg.tell;simp
   simp only [e1] at hw'
   have j2 := front (front hw' 16 rfl rfl) 17 rfl rfl
   have j3 : St w0 F (dS (some ⟨aq,ap,none⟩) c6 o :: bunD (o.drop (i + 1)) :: rgL b { A with ea := ea2,ec := ec2,ev := A.ev ++ E ++ [msgA x] } (({ S with done := r.2 } : Rg).tell ((E ++ [msgA x]).map EvA.e)) R) w' := j2.sub subN
   rw [List.append_assoc] at j3
   exact j3.swap
 ·have hie : i = o.length := by omega
  subst hie
  repeat'(first|refine gz ?_|(refine gs ?_ ?_;all_goals(intro hc;try simp only[hcs]at hc;try exact abz)))
  apply end0
  ·exact rfl
  intro w' hS
  rw [List.take_length] at hS
  have e1 : (o.map msgA).map EvA.e = r.1 := by
   rw [← ho6]
   unfold toldD dats
   rw [List.map_map,List.map_map]
   rfl
  have hA2 : RepA A { S with done := r.2 } := ⟨hA.q,hA.ql,hA.nd,hA.gp,hA.np,hA.ap,hA.pk,hA.ev⟩
  have hA3 := hA2.told ea ec (o.map msgA)
  rw [e1] at hA3 hS
  rw [hdel]
  exact ⟨_,hA3,hS.sub subN⟩
end
theorem q14k (bw : Nat) (o : OldC) (kin : Int) (nx : Cfg) (w : World) (h1 : inI o.cfg.mem) (h2 : inI nx.mem) (h3 : inI kin) (hm : mayC o kin nx = false) :
  CallsTo Tryz.prog 237 [o.val,.pointer (some ⟨bw,0,none⟩),.int .i64 kin,nx.val] w fun v w'=>v = .tuple [.slice none 0 0,.int .i64 2].toArray ∧ Grew w w' := by
 refine go_in (n := 97) (St.refl _ NoF) Tryz.func237 rfl rfl ?_
 repeat'(first|(apply kB;(iterate 2 exact rfl);intro _)|refine gz ?_|(apply kq;(·exact rfl);(·intro w1 hw1;have hq := CallsTo.q (q43 o kin nx w1 h1 h2 h3) hw1;rw [hm] at hq;exact hq))|fail)
 (apply ret2;(·exact rfl);intro w' hS)
 exact ⟨rfl,hS.toKeep⟩
set_option maxHeartbeats 8000000 in
theorem q14L (bw bm : Nat) (es : List DaA) (aru high : Int) (o : OldC) (kin : Int) (nx : Cfg) (w : World) (h : (wO bw bm es aru high).holds w) (hD : WOk (dats es)) (hl : es.length ≤ 30000) (h1 : inI o.cfg.mem) (h2 : inI nx.mem) (h3 : inI kin) (hm : mayC o kin nx = true) :
  CallsTo Tryz.prog 237 [o.val,.pointer (some ⟨bw,0,none⟩),.int .i64 kin,nx.val] w fun v w'=>∃ a' c' l',v = .tuple [.slice a' l'.length c',.int .i64 0].toArray ∧ l'.map EvA.e = toldT (dats es) o.done o.safe kin (trC o kin nx) (nxC nx) ∧ l'.length ≤ 100000 ∧ New1 (eO a' c' l') w w' := by
 refine go_in (n := 97) (wO_in h) Tryz.func237 rfl rfl ?_
 repeat'(first|(apply kB;(iterate 2 exact rfl);intro _)|refine gz ?_|refine gy fun _=>?_|(apply kq;(·exact rfl);(·intro w1 hw1;have hq := CallsTo.q (q43 o kin nx w1 h1 h2 h3) hw1;rw [hm] at hq;exact hq))|(apply LR.call;(·exact rfl);(intro w1 hw1;refine (t34 bw bm es aru high o.done w1 (w_out hw1 memZ) hD (by omega)).mono ?_;rintro v w2 ⟨a5,c5,o5,rfl,ho5,hn⟩;refine LR.back (hw1.got hn (dO_dep _ _ _)) ?_;clear hn hw1))|fail)
 rename_i b4 b7 b10 b11
 have hol5 : o5.length ≤ 30000 := by
  have h4 := congrArg List.length ho5
  have h5 := abvS_len (dats es) o.done (sqs (dats es))
  rw [sqs_len,dats_len] at h5
  have h6 : (abvT (dats es) o.done).length ≤ es.length := h5
  rw [dats_len] at h4
  omega
 obtain ⟨TT,hTT⟩ : ∃ TT,progT o.safe kin (cfgE (trC o kin nx)) o.done false false (dats o5) = TT := ⟨_,rfl⟩
 have htold : toldT (dats es) o.done o.safe kin (trC o kin nx) (nxC nx) = TT ++ [cfgE (nxC nx)] := by
  unfold toldT
  rw [← hTT,ho5]
 have hgt : ∀ d ∈ dats o5,hasD (dats es) d.seq = true := fun d hd=>by rw [ho5] at hd;exact (abv_gt hd).2.1
 rw [htold]
 clear htold
 have hrg : ∀ d ∈ dats o5,1 ≤ d.seq ∧ d.seq ≤ 9007199254740991 := fun d hd=>by
  obtain ⟨y,hy,e⟩ := has_iff.1 (hgt d hd)
  have := hD.rng y hy
  omega
 have hdone : 0 ≤ o.done := by
  unfold mayC at hm
  simp only [Bool.and_eq_true,decide_eq_true_eq] at hm
  exact hm.1.1.1.2
 have hdoneL : 0 < o5.length → o.done ≤ 9007199254740991 := fun h0=>by
  have hx : o5[0].d ∈ dats o5 := List.mem_map_of_mem (List.getElem_mem h0)
  have j1 := hrg _ hx
  rw [ho5] at hx
  have j2 := (abv_gt hx).1
  omega
 apply CW.loop [12,13,14,16,40,41,42,43,44,45,46,47,48,49,50,51,52,53,54,55,56,57,58,59,60,61,62,63,64,65,66,67,68,69,70,71,72,73,74,75,76,77,78,79,80,81,82,83] (fun s : Kst=>s.k ≤ o5.length ∧ s.l.length ≤ 2 * s.k ∧ s.l.map EvA.e ++ progT o.safe kin (cfgE (trC o kin nx)) s.at_ s.p s.g ((dats o5).drop s.k) = TT ∧ 0 ≤ s.at_ ∧ (s.k < o5.length → s.at_ ≤ 9007199254740991)) (fun s=>[(40,.int .i64 (s.k : Int)),(12,.int .i64 s.at_),(13,.bool s.p),(14,.bool s.g)])
  (fun s=>St w NoF [bunE s.l,bunD (o5.drop s.k),tO b10 s.a s.c s.l,dS a5 c5 o5,.own b11 (.cells (trC o kin nx).cells.toArray 74 (0,0)),.own b7 (.cells nx.cells.toArray 74 (0,0)),.own b4 (.cells o.cells.toArray 266 (0,0)),wR bw bm es aru high]) (fun s=>o5.length - s.k)
 ·intro w' hw'
  refine ⟨⟨0,[],none,0,o.done,false,false⟩,⟨by simp,by simp,hTT,hdone,fun hlt=>hdoneL hlt⟩,⟨rfl,rfl,rfl,rfl,trivial⟩,?_⟩
  have j1 := (hw'.part (osl.dep _ _ _ _ _) (bun_dep DaA.dep o5)).nilsl 76 26
  have j2 : St w NoF [tB b10 none 0 0,eS none 0 [],dS a5 c5 o5,bunD o5,.own b11 (.cells (trC o kin nx).cells.toArray 74 (0,0)),.own b7 (.cells nx.cells.toArray 74 (0,0)),.own b4 (.cells o.cells.toArray 266 (0,0)),wR bw bm es aru high] w' := front j1 4 rfl rfl
  have j3 : St w NoF [bunD o5,tO b10 none 0 [],dS a5 c5 o5,.own b11 (.cells (trC o kin nx).cells.toArray 74 (0,0)),.own b7 (.cells nx.cells.toArray 74 (0,0)),.own b4 (.cells o.cells.toArray 266 (0,0)),wR bw bm es aru high] w' := front (j2.join rfl rfl) 2 rfl rfl
  exact j3.bun_nil EvA.dep
 rintro ⟨k,l,a,c,at_,p,g⟩ g1 ⟨hk,hlk,hinv,hat0,hat1⟩
 simp only at hk hlk hinv hat0 hat1 ⊢
 by_cases hlt : k < o5.length
 ·have hx := hrg o5[k].d (List.mem_map_of_mem (List.getElem_mem hlt))
  have htl := tellA_len o5[k]
  have hat2 := hat1 hlt
  have hdrop : o5.drop k = o5[k] :: o5.drop (k + 1) := List.drop_eq_getElem_cons hlt
  have hdd : (dats o5).drop k = o5[k].d :: (dats o5).drop (k + 1) := by
   unfold dats
   rw [← List.map_drop,hdrop,List.map_cons,List.map_drop]
  rw [hdd] at hinv
  refine LR_cls_cw fun w1 hw1=>?_
  obtain ⟨bg,og,rfl⟩ := (hw1.rd_of_own (a := a5) (n := o5.length) memZ).form (rows_ne DaA.row_len (by decide) hlt)
  refine CW.sub (D := St w NoF _) ?_ (fun u e=>e ▸ hw1)
  clear hw1 w1
  cases p <;> cases g
  all_goals
   repeat'(first|refine gz ?_|refine gy fun _=>?_|(apply idxX;(iterate 2 exact rfl);(iterate 2(first|omega));exact rfl)|(apply LR.ev;(·first | (apply Ev.load_agg_at (cs := o5[k].row);(·exact rfl);(·exact rfl);(·intro w' hw';exact rd_row DaA.row_len (hw'.rd_of_own (n := o5.length) memZ) hlt (by omega))));(·exact rfl))|(apply addX;(iterate 2 exact rfl);(iterate 2(first|omega));exact rfl)|(apply kq;(·exact rfl);(·intro w1 hw1;show CallsTo Tryz.prog 53 [.int .i64 kin,.int .i64 o5[k].d.sender] w1 _;exact CallsTo.q (q23 kin o5[k].d.sender w1) hw1))|(apply LR.call;(·exact rfl);(intro w1 hw1;first | (refine (q45 b10 a c l (trC o kin nx) w1 (hw1.holds _ memZ) (by omega)).mono ?_;rintro v w2 ⟨a3,c3,rfl,hst⟩;apply LR.back;(·exact St.did hw1 selZ rfl hst (tO_dep _ _ _ _));clear hst hw1) | (refine (q46 b10 a3 c3 (l ++ [cfgA (trC o kin nx)]) o5[k] w1 (hw1.holds _ memZ) (by simp only [List.length_append,List.length_cons,List.length_nil];omega)).mono ?_;rintro v w2 ⟨a4,c4,rfl,hst⟩;apply LR.back;(·exact St.did hw1 selZ rfl hst (tO_dep _ _ _ _));clear hst hw1) | (refine (q46 b10 a c l o5[k] w1 (hw1.holds _ memZ) (by omega)).mono ?_;rintro v w2 ⟨a4,c4,rfl,hst⟩;apply LR.back;(·exact St.did hw1 selZ rfl hst (tO_dep _ _ _ _));clear hst hw1)))|(refine gs ?_ ?_;all_goals(intro hc;try simp only[hcs]at hc;try exact abz)))
  ·refine At.again (⟨k + 1,(l ++ [cfgA (trC o kin nx)]) ++ tellA o5[k],a4,c4,o5[k].d.seq,true,(!decide (o5[k].d.seq = at_ + 1))⟩ : Kst) ⟨by simp only;omega,by simp only [List.length_append,List.length_cons,List.length_nil];omega,?_,by simp only;omega,fun _=>by simp only;omega⟩ ?_ ⟨rfl,rfl,rfl,rfl,trivial⟩ (fun w' hw'=>?_) (by simp only;omega)
   ·have hh := prog_inv hinv true true (by simp [show ¬ o5[k].d.seq = at_ + 1 by assumption,show hasC kin o5[k].d.sender = true by assumption]) (by simp [show ¬ o5[k].d.seq = at_ + 1 by assumption,show hasC kin o5[k].d.sender = true by assumption])
    simpa [tellA_e,cfgA_e,List.append_assoc] using hh
   ·exact outZ
   ·have h1 := front hw'.tail1 1 rfl rfl
    rw [hdrop] at h1
    exact e_ct h1
  ·refine At.again (⟨k + 1,l ++ [cfgA (trC o kin nx)],a3,c3,o5[k].d.seq,true,(!decide (o5[k].d.seq = at_ + 1))⟩ : Kst) ⟨by simp only;omega,by simp only [List.length_append,List.length_cons,List.length_nil];omega,?_,by simp only;omega,fun _=>by simp only;omega⟩ ?_ ⟨rfl,rfl,rfl,rfl,trivial⟩ (fun w' hw'=>?_) (by simp only;omega)
   ·have hh := prog_inv hinv true false (by simp [show ¬ o5[k].d.seq = at_ + 1 by assumption,show hasC kin o5[k].d.sender = false by assumption]) (by simp [show ¬ o5[k].d.seq = at_ + 1 by assumption,show hasC kin o5[k].d.sender = false by assumption])
    simpa [tellA_e,cfgA_e,List.append_assoc] using hh
   ·exact outZ
   ·have h1 := front hw'.tail1 1 rfl rfl
    rw [hdrop] at h1
    exact e_c h1
  ·refine At.again (⟨k + 1,(l ++ [cfgA (trC o kin nx)]) ++ tellA o5[k],a4,c4,o5[k].d.seq,true,(!decide (o5[k].d.seq = at_ + 1))⟩ : Kst) ⟨by simp only;omega,by simp only [List.length_append,List.length_cons,List.length_nil];omega,?_,by simp only;omega,fun _=>by simp only;omega⟩ ?_ ⟨rfl,rfl,rfl,rfl,trivial⟩ (fun w' hw'=>?_) (by simp only;omega)
   ·have hh := prog_inv hinv true true (by simp [show o5[k].d.seq = at_ + 1 by assumption,show o5[k].d.msg.safe = true by assumption,show o.safe < o5[k].d.seq by assumption];omega) (by simp [show o5[k].d.seq = at_ + 1 by assumption,show o5[k].d.msg.safe = true by assumption,show o.safe < o5[k].d.seq by assumption])
    simpa [tellA_e,cfgA_e,List.append_assoc] using hh
   ·exact outZ
   ·have h1 := front hw'.tail1 1 rfl rfl
    rw [hdrop] at h1
    exact e_ct h1
  ·refine At.again (⟨k + 1,l ++ tellA o5[k],a4,c4,o5[k].d.seq,false,(!decide (o5[k].d.seq = at_ + 1))⟩ : Kst) ⟨by simp only;omega,by simp only [List.length_append,List.length_cons,List.length_nil];omega,?_,by simp only;omega,fun _=>by simp only;omega⟩ ?_ ⟨rfl,rfl,rfl,rfl,trivial⟩ (fun w' hw'=>?_) (by simp only;omega)
   ·have hh := prog_inv hinv false true (by simp [show o5[k].d.seq = at_ + 1 by assumption,show o5[k].d.msg.safe = true by assumption,show ¬ o.safe < o5[k].d.seq by omega];omega) (by simp [show o5[k].d.seq = at_ + 1 by assumption,show o5[k].d.msg.safe = true by assumption,show ¬ o.safe < o5[k].d.seq by omega])
    simpa [tellA_e,cfgA_e,List.append_assoc] using hh
   ·exact outZ
   ·have h1 := front hw'.tail1 1 rfl rfl
    rw [hdrop] at h1
    exact e_t h1
  ·refine At.again (⟨k + 1,l ++ tellA o5[k],a4,c4,o5[k].d.seq,false,(!decide (o5[k].d.seq = at_ + 1))⟩ : Kst) ⟨by simp only;omega,by simp only [List.length_append,List.length_cons,List.length_nil];omega,?_,by simp only;omega,fun _=>by simp only;omega⟩ ?_ ⟨rfl,rfl,rfl,rfl,trivial⟩ (fun w' hw'=>?_) (by simp only;omega)
   ·have hh := prog_inv hinv false true (by simp [show o5[k].d.seq = at_ + 1 by assumption,show o5[k].d.msg.safe = false by assumption]) (by simp [show o5[k].d.seq = at_ + 1 by assumption,show o5[k].d.msg.safe = false by assumption])
    simpa [tellA_e,cfgA_e,List.append_assoc] using hh
   ·exact outZ
   ·have h1 := front hw'.tail1 1 rfl rfl
    rw [hdrop] at h1
    exact e_t h1
  ·refine At.again (⟨k + 1,(l ++ [cfgA (trC o kin nx)]) ++ tellA o5[k],a4,c4,o5[k].d.seq,true,true⟩ : Kst) ⟨by simp only;omega,by simp only [List.length_append,List.length_cons,List.length_nil];omega,?_,by simp only;omega,fun _=>by simp only;omega⟩ ?_ ⟨rfl,rfl,rfl,rfl,trivial⟩ (fun w' hw'=>?_) (by simp only;omega)
   ·have hh := prog_inv hinv true true (by simp [show hasC kin o5[k].d.sender = true by assumption]) (by simp [show hasC kin o5[k].d.sender = true by assumption])
    simpa [tellA_e,cfgA_e,List.append_assoc] using hh
   ·exact outZ
   ·have h1 := front hw'.tail1 1 rfl rfl
    rw [hdrop] at h1
    exact e_ct h1
  ·refine At.again (⟨k + 1,l ++ [cfgA (trC o kin nx)],a3,c3,o5[k].d.seq,true,true⟩ : Kst) ⟨by simp only;omega,by simp only [List.length_append,List.length_cons,List.length_nil];omega,?_,by simp only;omega,fun _=>by simp only;omega⟩ ?_ ⟨rfl,rfl,rfl,rfl,trivial⟩ (fun w' hw'=>?_) (by simp only;omega)
   ·have hh := prog_inv hinv true false (by simp [show hasC kin o5[k].d.sender = false by assumption]) (by simp [show hasC kin o5[k].d.sender = false by assumption])
    simpa [tellA_e,cfgA_e,List.append_assoc] using hh
   ·exact outZ
   ·have h1 := front hw'.tail1 1 rfl rfl
    rw [hdrop] at h1
    exact e_c h1
  ·refine At.again (⟨k + 1,l ++ tellA o5[k],a4,c4,o5[k].d.seq,true,(!decide (o5[k].d.seq = at_ + 1))⟩ : Kst) ⟨by simp only;omega,by simp only [List.length_append,List.length_cons,List.length_nil];omega,?_,by simp only;omega,fun _=>by simp only;omega⟩ ?_ ⟨rfl,rfl,rfl,rfl,trivial⟩ (fun w' hw'=>?_) (by simp only;omega)
   ·have hh := prog_inv hinv false true (by simp [show o5[k].d.seq = at_ + 1 by assumption]) (by simp [show o5[k].d.seq = at_ + 1 by assumption])
    simpa [tellA_e,cfgA_e,List.append_assoc] using hh
   ·exact outZ
   ·have h1 := front hw'.tail1 1 rfl rfl
    rw [hdrop] at h1
    exact e_t h1
  ·refine At.again (⟨k + 1,l ++ tellA o5[k],a4,c4,o5[k].d.seq,true,(!decide (o5[k].d.seq = at_ + 1))⟩ : Kst) ⟨by simp only;omega,by simp only [List.length_append,List.length_cons,List.length_nil];omega,?_,by simp only;omega,fun _=>by simp only;omega⟩ ?_ ⟨rfl,rfl,rfl,rfl,trivial⟩ (fun w' hw'=>?_) (by simp only;omega)
   ·have hh := prog_inv hinv false true (by simp [show ¬ o5[k].d.seq = at_ + 1 by assumption,show hasC kin o5[k].d.sender = true by assumption]) (by simp [show ¬ o5[k].d.seq = at_ + 1 by assumption,show hasC kin o5[k].d.sender = true by assumption])
    simpa [tellA_e,cfgA_e,List.append_assoc] using hh
   ·exact outZ
   ·have h1 := front hw'.tail1 1 rfl rfl
    rw [hdrop] at h1
    exact e_t h1
  ·refine At.again (⟨k + 1,l,a,c,o5[k].d.seq,true,(!decide (o5[k].d.seq = at_ + 1))⟩ : Kst) ⟨by simp only;omega,by simp only [List.length_append,List.length_cons,List.length_nil];omega,?_,by simp only;omega,fun _=>by simp only;omega⟩ ?_ ⟨rfl,rfl,rfl,rfl,trivial⟩ (fun w' hw'=>?_) (by simp only;omega)
   ·have hh := prog_inv hinv false false (by simp [show ¬ o5[k].d.seq = at_ + 1 by assumption,show hasC kin o5[k].d.sender = false by assumption]) (by simp [show ¬ o5[k].d.seq = at_ + 1 by assumption,show hasC kin o5[k].d.sender = false by assumption])
    simpa [tellA_e,cfgA_e,List.append_assoc] using hh
   ·exact outZ
   ·have h1 := front hw'.tail1 1 rfl rfl
    rw [hdrop] at h1
    exact e_0 h1
  ·refine At.again (⟨k + 1,l ++ tellA o5[k],a4,c4,o5[k].d.seq,true,true⟩ : Kst) ⟨by simp only;omega,by simp only [List.length_append,List.length_cons,List.length_nil];omega,?_,by simp only;omega,fun _=>by simp only;omega⟩ ?_ ⟨rfl,rfl,rfl,rfl,trivial⟩ (fun w' hw'=>?_) (by simp only;omega)
   ·have hh := prog_inv hinv false true (by simp [show hasC kin o5[k].d.sender = true by assumption]) (by simp [show hasC kin o5[k].d.sender = true by assumption])
    simpa [tellA_e,cfgA_e,List.append_assoc] using hh
   ·exact outZ
   ·have h1 := front hw'.tail1 1 rfl rfl
    rw [hdrop] at h1
    exact e_t h1
  ·refine At.again (⟨k + 1,l,a,c,o5[k].d.seq,true,true⟩ : Kst) ⟨by simp only;omega,by simp only [List.length_append,List.length_cons,List.length_nil];omega,?_,by simp only;omega,fun _=>by simp only;omega⟩ ?_ ⟨rfl,rfl,rfl,rfl,trivial⟩ (fun w' hw'=>?_) (by simp only;omega)
   ·have hh := prog_inv hinv false false (by simp [show hasC kin o5[k].d.sender = false by assumption]) (by simp [show hasC kin o5[k].d.sender = false by assumption])
    simpa [tellA_e,cfgA_e,List.append_assoc] using hh
   ·exact outZ
   ·have h1 := front hw'.tail1 1 rfl rfl
    rw [hdrop] at h1
    exact e_0 h1
 ·have hke : k = o5.length := by omega
  subst hke
  rw [List.drop_of_length_le (by rw [dats_len];exact Nat.le_refl _)] at hinv
  rw [List.drop_of_length_le (Nat.le_refl _)]
  cases p
  ·have hinv2 : (l ++ [cfgA (trC o kin nx)]).map EvA.e = TT := by rw [List.map_append];exact hinv
   repeat'(first|refine gz ?_|(apply LR.call;(·exact rfl);(intro w1 hw1;first | (refine (q45 b10 a3 c3 (l ++ [cfgA (trC o kin nx)]) (nxC nx) w1 (hw1.holds _ memZ) (by simp only [List.length_append,List.length_cons,List.length_nil];omega)).mono ?_;rintro v w2 ⟨a6,c6,rfl,hst⟩;apply LR.back;(·exact St.did hw1 selZ rfl hst (tO_dep _ _ _ _));clear hst hw1) | (refine (q45 b10 a c l (trC o kin nx) w1 (hw1.holds _ memZ) (by omega)).mono ?_;rintro v w2 ⟨a3,c3,rfl,hst⟩;apply LR.back;(·exact St.did hw1 selZ rfl hst (tO_dep _ _ _ _));clear hst hw1)))|(refine gs ?_ ?_;all_goals(intro hc;try simp only[hcs]at hc;try exact abz)))
   refine LR.sub (D := St w NoF [tB b10 a6 c6 (l ++ [cfgA (trC o kin nx)] ++ [cfgA (nxC nx)]).length,eS a6 c6 (l ++ [cfgA (trC o kin nx)] ++ [cfgA (nxC nx)]),bunE (l ++ [cfgA (trC o kin nx)] ++ [cfgA (nxC nx)])]) (fun w' hw'=>?_) ?_
   ·have j1 := front (e_cfg (g := nxC nx) (e_cfg (g := trC o kin nx) hw')) 2 rfl rfl
    exact (j1.part (Asrt.dep_own _ _) (osl.dep _ _ _ _ _)).sub subN
   repeat'(first|refine gz ?_)
   (apply ret2;(·exact rfl);intro w' hS)
   refine ⟨a6,c6,l ++ [cfgA (trC o kin nx)] ++ [cfgA (nxC nx)],rfl,by rw [List.map_append,hinv2];rfl,by simp only [List.length_append,List.length_cons,List.length_nil];omega,?_⟩
   have j2 : St w NoF [eS a6 c6 (l ++ [cfgA (trC o kin nx)] ++ [cfgA (nxC nx)]),bunE (l ++ [cfgA (trC o kin nx)] ++ [cfgA (nxC nx)])] w' := hS.sub subN
   exact St.new1 (R := []) (j2.join rfl rfl) rfl
  ·have hinv2 : l.map EvA.e = TT := by rw [← hinv];simp [progT]
   repeat'(first|refine gz ?_|(apply LR.call;(·exact rfl);(intro w1 hw1;(refine (q45 b10 a c l (nxC nx) w1 (hw1.holds _ memZ) (by omega)).mono ?_;rintro v w2 ⟨a6,c6,rfl,hst⟩;apply LR.back;(·exact St.did hw1 selZ rfl hst (tO_dep _ _ _ _));clear hst hw1)))|(refine gs ?_ ?_;all_goals(intro hc;try simp only[hcs]at hc;try exact abz)))
   refine LR.sub (D := St w NoF [tB b10 a6 c6 (l ++ [cfgA (nxC nx)]).length,eS a6 c6 (l ++ [cfgA (nxC nx)]),bunE (l ++ [cfgA (nxC nx)])]) (fun w' hw'=>?_) ?_
   ·have j1 := front (e_cfg (g := nxC nx) hw') 2 rfl rfl
    exact (j1.part (Asrt.dep_own _ _) (osl.dep _ _ _ _ _)).sub subN
   repeat'(first|refine gz ?_)
   (apply ret2;(·exact rfl);intro w' hS)
   refine ⟨a6,c6,l ++ [cfgA (nxC nx)],rfl,by rw [List.map_append,hinv2];rfl,by simp only [List.length_append,List.length_cons,List.length_nil];omega,?_⟩
   have j2 : St w NoF [eS a6 c6 (l ++ [cfgA (nxC nx)]),bunE (l ++ [cfgA (nxC nx)])] w' := hS.sub subN
   exact St.new1 (R := []) (j2.join rfl rfl) rfl
end Go.Proofs.YtohbcfokihplbaaGreatDoor
namespace Go.Proofs.YtohbcfokihplbaaGreatDoor
open Go.Hb
theorem _root_.Go.Hb.Tl.app (A R : List Asrt) : Tl A (R ++ A) R := by
 induction R with
 | nil=>exact Tl.nil
 | cons x R ih=>exact Tl.cons ih
theorem _root_.Go.Hb.St.addTriv {w0 w : World} {F : Nat → Prop} {L : List Asrt} (h : St w0 F L w) : St w0 F (triv :: L) w :=
 h.push (Grew.refl w) trivial (fun _ h=>h.elim) triv_dep
attribute [local irreducible] LR CW At Ev thn blk finK noG again CallsTo DW QL dnext TW DP
set_option maxRecDepth 100000
theorem RepA.nxt {A : RA} {S : Rg} (h : RepA A S) {x : List Dat × Int} (hx : S.next.dat = some x) : ∃ p,A.np = some p ∧ S.next.dat = some (dats p.2.2,S.next.high) := by
 have := h.np
 cases hp : A.np with
 | none=>rw [hp,hx] at this;cases this
 | some p=>rw [hp] at this;exact ⟨p,rfl,this⟩
theorem r237 (bw bm : Nat) (es : List DaA) (aru high : Int) (o : OldC) (kin : Int) (nx : Cfg) (w : World) (h : (wO bw bm es aru high).holds w) (hD : WOk (dats es)) (hl : es.length ≤ 30000) (h1 : inI o.cfg.mem) (h2 : inI nx.mem) (h3 : inI kin) :
  CallsTo Tryz.prog 237 [o.val,.pointer (some ⟨bw,0,none⟩),.int .i64 kin,nx.val] w fun v w'=>∃ a' c' l' e,v = .tuple [.slice a' l'.length c',.int .i64 e].toArray ∧ l'.map EvA.e = toldA (dats es) o kin nx ∧ l'.length ≤ 100000 ∧ (a' = none → l'.length = 0 ∧ c' = 0) ∧ New1 (eO a' c' l') w w' := by
 unfold toldA
 cases hm : mayC o kin nx
 ·refine CallsTo.mono (show CallsTo Tryz.prog 237 [o.val,.pointer (some ⟨bw,0,none⟩),.int .i64 kin,nx.val] w _ from q14k bw o kin nx w h1 h2 h3 hm) ?_
  rintro v w' ⟨rfl,hg⟩
  have hS : St w NoF [] w' := hg
  have j := (hS.nilsl 76 26)
  have j2 : St w NoF [bunE [],eS none 0 []] w' := St.bun_nil EvA.dep j
  exact ⟨none,0,[],2,rfl,rfl,by simp,fun _=>⟨rfl,rfl⟩,St.new1 (R := []) (j2.swap.join rfl rfl) rfl⟩
 ·refine CallsTo.mono (show CallsTo Tryz.prog 237 [o.val,.pointer (some ⟨bw,0,none⟩),.int .i64 kin,nx.val] w _ from q14L bw bm es aru high o kin nx w h hD hl h1 h2 h3 hm) ?_
  rintro v w' ⟨a,c,l,rfl,h5,h6,hn⟩
  refine ⟨a,c,l,0,rfl,h5,h6,?_,hn⟩
  rintro rfl
  have h7 : w'.ownsRow 0 76 26 (.slice none l.length c) l.length (l.flatMap EvA.row) := hn.holds.1
  rcases h7.2 with ⟨e,e2⟩ | ⟨g,cap,cur,e,_⟩
  ·simp only [Value.slice.injEq] at e
   exact ⟨e2,e.2.2⟩
  ·cases e
section
variable {w0 : World} {F : Nat → Prop} {R : List Asrt}
set_option maxHeartbeats 2000000 in
theorem r177 (b : Nat) (S : Rg) (w : World) (h : Nd w0 F b S R w) (hD : WOk S.now.D) (hl : S.now.D.length ≤ 30000) (hd : 0 ≤ S.done ∧ S.done ≤ 9007199254740991) (ho : S.oe.length ≤ 1000000) {x : List Dat × Int} (hx : S.next.dat = some x)
  (h1 : inI S.now.cfg.mem) (h2 : inI S.next.cfg.mem) (h3 : inI S.kin) :
  CallsTo Tryz.prog 177 [.pointer (some ⟨b,0,none⟩)] w fun v w'=>Nd w0 F b S.install R w' := by
 obtain ⟨Z,hZ,h⟩ := h
 have hel := hZ.oe_len
 have eD := now_D hZ
 obtain ⟨p,hp,hpd⟩ := hZ.nxt hx
 rw [eD] at hD hl
 obtain ⟨Y,rfl⟩ : ∃ Y,Z = { Y with np := some p } := ⟨Z,by cases Z;simp only at hp;subst hp;rfl⟩
 clear hp
 have hle : Y.es.length ≤ 30000 := by rw [← dats_len];exact hl
 dsimp only at hl hD hel eD
 refine go_inS (n := 64) h Tryz.func177 rfl rfl ?_
 repeat'(first|(apply CW.reg_sinkC 17;(·exact rfl);(·decide +kernel))|refine gz ?_)
 all_goals (
  apply DW.quiet [0,1,2,3,4,5,6,7,8,10,11,12,13,14]
  ·decide +kernel
  ·exact stZ
  repeat'(first|refine gq ?_|apply QL.nil)
  all_goals (show DW _ _ _ _ _ _ _ _))
 apply DP.begin []
 refine DP.more (PI.lr 16 2 [] (fun b=>.pointer (some ⟨b,0,none⟩)) (fun b=>[.own b (.cells [.int .i64 0,.int .i64 0,.int .i64 0,.int .i64 0,.int .i64 0,.bool false,.int .i64 0,.int .i64 0,.int .i64 0].toArray 266 (0,0))]) rfl (fun b x hx=>by simp only [List.mem_singleton] at hx;subst hx;rfl) ?_) ?_
 ·intro h w2
  apply kA
  ·exact rfl
  intro b
  apply kM
  exact At.made rfl
 refine DP.go 9 [16] [2] [[]] rfl rfl rfl rfl (by decide +kernel) ⟨trivial,fun _ _ _=>trivial,trivial⟩ (fun A w' hA=>St.sub hA (by simp only [List.cons_append,List.nil_append];repeat (first | exact List.sublist_append_left _ _ ))) ?_
 intro gg A LA hLA
 simp only [List.cons_append,List.nil_append] at hLA
 subst hLA
 repeat'(first|refine gw ?_|(apply kq;(·exact rfl);(·intro w1 h1;exact CallsTo.q (r236 Y.bo S.done w1 (h1.holds (oB Y.bo S.done) memZ)) h1)))
 apply At.pdone (ds := [2]) rfl
 ·repeat (first | exact MixR.base _ | (apply MixR.upd;case hd=>exact rfl))
 ·repeat (first | exact Tl.app _ _ | apply Tl.cons)
 ·exact (fun A w' hA=>St.sub hA (by simp only [List.cons_append,List.nil_append];repeat (first | exact List.sublist_append_left _ _ )))
 refine DP.quiet [15] [16] [2] rfl rfl (by decide +kernel) (fun A w' hA=>St.sub hA (by simp only [List.cons_append,List.nil_append];repeat (first | exact List.sublist_append_left _ _ ))) (fun gg=>?_)
 repeat'(first|refine gq ?_|apply QL.nil)
 apply pq_done
 ·repeat (first | exact MixR.base _ | (apply MixR.upd;case hd=>exact rfl))
 refine DP.take 16 2 (fun b=>.pointer (some ⟨b,0,none⟩)) (fun b=>[.own b (.cells [.int .i64 0,.int .i64 0,.int .i64 0,.int .i64 0,.int .i64 0,.bool false,.int .i64 0,.int .i64 0,.int .i64 0].toArray 266 (0,0))]) [] [2] [[]] rfl rfl rfl rfl rfl rfl rfl (by decide +kernel) ⟨trivial,fun _ _ _=>trivial,trivial⟩ (fun A w' hA=>St.sub hA (by simp only [List.cons_append,List.nil_append];repeat (first | exact List.sublist_append_left _ _ ))) (fun bp2=>?_)
 refine DP.nil ?_
 refine DW.castL (by simp only [List.cons_append,List.nil_append];exact rfl) ?_
 all_goals (apply DW.done;(·decide +kernel))
 all_goals apply At.sink
 repeat'(first|(apply CW.reg_heldC)|refine gz ?_)
 all_goals (
  apply DW.quiet [0,1,2,3,4,5,6,7,8,9,10,11,12,13,14]
  ·decide +kernel
  ·exact stZ
  repeat'(first|refine gq ?_|apply QL.nil)
  all_goals (show DW _ _ _ _ _ _ _ _))
 all_goals (
  apply DW.loud 15
  ·exact rfl
  ·decide +kernel
  repeat'(first|refine gw ?_|(apply LR.call;(·exact rfl);(intro w1 hw1;refine CallsTo.mono (show CallsTo Tryz.prog 237 [S.old.val,.pointer (some ⟨Y.bw,0,none⟩),.int .i64 S.kin,S.next.cfg.val] w1 _ from r237 Y.bw Y.bm Y.es S.now.aru S.now.high S.old S.kin S.next.cfg w1 (hw1.holds (wO Y.bw Y.bm Y.es S.now.aru S.now.high) memZ) hD hle h1 h2 h3) ?_;rintro v w2 ⟨a3,c3,l3,e3,rfl,hl3,hn3,hz3,hn⟩;refine LR.back (hw1.got hn (eO_dep _ _ _)) ?_;clear hn hw1)))
  all_goals (refine ats ?_))
 all_goals (
  apply DW.quiet [16,17,18,19,20]
  ·decide +kernel
  ·exact stZ
  repeat'(first|refine gq ?_|apply QL.nil)
  all_goals (show DW _ _ _ _ _ _ _ _))
 all_goals (first | (apply DW.done_thn;(·decide +kernel)) |fail)
 repeat'(first|refine gz ?_)
 apply LR.call
 ·exact rfl
 intro w1 hw1
 have j1 := hw1.part (osl.dep _ _ _ _ _) (bun_dep EvA.dep l3)
 have j2 : St w0 F (rgL b { Y with np := some p } S (_ :: _ :: _ :: R)) w1 := rg_mid [_,_,_] j1
 have j3 := front j2 15 rfl rfl
 refine CallsTo.mono (r42 b { Y with np := some p } S a3 c3 l3 w1 j3 (fun w' hw'=>hw'.rd_of_own (n := l3.length) memZ) hz3 (by show Y.ev.length + l3.length ≤ _;omega)) ?_
 rintro v w2 ⟨ea,ec,hw2⟩
 refine LR.back hw2 ?_
 repeat'(first|refine gz ?_|(apply LR.call;(·exact rfl);(intro w1 hw1;refine CallsTo.mono (r40 w1) ?_;rintro v w2 ⟨bo,rfl,hn⟩;refine LR.back (hw1.got hn (Asrt.dep_own _ _)) ?_;clear hn hw1))|fail)
 apply end0
 ·exact rfl
 intro w' hS
 have j1 := hS.repl (a := oB Y.bo S.done) selZ
 have j2 : St w0 F (wO p.1 p.2.1 p.2.2 S.next.aru S.next.high :: _) w' := front j1 6 rfl rfl
 have j3 := j2.repl (a := wO Y.bw Y.bm Y.es S.now.aru S.now.high) selZ
 have j4 := j3.addTriv.backTo 6 (by simp) rfl
 have j5 := j4.lose (a := aN Y.ap) selZ (aN_ex _)
 have e1 : (Y.ev ++ l3).map EvA.e = S.oe ++ toldA S.now.D S.old S.kin S.next.cfg := by rw [List.map_append,hl3,eD];congr 1;exact hZ.ev
 exact ⟨{ Y with bw := p.1,bm := p.2.1,es := p.2.2,np := none,ap := none,bo := bo,ea := ea,ec := ec,ev := Y.ev ++ l3 },⟨hZ.q,hZ.ql,hpd,hZ.gp,rfl,rfl,hZ.pk,e1⟩,j5.sub subN⟩
end
end Go.Proofs.YtohbcfokihplbaaGreatDoor
namespace Go.Proofs.YtohbcfokihplbaaGreatDoor
open Go.Hb
attribute [local irreducible] LR CW At Ev thn blk finK noG again CallsTo DW QL dnext TW DP
set_option maxRecDepth 100000
def wayV (c : Cfg) (p : Option Addr) (hop left safe : Int) : List Value := [.int .i64 c.rs,.int .i64 c.rr,.int .i64 c.os,.int .i64 c.or_,.int .i64 c.mem,.bool c.trans,.int .i64 c.stamp,.pointer p,.int .i64 hop,.int .i64 left,.int .i64 safe]
theorem r39 (c : Cfg) (w : World) : CallsTo Tryz.prog 39 [c.val] w fun v w'=>∃ bw bm,v = .agg (wayV c (some ⟨bw,0,none⟩) 0 (-1) 0).toArray ∧ New1 (wO bw bm [] 0 0) w w' := by
 refine go_in (n := 6) (St.refl _ NoF) Tryz.func39 rfl rfl ?_
 repeat'(first|(refine kB' fun b1=>?_)|(apply CW.reg_sinkC 3;(·exact rfl);(·decide +kernel))|refine gz ?_|refine gy fun _=>?_)
 all_goals (
  apply DW.quiet [0]
  ·decide +kernel
  ·exact stZ
  repeat'(first|refine gq ?_|apply QL.nil)
  all_goals (show DW _ _ _ _ _ _ _ _))
 all_goals (
  apply DW.loud 1
  ·exact rfl
  ·decide +kernel
  repeat'(first|refine gw ?_|(apply LR.call;(·exact rfl);(intro w1 h1;refine CallsTo.mono (show CallsTo Tryz.prog 65 [] w1 _ from t24 w1) ?_;rintro v w2 ⟨bw,bm,rfl,hn⟩;refine LR.back (h1.got hn (wO_dep _ _ _ _ _)) ?_;clear hn h1)))
  all_goals (refine ats ?_))
 all_goals (
  apply DW.quiet [2]
  ·decide +kernel
  ·exact stZ
  repeat'(first|refine gq ?_|apply QL.nil)
  all_goals (show DW _ _ _ _ _ _ _ _))
 all_goals (apply DW.done;(·decide +kernel))
 all_goals apply At.sink
 repeat'(first|refine gz ?_)
 apply ret1c
 ·exact rfl
 ·exact inferInstance
 ·exact rfl
 ·exact memY
 ·exact rfl
 intro w' hS
 exact ⟨bw,bm,rfl,St.new1 hS rfl⟩
section
variable {w0 : World} {F : Nat → Prop} {R : List Asrt}
set_option maxHeartbeats 4000000 in
theorem r136 (b : Nat) (A : RA) (S : Rg) (x : Cmt) (a : Option Addr) (c : Nat) (w : World) (h : St w0 F (rgL b A S R) w) (hA : RepA A S) (hr : ∀ w',St w0 F R w' → Rd w' a (x.ents.flatMap Ent.cells)) (hI : memI x.mem) (hD : WOk S.now.D) (hB : BytD S.now.D) (hl : S.now.D.length ≤ 100000) :
  CallsTo Tryz.prog 136 [.pointer (some ⟨b,0,none⟩),x.val a c] w fun v w'=>Nd w0 F b (S.regain x) R w' := by
 have eD := now_D hA
 rw [eD] at hD hB hl
 have hle : A.es.length ≤ 100000 := by rw [← dats_len];exact hl
 have e2 : S.regain x = (({ S with kin := (kinC2 x S.now.cfg.rs S.now.cfg.rr).1,next := newWay (plainCfg x.r1 x.r2 x.mem (stampC x)),again := some (sendL (abvT (dats A.es) (kinC2 x S.now.cfg.rs S.now.cfg.rr).2)),begun := false } : Rg).raise (stampC x)).become 2 ⟨40,0,0,0⟩ := by
  unfold Rg.regain
  rw [eD]
 refine go_inS (n := 60) h Tryz.func136 rfl rfl ?_
 repeat'(first|(refine kB' fun b1=>?_)|(apply CW.reg_held (KpC w0 F [.own b1 (.cells (x.cells a c).toArray 59 (0,0))] b 94 [(6,.int .i64 S.now.cfg.rs),(7,.int .i64 S.now.cfg.rr)]))|refine gz ?_)
 all_goals (
  apply DW.quiet [0,1,2,3,4,5,6,7]
  ·decide +kernel
  ·first | exact fun _ h=>⟨St.sub h subN,_,St.own_at h memZ,by repeat (first | exact trivial | refine ⟨rfl,?_⟩)⟩
  repeat'(first|(apply QL.ev;(·exact rfl);(·first | (apply Ev.kpS;apply Ev.load_agg (b := b1) (o := 0) (cs := x.cells a c) (E := 59) (fr := (0,0));(·exact rfl);(·exact mH _ _);(·exact rfl)) | (apply Ev.loadKA (vs := [.int .i64 S.now.cfg.rs,.int .i64 S.now.cfg.rr]);(·exact rfl);(·exact rfl);(·intro j v hj;match j,hj with | 0,hj=>exact hj | 1,hj=>exact hj)));(·exact rfl))|refine gq ?_|apply QL.nil)
  all_goals (show DW _ _ _ _ _ _ _ _))
 all_goals (
  apply DW.loud 8
  ·exact rfl
  ·decide +kernel
  repeat'(first|refine gw ?_|(apply kq;(·exact rfl);(·intro w1 h1;exact CallsTo.q (show CallsTo Tryz.prog 192 [x.val a c,.agg [.int .i64 S.now.cfg.rs,.int .i64 S.now.cfg.rr].toArray] w1 _ from r192 x a c S.now.cfg.rs S.now.cfg.rr w1 (hr w1 (h1.sub subN)) hI) h1)))
  all_goals (refine At.stage_same (by first | exact fun _ h=>⟨St.sub h subN,_,St.own_at h memZ,by repeat (first | exact trivial | refine ⟨rfl,?_⟩)⟩) ?_))
 all_goals (
  apply DW.quiet [9,10,11,12,13,14]
  ·decide +kernel
  ·first | exact fun _ h=>⟨St.sub h subN,_,St.own_at h memZ,by repeat (first | exact trivial | refine ⟨rfl,?_⟩)⟩
  repeat'(first|refine gq ?_|apply QL.nil)
  all_goals (show DW _ _ _ _ _ _ _ _))
 all_goals (
  apply DW.loud 15
  ·exact rfl
  ·decide +kernel
  repeat'(first|refine gw ?_)
  all_goals (refine At.stage_same (by first | exact fun _ h=>⟨St.sub h subN,_,St.own_at h memZ,by repeat (first | exact trivial | refine ⟨rfl,?_⟩)⟩) ?_))
 all_goals (
  apply DW.quiet [16]
  ·decide +kernel
  ·first | exact fun _ h=>⟨St.sub h subN,_,St.own_at h memZ,by repeat (first | exact trivial | refine ⟨rfl,?_⟩)⟩
  repeat'(first|refine gq ?_|apply QL.nil)
  all_goals (show DW _ _ _ _ _ _ _ _))
 all_goals (first | (apply DW.done_thn;(·decide +kernel)) |fail)
 repeat'(first|(apply CW.reg_sinkC 11;(·exact rfl);(·decide +kernel))|refine gz ?_)
 all_goals (
  apply DW.quiet [0,1,2,3,4,5]
  ·decide +kernel
  ·exact stZ
  repeat'(first|refine gq ?_|apply QL.nil)
  all_goals (show DW _ _ _ _ _ _ _ _))
 all_goals (
  apply DW.loud 6
  ·exact rfl
  ·decide +kernel
  repeat'(first|refine gw ?_|(apply kq;(·exact rfl);(·intro w1 h1;exact CallsTo.q (show CallsTo Tryz.prog 193 [x.val a c] w1 _ from r193 x a c w1 (hr w1 (h1.sub subN)) hI) h1))|fail)
  all_goals (refine ats ?_))
 all_goals (
  apply DW.quiet [7]
  ·decide +kernel
  ·exact stZ
  repeat'(first|refine gq ?_|apply QL.nil)
  all_goals (show DW _ _ _ _ _ _ _ _))
 all_goals (
  apply DW.loud 8
  ·exact rfl
  ·decide +kernel
  repeat'(first|refine gw ?_|(apply LR.call;(·exact rfl);(intro w1 h1;refine CallsTo.mono (show CallsTo Tryz.prog 39 [(plainCfg x.r1 x.r2 x.mem (stampC x)).val] w1 _ from r39 (plainCfg x.r1 x.r2 x.mem (stampC x)) w1) ?_;rintro v w2 ⟨bw2,bm2,rfl,hn⟩;refine LR.back (h1.got hn (wO_dep _ _ _ _ _)) ?_;clear hn h1)))
  all_goals (refine ats ?_))
 all_goals (
  apply DW.quiet [9,10]
  ·decide +kernel
  ·exact stZ
  repeat'(first|refine gq ?_|apply QL.nil)
  all_goals (show DW _ _ _ _ _ _ _ _))
 all_goals (apply DW.done;(·decide +kernel))
 all_goals apply At.sink
 repeat'(first|(apply Go.Hb.kK;(iterate 4 exact rfl);intro bs)|refine gz ?_|(apply LR.call;(·exact rfl);(intro w1 h1;refine CallsTo.mono (show CallsTo Tryz.prog 194 [.pointer (some ⟨A.bw,0,none⟩),.int .i64 (kinC2 x S.now.cfg.rs S.now.cfg.rr).2] w1 _ from g39 A.bw A.bm A.es S.now.aru S.now.high (kinC2 x S.now.cfg.rs S.now.cfg.rr).2 w1 (h1.holds (wO A.bw A.bm A.es S.now.aru S.now.high) memZ) hD hle hB) ?_;rintro v w2 ⟨br,ag,cg,ms,rfl,hms,hn⟩;refine LR.back (h1.got hn (gO_dep _ _ _ _)) ?_;clear hn h1))|fail)
 apply LR.call
 ·exact rfl
 intro w1 h1
 have j1 : St w0 F (gO br ag cg ms :: _) w1 := front h1 1 rfl rfl
 have j2 := j1.repl (a := aN A.ap) selZ
 have j3 : St w0 F (wO bw2 bm2 [] 0 0 :: _) w1 := front j2 1 rfl rfl
 have j4 := j3.repl (a := nN A.np S.next.aru S.next.high) selZ
 have hA1 : RepA { A with np := some (bw2,bm2,[]),ap := some (br,ag,cg,ms) } { S with kin := (kinC2 x S.now.cfg.rs S.now.cfg.rr).1,next := newWay (plainCfg x.r1 x.r2 x.mem (stampC x)),again := some (sendL (abvT (dats A.es) (kinC2 x S.now.cfg.rs S.now.cfg.rr).2)),begun := false } :=
  ⟨hA.q,hA.ql,hA.nd,hA.gp,rfl,by show some _ = some (ms.map MsA.m);rw [hms],hA.pk,hA.ev⟩
 have j5 : St w0 F (rgL b { A with np := some (bw2,bm2,[]),ap := some (br,ag,cg,ms) } { S with kin := (kinC2 x S.now.cfg.rs S.now.cfg.rr).1,next := newWay (plainCfg x.r1 x.r2 x.mem (stampC x)),again := some (sendL (abvT (dats A.es) (kinC2 x S.now.cfg.rs S.now.cfg.rr).2)),begun := false } (_ :: _ :: R)) w1 := rg_mid [_,_] j4
 generalize hS1 : ({ S with kin := (kinC2 x S.now.cfg.rs S.now.cfg.rr).1,next := newWay (plainCfg x.r1 x.r2 x.mem (stampC x)),again := some (sendL (abvT (dats A.es) (kinC2 x S.now.cfg.rs S.now.cfg.rr).2)),begun := false } : Rg) = S1 at *
 refine CallsTo.mono (r57 b _ S1 bs 0 1 [stampC x] w1 j5 (fun w' hw'=>hw'.rd_of_blk (mH _ _)) (by simp)) ?_
 intro v w2 hw2
 refine LR.back hw2 ?_
 repeat'(first|refine gz ?_|(refine LR.makeMapN km130 rfl fun bt=>?_)|(refine LR.insN (g := fun _=>0) (k := 0) (v := 40) km130 rfl rfl rfl (by decide) selZ ?_))
 apply LR.call
 ·exact rfl
 intro w1 h1
 refine CallsTo.mono (r66 b _ (S1.raise (stampC x)) 2 _ losT w1 h1 losT_bd) ?_
 rintro v w2 hw2
 rw [losT_of] at hw2
 refine LR.back hw2 ?_
 repeat'(first|refine gz ?_)
 apply end0
 ·exact rfl
 intro w' hS
 rw [e2]
 exact Nd.le (R := _ :: _ :: R) ⟨_,⟨hA1.q,hA1.ql,hA1.nd,hA1.gp,hA1.np,hA1.ap,hA1.pk,hA1.ev⟩,hS⟩ ((List.sublist_cons_self _ _).trans (List.sublist_cons_self _ _))
end
theorem _root_.Go.Hb.St.rd_at {w0 w : World} {F : Nat → Prop} {L : List Asrt} {b : Nat} {cs : List Value} {E : TypeId} {fr : Nat × Nat} (h : St w0 F L w) (hm : Asrt.own b (.cells cs.toArray E fr) ∈ L) (o n : Nat) : Rd w (some ⟨b,o,none⟩) ((cs.drop o).take n) := by
 intro j v hj
 refine ⟨_,rfl,?_⟩
 rw [addr_add,cell_own (h.own_at hm)]
 rw [List.getElem?_take] at hj
 split at hj
 ·rw [List.getElem?_drop] at hj
  simpa using hj
 ·cases hj
theorem r122 (b o : Nat) (c : Cfg) (d : Dat) (a : Option Addr) (ca : Nat) (w : World) (h : Rd w (some ⟨b,o,none⟩) c.cells) :
  CallsTo Tryz.prog 122 [.pointer (some ⟨b,o,none⟩),d.val a ca] w fun v w'=>v = .bool (decide (c.rs = d.rseq ∧ c.rr = d.rrep) && hasC c.mem d.sender) ∧ Grew w w' := by
 refine go_in (n := 23) (St.rd1 h) Tryz.func122 rfl rfl ?_
 have hcell : ∀ (q : Nat) (v : Value) w',St w NoF [rdA (some ⟨b,o,none⟩) c.cells] w' → c.cells[q]? = some v → w'.cell? ⟨b,o + q,none⟩ = some v := fun q v w' hw' hq=>(hw'.rd_of (mH _ _) : Rd w' (some ⟨b,o,none⟩) c.cells).cell hq
 repeat'(first|refine gz ?_|refine gy fun _=>?_|(apply kq;(·exact rfl);(·intro w1 h1;exact CallsTo.q (show CallsTo Tryz.prog 53 [.int .i64 c.mem,.int .i64 d.sender] w1 _ from q23 c.mem d.sender w1) h1))|(apply LR.ev;(·apply Ev.load (v := .int .i64 c.mem);(·exact rfl);(·exact fun w' hw'=>hcell 4 _ w' (hw'.sub subN) rfl));(·exact rfl))|(apply LR.ev;(·apply Ev.load_agg_at (cs := [.int .i64 c.rs,.int .i64 c.rr]);(·exact rfl);(·exact rfl);(·intro w' hw' j v hj;rw [addr_add];match j,hj with | 0,hj=>exact hcell 0 _ w' (hw'.sub subN) hj | 1,hj=>exact hcell 1 _ w' (hw'.sub subN) hj));(·exact rfl))|(refine gs ?_ ?_;all_goals(intro hc;try simp only[hcs]at hc;try exact abz)))
 ·(apply ret1;(·exact rfl);intro w' hS)
  rw [decide_eq_true hc,Bool.true_and]
  exact ⟨rfl,hS.toKeep⟩
 ·(apply ret1;(·exact rfl);intro w' hS)
  rw [decide_eq_false hc,Bool.false_and]
  exact ⟨rfl,hS.toKeep⟩
theorem odl_nz {w : World} {E sz n c : Nat} {a : Option Addr} {xs : List Value} (h : (odl (.slice a n c) E sz n xs).holds w) : a = none → c = 0 := by
 rintro rfl
 have h2 : ownsAt w E sz (.slice none n c) n xs := h
 rcases h2.2 with ⟨e,_⟩ | ⟨g,o,cap,cur,e,_⟩
 ·simp only [Value.slice.injEq] at e
  exact e.2.2
 ·cases e
section
variable {w0 : World} {F : Nat → Prop} {R : List Asrt}
theorem r127 (b : Nat) (A : RA) (S : Rg) (w : World) (h : St w0 F (rgL b A S R) w) : CallsTo Tryz.prog 127 [.pointer (some ⟨b,0,none⟩)] w fun v w'=>v = .pointer (some ⟨b,if S.state = 2 then 19 else 6,none⟩) ∧ St w0 F (rgL b A S R) w' := by
 refine go_inS (n := 14) h Tryz.func127 rfl rfl ?_
 repeat'(first|refine gz ?_|(refine gs ?_ ?_;all_goals(intro hc;try simp only[hcs]at hc;try exact abz)))
 ·rw [if_pos hc]
  (apply ret1;(·exact rfl);intro w' hS)
  exact ⟨rfl,hS⟩
 ·rw [if_neg hc]
  (apply ret1;(·exact rfl);intro w' hS)
  exact ⟨rfl,hS⟩
theorem r126 (b : Nat) (S : Rg) (r1 r2 sender : Int) (w : World) (h : Nd w0 F b S R w) (hn : 1 ≤ S.node ∧ S.node ≤ 8) (hc : numB S.counter = true) (ho : S.op.length ≤ 1000000) :
  CallsTo Tryz.prog 126 [.pointer (some ⟨b,0,none⟩),.agg [.int .i64 r1,.int .i64 r2].toArray,.int .i64 sender] w fun v w'=>Nd w0 F b (S.foreign r1 r2 sender) R w' := by
 obtain ⟨A,hA,h⟩ := h
 refine go_inS (n := 40) h Tryz.func126 rfl rfl ?_
 have hcc := hc
 clear hc
 unfold Rg.foreign
 repeat'(first|refine gz ?_|refine gy fun _=>?_|(apply kq;(·exact rfl);(·intro w1 h1;exact CallsTo.q (show CallsTo Tryz.prog 53 [.int .i64 S.now.cfg.mem,.int .i64 sender] w1 _ from q23 S.now.cfg.mem sender w1) h1))|(refine gs ?_ ?_;all_goals(intro hc;try simp only[hcs]at hc;try exact abz)))
 all_goals (
  first
   | (apply end0;(·exact rfl);intro w' hS
      rw [if_neg (by
       rintro ⟨h7,h8,h9⟩
       first
        | exact absurd h7 (by assumption)
        | exact h8 (by assumption)
        | exact h9 ⟨by assumption,by assumption⟩)]
      exact ⟨A,hA,hS.sub subN⟩)
   | (rw [if_pos (⟨by assumption,by assumption,fun h9=>by
       first
        | (have h10 := h9.2;omega)
        | (have h10 := h9.1;rw [show hasC S.now.cfg.mem sender = false by assumption] at h10;cases h10)⟩)]
      apply LR.call
      ·exact rfl
      intro w1 h1
      refine CallsTo.mono (r43 b S w1 ⟨A,hA,rg_mid [_,_] h1⟩ hn hcc ho) ?_
      rintro v w2 ⟨A3,hA3,hw2⟩
      refine LR.back hw2 ?_
      repeat'(first|refine gz ?_)
      apply end0
      ·exact rfl
      intro w' hS
      exact Nd.le (R := _ :: _ :: R) ⟨A3,hA3,hS⟩ ((List.sublist_cons_self _ _).trans (List.sublist_cons_self _ _))))
theorem r86 (b : Nat) (S : Rg) (w : World) (h : Nd w0 F b S R w) (hd : S.last.d.msg.body = []) (hc : S.last.c.ents = []) (ha : S.last.t.ask.length ≤ 1000) (ho : S.op.length ≤ 1000000) :
  CallsTo Tryz.prog 86 [.pointer (some ⟨b,0,none⟩)] w fun v w'=>Nd w0 F b S.resend R w' := by
 obtain ⟨A,hA,h⟩ := h
 have hl := hA.op_len
 refine go_inS (n := 17) h Tryz.func86 rfl rfl ?_
 repeat'(first|(apply Go.Hb.kK;(iterate 4 exact rfl);intro bs)|refine gz ?_|refine gy fun _=>?_|(apply LR.call;(·exact rfl);(intro w1 h1;refine CallsTo.mono (show CallsTo Tryz.prog 143 [.slice A.la S.last.t.ask.length A.lc] w1 _ from t52 A.la A.lc S.last.t.ask w1 (h1.rd_of_odl memZ) (odl_nz (h1.holds (lastO A S) memZ)) (by omega)) ?_;rintro v w2 ⟨a2,c2,rfl,hn⟩;refine LR.back (h1.newSl hn) ?_;clear hn h1))|fail)
 apply LR.call
 ·exact rfl
 intro w1 h1
 have j := front (rg_mid [_,_,_] h1) 15 rfl rfl
 refine CallsTo.mono (r118 b A S (some ⟨bs,0,none⟩) 1 ⟨S.last,⟨none,0,a2,c2,none,0⟩⟩ w1 (St.pkT ⟨S.last,⟨none,0,a2,c2,none,0⟩⟩ j ⟨rfl,rfl,hd⟩ ⟨rfl,rfl,hc⟩) (fun w' hw'=>hw'.rd_of_blk (mH _ _)) (by simp) (by omega)) ?_
 rintro v w2 ⟨pa,pc,hw2⟩
 refine LR.back hw2 ?_
 repeat'(first|refine gz ?_)
 apply end0
 ·exact rfl
 intro w' hS
 exact Nd.le (R := _ :: _ :: R) (Nd.mk (hA.sent pa pc ⟨S.last,⟨none,0,a2,c2,none,0⟩⟩) hS) ((List.sublist_cons_self _ _).trans (List.sublist_cons_self _ _))
theorem r134 (b : Nat) (A : RA) (S : Rg) (x : Cmt) (a : Option Addr) (c : Nat) (w : World) (h : St w0 F (rgL b A S R) w) (hr : ∀ w',St w0 F R w' → Rd w' a (x.ents.flatMap Ent.cells)) (hI : memI x.mem) (hl : x.ents.length ≤ 100) (hm : memI S.now.cfg.mem) :
  CallsTo Tryz.prog 134 [.pointer (some ⟨b,0,none⟩),x.val a c] w fun v w'=>v = .bool (S.trusts x) ∧ St w0 F (rgL b A S R) w' := by
 refine go_inS (n := 45) h Tryz.func134 rfl rfl ?_
 repeat'(first|(refine kB' fun b1=>?_)|(apply CW.reg_heldC)|refine gz ?_)
 all_goals (
  apply DW.quiet [0,1,2,3,4,5,6]
  ·decide +kernel
  ·exact stZ
  repeat'(first|refine gq ?_|apply QL.nil)
  all_goals (show DW _ _ _ _ _ _ _ _))
 all_goals (
  apply DW.loud 7
  ·exact rfl
  ·decide +kernel
  repeat'(first|refine gw ?_|(apply kq;(·exact rfl);(·intro w1 h1;exact CallsTo.q (show CallsTo Tryz.prog 192 [x.val a c,.agg [.int .i64 S.now.cfg.rs,.int .i64 S.now.cfg.rr].toArray] w1 _ from r192 x a c S.now.cfg.rs S.now.cfg.rr w1 (hr w1 (h1.sub subN)) hI) h1)))
  all_goals (refine ats ?_))
 all_goals (
  apply DW.quiet [8,9,10,11,12,13,14]
  ·decide +kernel
  ·exact stZ
  repeat'(first|refine gq ?_|apply QL.nil)
  all_goals (show DW _ _ _ _ _ _ _ _))
 all_goals (first | (apply DW.done_thn;(·decide +kernel)) |fail)
 repeat'(first|refine gz ?_)
 apply CW.loop [4,9,25,26,27,28,29,30,31,32,33,34,35,36,37,38,39,40,41,42,43,44] (fun i : Nat=>i ≤ x.ents.length ∧ ∀ k,k < i → ∀ e,x.ents[k]? = some e → sameE e S.own = false) (fun i=>[(25,.int .i64 (i : Int))]) (fun _=>St w0 F (.own b1 (.cells (x.cells a c).toArray 59 (0,0)) :: rgL b A S R)) (fun i=>x.ents.length - i)
 ·exact fun w' hw'=>⟨0,⟨Nat.zero_le _,fun k hk=>by omega⟩,⟨rfl,trivial⟩,hw'⟩
 rintro i g ⟨hi,hno⟩
 have ht : S.trusts x = (x.ents.any (fun e=>sameE e S.own) && decide (andNotI .i64 (kinC2 x S.now.cfg.rs S.now.cfg.rr).1 S.now.cfg.mem = 0)) := rfl
 by_cases hlt : i < x.ents.length
 ·obtain ⟨e,he⟩ : ∃ e,x.ents[i] = e := ⟨_,rfl⟩
  have hei : x.ents[i]? = some e := by rw [List.getElem?_eq_getElem hlt,he]
  obtain ⟨be,oe,rfl⟩ := (hr w (h.sub subN)).form (Go.Hb.rows_ne Ent.cells_len (by omega) hlt)
  have hcl : ∀ w',Rd w' (some ⟨be,oe,none⟩) (x.ents.flatMap Ent.cells) → ∀ j v,e.cells[j]? = some v → w'.cell? ((⟨be,oe + (i : Int).toNat * 6,none⟩ : Addr).add j) = some v := fun w' h=>by
   rw [← he]
   exact Go.Hb.rd_row Ent.cells_len h hlt (by omega)
  repeat'(first|refine gz ?_|refine gy fun _=>?_|(apply idxX;(iterate 2 exact rfl);(iterate 2(first|omega));exact rfl)|(apply addX;(iterate 2 exact rfl);(iterate 2(first|omega));exact rfl)|(apply LR.ev;(·apply Ev.load_agg_at (cs := e.cells);(·exact rfl);(·exact rfl);(·intro w' hw';exact hcl w' (hr w' (hw'.sub subN))));(·exact rfl))|(refine gs ?_ ?_;all_goals(intro hc;try simp only[hcs]at hc;try exact abz)))
  ·(apply ret1;(·exact rfl);intro w' hS)
   refine ⟨?_,hS.sub subN⟩
   have e1 : x.ents.any (fun e=>sameE e S.own) = true := List.any_eq_true.2 ⟨e,List.mem_of_getElem? hei,by
    unfold sameE Ent.nums
    rw [decide_eq_true_eq]
    obtain ⟨k1,k2,k3,k4,k5,k6⟩ : e.node = S.own.node ∧ e.o1 = S.own.o1 ∧ e.o2 = S.own.o2 ∧ e.aru = S.own.aru ∧ e.high = S.own.high ∧ e.clock = S.own.clock := by assumption
    rw [k1,k2,k3,k4,k5,k6]⟩
   rw [ht,e1,Bool.true_and]
   rfl
  ·refine At.again (i + 1) ⟨by omega,fun k hk e2 he2=>?_⟩ ?_ ⟨rfl,trivial⟩ (fun w' hw'=>hw'.sub subN) (by omega)
   ·by_cases hki : k < i
    ·exact hno k hki e2 he2
    ·have hk2 : k = i := by omega
     subst hk2
     rw [hei] at he2
     cases he2
     unfold sameE Ent.nums
     rw [decide_eq_false_iff_not]
     intro h9
     simp only [List.cons.injEq,and_true] at h9
     exact absurd h9 (by assumption)
   ·exact outZ
 ·have hie : i = x.ents.length := by omega
  subst hie
  repeat'(first|refine gz ?_|(refine gs ?_ ?_;all_goals(intro hc;try simp only[hcs]at hc;try exact abz)))
  (apply ret1;(·exact rfl);intro w' hS)
  refine ⟨?_,hS.sub subN⟩
  have e0 : x.ents.any (fun e=>sameE e S.own) = false := by
   rw [Bool.eq_false_iff]
   intro h9
   obtain ⟨y,hy,hy2⟩ := List.any_eq_true.1 h9
   obtain ⟨k,hk⟩ := List.getElem?_of_mem hy
   have := hno k (List.getElem?_eq_some_iff.1 hk).1 y hk
   rw [this] at hy2
   cases hy2
  rw [ht,e0]
  rfl
theorem r81 (b : Nat) (S : Rg) (p : Pkt) (ad : PAd) (w : World) (h : Nd w0 F b S R w) (hn : 1 ≤ S.node ∧ S.node ≤ 8) (hc : numB S.counter = true) (ho : S.op.length ≤ 1000000) :
  CallsTo Tryz.prog 81 [.pointer (some ⟨b,0,none⟩),p.val ad] w fun v w'=>Nd w0 F b (S.foreign p.b1 p.b2 p.b3) R w' := by
 obtain ⟨A,hA,h⟩ := h
 refine go_inS (n := 12) h Tryz.func81 rfl rfl ?_
 repeat'(first|refine gz ?_|refine gy fun _=>?_)
 apply LR.call
 ·exact rfl
 intro w1 h1
 refine CallsTo.mono (r126 b S p.b1 p.b2 p.b3 w1 ⟨A,hA,rg_mid [_] h1⟩ hn hc ho) ?_
 rintro v w2 ⟨A3,hA3,hw2⟩
 refine LR.back hw2 ?_
 repeat'(first|refine gz ?_)
 apply end0
 ·exact rfl
 intro w' hS
 exact Nd.le (R := _ :: R) ⟨A3,hA3,hS⟩ (List.sublist_cons_self _ _)
set_option maxHeartbeats 2000000 in
theorem r79 (b : Nat) (S : Rg) (G : Gth) (p : Pkt) (ad : PAd) (w : World) (h : Nd w0 F b S R w) (hG : S.g = some G) (hJ : GOk G) (hn : 1 ≤ S.node ∧ S.node ≤ 8) (hc : 0 ≤ S.counter ∧ S.counter ≤ maxN) (ho : S.op.length ≤ 800000) (hi : memI p.j2) :
  CallsTo Tryz.prog 79 [.pointer (some ⟨b,0,none⟩),p.val ad] w fun v w'=>Nd w0 F b (S.takeJoin ⟨p.j1,p.j2,p.j3⟩) R w' := by
 obtain ⟨A,hA,h⟩ := h
 have hcn : numB S.counter = true := by unfold numB;unfold maxN at hc;rw [decide_eq_true (by omega),decide_eq_true (by omega)];rfl
 refine go_inS (n := 46) h Tryz.func79 rfl rfl ?_
 have hc0 := hc
 clear hc
 repeat'(first|refine gz ?_|refine gy fun _=>?_|(apply kq;(·exact rfl);(·intro w1 h1;first | exact CallsTo.q (show CallsTo Tryz.prog 53 [.int .i64 S.now.cfg.mem,.int .i64 p.j1] w1 _ from q23 S.now.cfg.mem p.j1 w1) h1 | exact CallsTo.q (show CallsTo Tryz.prog 53 [.int .i64 S.next.cfg.mem,.int .i64 p.j1] w1 _ from q23 S.next.cfg.mem p.j1 w1) h1))|(refine gs ?_ ?_;all_goals(intro hc;try simp only[hcs]at hc;try exact abz)))
 all_goals (
  first
   | (apply ret0
      ·exact rfl
      intro w' hS
      have e : S.takeJoin ⟨p.j1,p.j2,p.j3⟩ = S := by
       unfold Rg.takeJoin
       dsimp only
       rw [if_neg (show ¬ S.state = 0 by assumption)]
       first
        | rw [if_pos (show S.state = 3 by assumption)]
        | rw [if_neg (show ¬ S.state = 3 by assumption)]
       rw [if_pos ⟨by assumption,by assumption⟩]
      rw [e]
      exact ⟨A,hA,hS.sub subN⟩)
   | skip)
 all_goals (
  first
   | (have hs0 : S.state = 0 := by assumption
      have e : S.takeJoin ⟨p.j1,p.j2,p.j3⟩ = S.hear ⟨p.j1,p.j2,p.j3⟩ := by
       unfold Rg.takeJoin
       dsimp only
       rw [if_pos hs0]
      rw [e]
      apply LR.call
      ·exact rfl
      intro w1 h1
      refine CallsTo.mono (r129 b S G ⟨p.j1,p.j2,p.j3⟩ w1 ⟨A,hA,rg_mid [_,_] h1⟩ hG hJ hc0 (by omega) hi) ?_
      rintro v w2 ⟨A3,hA3,hw2⟩
      refine LR.back hw2 ?_
      repeat'(first|refine gz ?_)
      apply end0
      ·exact rfl
      intro w' hS
      exact Nd.le (R := _ :: _ :: R) ⟨A3,hA3,hS⟩ ((List.sublist_cons_self _ _).trans (List.sublist_cons_self _ _)))
   | skip)
 all_goals (
  have e : S.takeJoin ⟨p.j1,p.j2,p.j3⟩ = S.gather.hear ⟨p.j1,p.j2,p.j3⟩ := by
   unfold Rg.takeJoin
   dsimp only
   rw [if_neg (show ¬ S.state = 0 by assumption)]
   first
    | rw [if_pos (show S.state = 3 by assumption)]
    | rw [if_neg (show ¬ S.state = 3 by assumption)]
   rw [if_neg (by
    rintro ⟨h5,h6⟩
    first
     | omega
     | (have h7 : hasC S.now.cfg.mem p.j1 = false := by assumption
        rw [h7] at h5
        cases h5)
     | (have h7 : hasC S.next.cfg.mem p.j1 = false := by assumption
        rw [h7] at h5
        cases h5))]
  rw [e]
  apply LR.call
  ·exact rfl
  intro w1 h1
  refine CallsTo.mono (r43 b S w1 ⟨A,hA,rg_mid [_,_] h1⟩ hn hcn (by omega)) ?_
  rintro v w2 ⟨A3,hA3,hw2⟩
  refine LR.back hw2 ?_
  repeat'(first|refine gz ?_)
  apply LR.call
  ·exact rfl
  intro w1 h1
  refine CallsTo.mono (r129 b S.gather (newG S.node S.counter) ⟨p.j1,p.j2,p.j3⟩ w1 ⟨A3,hA3,h1⟩ rfl ⟨newG_ok _ _ hn,hc0⟩ hc0 (by show (S.op ++ [_]).length ≤ _;rw [List.length_append];show S.op.length + 1 ≤ _;omega) hi) ?_
  rintro v w2 ⟨A4,hA4,hw2⟩
  refine LR.back hw2 ?_
  repeat'(first|refine gz ?_)
  apply end0
  ·exact rfl
  intro w' hS
  exact Nd.le (R := _ :: _ :: R) ⟨A4,hA4,hS⟩ ((List.sublist_cons_self _ _).trans (List.sublist_cons_self _ _)))
end
theorem came_aru {w : Way} {t : Tk} : (w.came t).aru = w.aru := by
 unfold Way.aru
 have e : (w.came t).D = w.D := by
  unfold Way.D Way.came
  dsimp only
  cases w.dat <;> rfl
 rw [e]
theorem came_high {w : Way} {t : Tk} {x : List Dat × Int} (h : w.dat = some x) : (w.came t).high = seeH w.high t.seq := by
 unfold Way.high Way.came
 dsimp only
 rw [h]
 rfl
theorem came_D {w : Way} {t : Tk} : (w.came t).D = w.D := by
 unfold Way.D Way.came
 dsimp only
 cases w.dat <;> rfl
theorem RepA.camen {A : RA} {S : Rg} (h : RepA A S) (t : Tk) : RepA A { S with now := S.now.came t } := by
 refine ⟨h.q,h.ql,?_,h.gp,h.np,h.ap,h.pk,h.ev⟩
 have e := came_high (t := t) h.nd
 show (S.now.came t).dat = some (dats A.es,(S.now.came t).high)
 rw [e]
 unfold Way.came
 dsimp only
 rw [h.nd]
 rfl
theorem RepA.camex {A : RA} {S : Rg} (h : RepA A S) (t : Tk) : RepA A { S with next := S.next.came t } := by
 refine ⟨h.q,h.ql,h.nd,h.gp,?_,h.ap,h.pk,h.ev⟩
 have h2 := h.np
 show (S.next.came t).dat = A.np.map (fun x=>(dats x.2.2,(S.next.came t).high))
 cases hp : A.np with
 | none=>
  rw [hp] at h2
  have h3 : S.next.dat = none := h2
  unfold Way.came
  dsimp only
  rw [h3]
  rfl
 | some p=>
  rw [hp] at h2
  have h3 : S.next.dat = some (dats p.2.2,S.next.high) := h2
  have e := came_high (t := t) h3
  rw [e]
  unfold Way.came
  dsimp only
  rw [h3]
  rfl
theorem iv_snoc (l : List Int) (x : Int) : iv l ++ [Value.int .i64 x] = iv (l ++ [x]) := by unfold iv;rw [List.map_append];rfl
def Rg.sends (S : Rg) (l : List Pkt) : Rg := { S with op := S.op ++ l }
def ansL (D : List Dat) (l : List Int) : List Pkt := (l.filter (hasD D)).map fun s=>dataP (getT D s)
def ansQ (D : List Dat) (t : Tk) : Tk := { t with ask := t.ask.filter fun s=>!hasD D s }
theorem ans_ask (D : List Dat) (t : Tk) : t.ansT (t.ask.filter (hasD D)) = ansQ D t := by
 unfold Tk.ansT ansQ noI
 have e : t.ask.filter (fun y=>!decide (y ∈ t.ask.filter (hasD D))) = t.ask.filter fun s=>!hasD D s := by
  apply List.filter_congr
  intro y hy
  congr 1
  rw [Bool.eq_iff_iff,decide_eq_true_eq,List.mem_filter]
  simp [hy]
 rw [e]
theorem ansL_take {D : List Dat} {l : List Int} {i : Nat} (h : i < l.length) : ansL D (l.take (i + 1)) = ansL D (l.take i) ++ if hasD D l[i] then [dataP (getT D l[i])] else [] := by
 unfold ansL
 rw [take_filter l _ h,List.map_append]
 congr 1
 split <;> rfl
def datAd (a : Option Addr) (c : Nat) : PAd := ⟨a,c,none,0,none,0⟩
theorem RepA.sents {A : RA} {S : Rg} (h : RepA A S) (pa : Option Addr) (pc : Nat) (l : List PkA) : RepA { A with pa := pa,pc := pc,pk := A.pk ++ l } (S.sends (l.map PkA.p)) :=
 ⟨h.q,h.ql,h.nd,h.gp,h.np,h.ap,by show (A.pk ++ l).map PkA.p = S.op ++ l.map PkA.p;rw [List.map_append,h.pk],h.ev⟩
structure Ans where
 i : Nat
 ah : Option Addr
 ch : Nat
 pa : Option Addr
 pc : Nat
 ex : List PkA
section
variable {w0 : World} {F : Nat → Prop} {R : List Asrt}
theorem r176n (b : Nat) (A : RA) (S : Rg) (t : Tk) (a : Option Addr) (c : Nat) (w : World) (h : St w0 F (rgL b A S R) w) (hA : RepA A S) :
  CallsTo Tryz.prog 176 [.pointer (some ⟨b,6,none⟩),t.val a c] w fun v w'=>St w0 F (rgL b A { S with now := S.now.came t } R) w' := by
 have hdat : ∃ x,S.now.dat = some x := ⟨_,hA.nd⟩
 obtain ⟨x0,hx0⟩ := hdat
 refine go_inS (n := 30) h Tryz.func176 rfl rfl ?_
 repeat'(first|(refine kB' fun b1=>?_)|(apply CW.reg_sink 20 (KpC w0 F [.own b1 (.cells (t.cells a c).toArray 54 (0,0))] b 94 [(15,.int .i64 S.now.left),(16,.int .i64 S.now.safe)]);(·exact rfl);(·decide +kernel))|refine gz ?_)
 all_goals (
  apply DW.quiet [0,1,2,3,4,5,6,7,8,9,10,11,12,13]
  ·decide +kernel
  ·first | exact fun _ h=>⟨St.sub h subN,_,St.own_at h memZ,by repeat (first | exact trivial | refine ⟨rfl,?_⟩)⟩
  repeat'(first|(apply QL.ev;(·exact rfl);(·first | (apply Ev.kpS;apply Ev.load_own (b := b1) (cs := t.cells a c) (E := 54) (fr := (0,0));(·exact rfl);(·exact mH _ _);(·exact rfl)) | (apply Ev.loadK;(·exact rfl);(·exact rfl)));(·exact rfl))|refine gq ?_|apply QL.nil)
  all_goals (show DW _ _ _ _ _ _ _ _))
 all_goals (
  apply DW.loud 14
  ·exact rfl
  ·decide +kernel
  repeat'(first|refine gw ?_|(apply kq;(·exact rfl);(·intro w1 h1;exact CallsTo.q (show CallsTo Tryz.prog 234 [.int .i64 S.now.safe,.int .i64 S.now.left,.int .i64 t.aru] w1 _ from t23 S.now.safe S.now.left t.aru w1) h1)))
  all_goals (refine At.stage_same (by first | exact fun _ h=>⟨St.sub h subN,_,St.own_at h memZ,by repeat (first | exact trivial | refine ⟨rfl,?_⟩)⟩) ?_))
 all_goals (
  apply DW.quiet [15,16]
  ·decide +kernel
  ·first | exact fun _ h=>⟨St.sub h subN,_,St.own_at h memZ,by repeat (first | exact trivial | refine ⟨rfl,?_⟩)⟩
  repeat'(first|refine gq ?_|apply QL.nil)
  all_goals (show DW _ _ _ _ _ _ _ _))
 all_goals (
  apply DW.loud 17
  ·exact rfl
  ·decide +kernel
  repeat'(first|refine gw ?_)
  all_goals (refine At.stage_same (by first | exact fun _ h=>⟨St.sub h subN,_,St.own_at h memZ,by repeat (first | exact trivial | refine ⟨rfl,?_⟩)⟩) ?_))
 all_goals (
  apply DW.quiet [18,19]
  ·decide +kernel
  ·first | exact fun _ h=>⟨St.sub h subN,_,St.own_at h memZ,by repeat (first | exact trivial | refine ⟨rfl,?_⟩)⟩
  repeat'(first|refine gq ?_|apply QL.nil)
  all_goals (show DW _ _ _ _ _ _ _ _))
 all_goals (apply DW.done;(·decide +kernel))
 all_goals apply At.sink
 repeat'(first|(apply CW.reg_sinkC 6;(·exact rfl);(·decide +kernel))|refine gz ?_)
 all_goals (
  apply DW.quiet [0,1,2,3,4,5]
  ·decide +kernel
  ·exact stZ
  repeat'(first|refine gq ?_|apply QL.nil)
  all_goals (show DW _ _ _ _ _ _ _ _))
 all_goals (apply DW.done;(·decide +kernel))
 all_goals apply At.sink
 apply LR.call
 ·exact rfl
 intro w1 h1
 refine CallsTo.mono (show CallsTo Tryz.prog 235 [.pointer (some ⟨A.bw,0,none⟩),.int .i64 t.seq] w1 _ from t26 A.bw A.bm A.es S.now.aru S.now.high t.seq w1 (h1.holds (wO A.bw A.bm A.es S.now.aru S.now.high) memZ)) ?_
 rintro v w2 ⟨rfl,st⟩
 refine LR.back (h1.did (a := wO A.bw A.bm A.es S.now.aru S.now.high) selZ rfl st (wO_dep _ _ _ _ _)) ?_
 clear st h1
 have e1 := came_high (t := t) hx0
 have e2 := came_aru (w := S.now) (t := t)
 rw [← e1,← e2]
 repeat'(first|refine gz ?_)
 apply end0
 ·exact rfl
 intro w' hS
 exact hS.sub subN
theorem r176x (b : Nat) (Y : RA) (S : Rg) (t : Tk) (a : Option Addr) (c : Nat) (w : World) (p : Nat × Nat × List DaA) (h : St w0 F (rgL b { Y with np := some p } S R) w) (hA : RepA { Y with np := some p } S) :
  CallsTo Tryz.prog 176 [.pointer (some ⟨b,19,none⟩),t.val a c] w fun v w'=>St w0 F (rgL b { Y with np := some p } { S with next := S.next.came t } R) w' := by
 have hdat : ∃ x,S.next.dat = some x := ⟨_,hA.np⟩
 obtain ⟨x0,hx0⟩ := hdat
 refine go_inS (n := 30) h Tryz.func176 rfl rfl ?_
 repeat'(first|(refine kB' fun b1=>?_)|(apply CW.reg_sink 20 (KpC w0 F [.own b1 (.cells (t.cells a c).toArray 54 (0,0))] b 94 [(28,.int .i64 S.next.left),(29,.int .i64 S.next.safe)]);(·exact rfl);(·decide +kernel))|refine gz ?_)
 all_goals (
  apply DW.quiet [0,1,2,3,4,5,6,7,8,9,10,11,12,13]
  ·decide +kernel
  ·first | exact fun _ h=>⟨St.sub h subN,_,St.own_at h memZ,by repeat (first | exact trivial | refine ⟨rfl,?_⟩)⟩
  repeat'(first|(apply QL.ev;(·exact rfl);(·first | (apply Ev.kpS;apply Ev.load_own (b := b1) (cs := t.cells a c) (E := 54) (fr := (0,0));(·exact rfl);(·exact mH _ _);(·exact rfl)) | (apply Ev.loadK;(·exact rfl);(·exact rfl)));(·exact rfl))|refine gq ?_|apply QL.nil)
  all_goals (show DW _ _ _ _ _ _ _ _))
 all_goals (
  apply DW.loud 14
  ·exact rfl
  ·decide +kernel
  repeat'(first|refine gw ?_|(apply kq;(·exact rfl);(·intro w1 h1;exact CallsTo.q (show CallsTo Tryz.prog 234 [.int .i64 S.next.safe,.int .i64 S.next.left,.int .i64 t.aru] w1 _ from t23 S.next.safe S.next.left t.aru w1) h1)))
  all_goals (refine At.stage_same (by first | exact fun _ h=>⟨St.sub h subN,_,St.own_at h memZ,by repeat (first | exact trivial | refine ⟨rfl,?_⟩)⟩) ?_))
 all_goals (
  apply DW.quiet [15,16]
  ·decide +kernel
  ·first | exact fun _ h=>⟨St.sub h subN,_,St.own_at h memZ,by repeat (first | exact trivial | refine ⟨rfl,?_⟩)⟩
  repeat'(first|refine gq ?_|apply QL.nil)
  all_goals (show DW _ _ _ _ _ _ _ _))
 all_goals (
  apply DW.loud 17
  ·exact rfl
  ·decide +kernel
  repeat'(first|refine gw ?_)
  all_goals (refine At.stage_same (by first | exact fun _ h=>⟨St.sub h subN,_,St.own_at h memZ,by repeat (first | exact trivial | refine ⟨rfl,?_⟩)⟩) ?_))
 all_goals (
  apply DW.quiet [18,19]
  ·decide +kernel
  ·first | exact fun _ h=>⟨St.sub h subN,_,St.own_at h memZ,by repeat (first | exact trivial | refine ⟨rfl,?_⟩)⟩
  repeat'(first|refine gq ?_|apply QL.nil)
  all_goals (show DW _ _ _ _ _ _ _ _))
 all_goals (apply DW.done;(·decide +kernel))
 all_goals apply At.sink
 repeat'(first|(apply CW.reg_sinkC 6;(·exact rfl);(·decide +kernel))|refine gz ?_)
 all_goals (
  apply DW.quiet [0,1,2,3,4,5]
  ·decide +kernel
  ·exact stZ
  repeat'(first|refine gq ?_|apply QL.nil)
  all_goals (show DW _ _ _ _ _ _ _ _))
 all_goals (apply DW.done;(·decide +kernel))
 all_goals apply At.sink
 apply LR.call
 ·exact rfl
 intro w1 h1
 refine CallsTo.mono (show CallsTo Tryz.prog 235 [.pointer (some ⟨p.1,0,none⟩),.int .i64 t.seq] w1 _ from t26 p.1 p.2.1 p.2.2 S.next.aru S.next.high t.seq w1 (h1.holds (wO p.1 p.2.1 p.2.2 S.next.aru S.next.high) memZ)) ?_
 rintro v w2 ⟨rfl,st⟩
 refine LR.back (h1.did (a := wO p.1 p.2.1 p.2.2 S.next.aru S.next.high) selZ rfl st (wO_dep _ _ _ _ _)) ?_
 clear st h1
 have e1 := came_high (t := t) hx0
 have e2 := came_aru (w := S.next) (t := t)
 rw [← e1,← e2]
 repeat'(first|refine gz ?_)
 apply end0
 ·exact rfl
 intro w' hS
 exact hS.sub subN
set_option maxHeartbeats 4000000 in
theorem r178n (b : Nat) (A : RA) (S : Rg) (t : Tk) (a : Option Addr) (c : Nat) (w : World) (h : St w0 F (rgL b A S R) w) (hA : RepA A S) (hD : WOk (dats A.es)) (hr : ∀ w',St w0 F R w' → Rd w' a (iv t.ask)) (hz : a = none → c = 0) (hl : t.ask.length ≤ 1000) (ho : S.op.length ≤ 800000) :
  CallsTo Tryz.prog 178 [.pointer (some ⟨b,0,none⟩),.pointer (some ⟨b,6,none⟩),t.val a c] w fun v w'=>∃ a' c' pa pc ex,v = (ansQ (dats A.es) t).val a' c' ∧ ex.map PkA.p = ansL (dats A.es) t.ask ∧ St w0 F (osl (.slice a' (ansQ (dats A.es) t).ask.length c') 3 1 (ansQ (dats A.es) t).ask.length (iv (ansQ (dats A.es) t).ask) :: rgL b { (A : RA) with pa := pa,pc := pc,pk := A.pk ++ ex } (S.sends (ex.map PkA.p)) R) w' := by
 have hop : A.pk.length = S.op.length := hA.op_len
 refine go_inS (n := 42) h Tryz.func178 rfl rfl ?_
 repeat'(first|refine gz ?_|refine gy fun _=>?_)
 rename_i b5 b6
 apply CW.loop [7,9,10,11,15,16,17,18,19,20,21,22,23,24,25,26,27,28,29,30,31,32,33,34,35,36,37,38] (fun s : Ans=>s.i ≤ t.ask.length ∧ s.ex.length ≤ s.i ∧ s.ex.map PkA.p = ansL (dats A.es) (t.ask.take s.i)) (fun s=>[(15,.int .i64 (s.i : Int)),(7,.slice s.ah ((t.ask.take s.i).filter (hasD (dats A.es))).length s.ch)])
  (fun s=>St w0 F (osl (.slice s.ah ((t.ask.take s.i).filter (hasD (dats A.es))).length s.ch) 3 1 ((t.ask.take s.i).filter (hasD (dats A.es))).length (iv ((t.ask.take s.i).filter (hasD (dats A.es)))) :: .own b6 (.cells (noTk.cells none 0).toArray 54 (0,0)) :: .own b5 (.cells (t.cells a c).toArray 54 (0,0)) :: rgL b { (A : RA) with pa := s.pa,pc := s.pc,pk := A.pk ++ s.ex } (S.sends (s.ex.map PkA.p)) R)) (fun s=>t.ask.length - s.i)
 ·refine fun w' hw'=>⟨⟨0,none,0,A.pa,A.pc,[]⟩,⟨Nat.zero_le _,by simp,rfl⟩,⟨rfl,rfl,trivial⟩,?_⟩
  have e1 : ({ (A : RA) with pa := A.pa,pc := A.pc,pk := A.pk ++ [] } : RA) = A := by simp
  have e2 : S.sends (([] : List PkA).map PkA.p) = S := by unfold Rg.sends;simp
  simp only [e1,e2]
  exact hw'.nilsl 3 1
 rintro ⟨i,ah,ch,pa,pc,ex⟩ g ⟨hi,hxl,hex⟩
 simp only at hi hxl hex ⊢
 by_cases hlt : i < t.ask.length
 ·obtain ⟨y,hy⟩ : ∃ y,t.ask[i] = y := ⟨_,rfl⟩
  have hly : t.ask[i]? = some y := by rw [List.getElem?_eq_getElem hlt,hy]
  obtain ⟨ba,oa,rfl⟩ := (hr w (h.sub subN)).form (fun e=>by have h1 := congrArg List.length e;rw [iv_length,List.length_nil] at h1;omega)
  have hst := take_filter t.ask (hasD (dats A.es)) hlt
  have hsx := ansL_take (D := dats A.es) hlt
  have hfl : ((t.ask.take i).filter (hasD (dats A.es))).length ≤ 1000 := Nat.le_trans (List.length_filter_le _ _) (by rw [List.length_take];omega)
  rw [hy] at hst hsx
  have hex2 := hex
  generalize (t.ask.take i).filter (hasD (dats A.es)) = H at *
  cases hx : hasD (dats A.es) y
  ·rw [hx] at hst hsx
   simp only [Bool.false_eq_true,if_false,List.append_nil] at hst hsx
   repeat'(first|refine gz ?_|refine gy fun _=>?_|(apply idxX;(iterate 2 exact rfl);(iterate 2(first|omega));exact rfl)|(apply addX;(iterate 2 exact rfl);(iterate 2(first|omega));exact rfl)|(apply LR.ev;(·apply Ev.load;(·exact rfl);(·intro w' hw';refine iv_cell (hr w' (hw'.sub subN)) hly ?_;(·simp;done)));(·exact rfl))|(apply LR.call;(·exact rfl);(intro w1 h1;have hq := t32 A.bw A.bm A.es S.now.aru S.now.high y w1 (h1.holds (wO A.bw A.bm A.es S.now.aru S.now.high) memZ) hD;rw [hx] at hq;refine CallsTo.mono (show CallsTo Tryz.prog 171 [.pointer (some ⟨A.bw,0,none⟩),.int .i64 y] w1 _ from hq) ?_;rintro v w2 ⟨a2,c2,rfl,hn⟩;refine LR.back (h1.newSl hn) ?_;clear hn h1 hq))|(refine gs ?_ ?_;all_goals(intro hc;try simp only[hcs]at hc;try exact abz)))
   refine At.again (⟨i + 1,ah,ch,pa,pc,ex⟩ : Ans) ⟨by show i + 1 ≤ _;omega,by show ex.length ≤ i + 1;omega,by show ex.map PkA.p = ansL (dats A.es) (t.ask.take (i + 1));rw [hsx];exact hex2⟩ ?_ ⟨rfl,?_,trivial⟩ (fun w' hw'=>?_) (by show t.ask.length - (i + 1) < t.ask.length - i;omega)
   ·exact outZ
   ·simp only [hst];rfl
   ·simp only [hst]
    exact hw'.sub subN
  ·rw [hx] at hst hsx
   simp only [if_true] at hst hsx
   repeat'(first|(apply Go.Hb.kK;(iterate 4 exact rfl);intro bs)|refine gz ?_|refine gy fun _=>?_|(apply idxX;(iterate 2 exact rfl);(iterate 2(first|omega));exact rfl)|(apply LR.ev;(·apply Ev.load;(·exact rfl);(·intro w' hw';refine iv_cell (hr w' (hw'.sub subN)) hly ?_;(·simp;done)));(·exact rfl))|(apply LR.call;(·exact rfl);(intro w1 h1;have hq := t32 A.bw A.bm A.es S.now.aru S.now.high y w1 (h1.holds (wO A.bw A.bm A.es S.now.aru S.now.high) memZ) hD;rw [hx] at hq;refine CallsTo.mono (show CallsTo Tryz.prog 171 [.pointer (some ⟨A.bw,0,none⟩),.int .i64 y] w1 _ from hq) ?_;rintro v w2 ⟨a2,c2,rfl,hn⟩;refine LR.back (h1.newSl hn) ?_;clear hn h1 hq))|(apply LR.append (xs := iv H) (news := [.int .i64 y]) (m := 1);(·exact rfl);(·exact rfl);(·intro a' c';exact selZ);(·exact fun w' hw'=>hw'.rd_of_blk (mH _ _));(·exact fun hx=>by cases hx);(·exact rfl);(·exact rfl);(·omega);(·unfold maxLen;omega);(·exact rfl);(intro a4 c4))|(refine gs ?_ ?_;all_goals(intro hc;try simp only[hcs]at hc;try exact abz)))
   apply LR.call
   ·exact rfl
   intro w1 h1
   have j := front (rg_mid [_,_,_,_,_,_,_] h1) 17 rfl rfl
   refine CallsTo.mono (r118 b { (A : RA) with pa := pa,pc := pc,pk := A.pk ++ ex } (S.sends (ex.map PkA.p)) (some ⟨bs,0,none⟩) 1 ⟨dataP (getT (dats A.es) y),datAd a2 c2⟩ w1 (St.pkD ⟨dataP (getT (dats A.es) y),datAd a2 c2⟩ j ⟨rfl,rfl,rfl⟩ ⟨rfl,rfl,rfl⟩) (fun w' hw'=>hw'.rd_of_blk (mH _ _)) (by simp) (by show (A.pk ++ ex).length ≤ _;rw [List.length_append];omega)) ?_
   rintro v w2 ⟨pa2,pc2,hw2⟩
   refine LR.back hw2 ?_
   repeat'(first|refine gz ?_|(apply addX;(iterate 2 exact rfl);(iterate 2(first|omega));exact rfl))
   refine At.again (⟨i + 1,a4,c4,pa2,pc2,ex ++ [⟨dataP (getT (dats A.es) y),datAd a2 c2⟩]⟩ : Ans) ⟨by show i + 1 ≤ _;omega,by show (ex ++ [_]).length ≤ i + 1;rw [List.length_append];show ex.length + 1 ≤ _;omega,by show (ex ++ [_]).map PkA.p = ansL (dats A.es) (t.ask.take (i + 1));rw [hsx,List.map_append,hex2];rfl⟩ ?_ ⟨rfl,?_,trivial⟩ (fun w' hw'=>?_) (by show t.ask.length - (i + 1) < t.ask.length - i;omega)
   ·exact outZ
   ·simp only [hst,List.length_append];rfl
   ·simp only [hst]
    have e1 : (S.sends (ex.map PkA.p)).send (dataP (getT (dats A.es) y)) = S.sends ((ex ++ [(⟨dataP (getT (dats A.es) y),datAd a2 c2⟩ : PkA)]).map PkA.p) := by unfold Rg.sends Rg.send;simp
    rw [e1] at hw'
    simp only [List.append_assoc] at hw'
    have j1 := front (front (front hw' 19 rfl rfl) 19 rfl rfl) 19 rfl rfl
    have e2 : osl (.slice a4 (H.length + 1) c4) 3 1 (H.length + 1) (iv H ++ [.int .i64 y]) = osl (.slice a4 (H ++ [y]).length c4) 3 1 (H ++ [y]).length (iv (H ++ [y])) := by rw [iv_snoc,List.length_append];rfl
    rw [← e2]
    exact j1.sub subN
 ·have hie : i = t.ask.length := by omega
  subst hie
  rw [List.take_length] at hex ⊢
  have hfl : (t.ask.filter (hasD (dats A.es))).length ≤ 1000 := Nat.le_trans (List.length_filter_le _ _) hl
  have ea := ans_ask (dats A.es) t
  generalize t.ask.filter (hasD (dats A.es)) = H at *
  repeat'(first|refine gz ?_|(apply LR.call;(·exact rfl);(intro w1 h1;have hq := r238 t a c ah ch H w1 (hr w1 (h1.sub subN)) hz (by omega) (h1.rd_of_own memZ) (by omega);rw [ea] at hq;refine CallsTo.mono (show CallsTo Tryz.prog 238 [t.val a c,.slice ah H.length ch] w1 _ from hq) ?_;rintro v w2 ⟨a9,c9,rfl,hn⟩;refine LR.back (h1.newSl hn) ?_;clear hn h1 hq))|(refine gs ?_ ?_;all_goals(intro hc;try simp only[hcs]at hc;try exact abz)))
  (apply ret1c;(·exact rfl);(·exact inferInstance);(·exact rfl);(·exact memY);(·exact rfl);intro w' hS)
  exact ⟨a9,c9,pa,pc,ex,rfl,hex,hS.sub subN⟩
set_option maxHeartbeats 4000000 in
theorem r178x (b : Nat) (Y : RA) (S : Rg) (t : Tk) (a : Option Addr) (c : Nat) (w : World) (p : Nat × Nat × List DaA) (h : St w0 F (rgL b { Y with np := some p } S R) w) (hA : RepA { Y with np := some p } S) (hD : WOk (dats p.2.2)) (hr : ∀ w',St w0 F R w' → Rd w' a (iv t.ask)) (hz : a = none → c = 0) (hl : t.ask.length ≤ 1000) (ho : S.op.length ≤ 800000) :
  CallsTo Tryz.prog 178 [.pointer (some ⟨b,0,none⟩),.pointer (some ⟨b,19,none⟩),t.val a c] w fun v w'=>∃ a' c' pa pc ex,v = (ansQ (dats p.2.2) t).val a' c' ∧ ex.map PkA.p = ansL (dats p.2.2) t.ask ∧ St w0 F (osl (.slice a' (ansQ (dats p.2.2) t).ask.length c') 3 1 (ansQ (dats p.2.2) t).ask.length (iv (ansQ (dats p.2.2) t).ask) :: rgL b { ({ Y with np := some p } : RA) with pa := pa,pc := pc,pk := Y.pk ++ ex } (S.sends (ex.map PkA.p)) R) w' := by
 have hop : Y.pk.length = S.op.length := hA.op_len
 refine go_inS (n := 42) h Tryz.func178 rfl rfl ?_
 repeat'(first|refine gz ?_|refine gy fun _=>?_)
 rename_i b5 b6
 apply CW.loop [7,9,10,11,15,16,17,18,19,20,21,22,23,24,25,26,27,28,29,30,31,32,33,34,35,36,37,38] (fun s : Ans=>s.i ≤ t.ask.length ∧ s.ex.length ≤ s.i ∧ s.ex.map PkA.p = ansL (dats p.2.2) (t.ask.take s.i)) (fun s=>[(15,.int .i64 (s.i : Int)),(7,.slice s.ah ((t.ask.take s.i).filter (hasD (dats p.2.2))).length s.ch)])
  (fun s=>St w0 F (osl (.slice s.ah ((t.ask.take s.i).filter (hasD (dats p.2.2))).length s.ch) 3 1 ((t.ask.take s.i).filter (hasD (dats p.2.2))).length (iv ((t.ask.take s.i).filter (hasD (dats p.2.2)))) :: .own b6 (.cells (noTk.cells none 0).toArray 54 (0,0)) :: .own b5 (.cells (t.cells a c).toArray 54 (0,0)) :: rgL b { ({ Y with np := some p } : RA) with pa := s.pa,pc := s.pc,pk := Y.pk ++ s.ex } (S.sends (s.ex.map PkA.p)) R)) (fun s=>t.ask.length - s.i)
 ·refine fun w' hw'=>⟨⟨0,none,0,Y.pa,Y.pc,[]⟩,⟨Nat.zero_le _,by simp,rfl⟩,⟨rfl,rfl,trivial⟩,?_⟩
  have e1 : ({ ({ Y with np := some p } : RA) with pa := Y.pa,pc := Y.pc,pk := Y.pk ++ [] } : RA) = { Y with np := some p } := by simp
  have e2 : S.sends (([] : List PkA).map PkA.p) = S := by unfold Rg.sends;simp
  simp only [e1,e2]
  exact hw'.nilsl 3 1
 rintro ⟨i,ah,ch,pa,pc,ex⟩ g ⟨hi,hxl,hex⟩
 simp only at hi hxl hex ⊢
 by_cases hlt : i < t.ask.length
 ·obtain ⟨y,hy⟩ : ∃ y,t.ask[i] = y := ⟨_,rfl⟩
  have hly : t.ask[i]? = some y := by rw [List.getElem?_eq_getElem hlt,hy]
  obtain ⟨ba,oa,rfl⟩ := (hr w (h.sub subN)).form (fun e=>by have h1 := congrArg List.length e;rw [iv_length,List.length_nil] at h1;omega)
  have hst := take_filter t.ask (hasD (dats p.2.2)) hlt
  have hsx := ansL_take (D := dats p.2.2) hlt
  have hfl : ((t.ask.take i).filter (hasD (dats p.2.2))).length ≤ 1000 := Nat.le_trans (List.length_filter_le _ _) (by rw [List.length_take];omega)
  rw [hy] at hst hsx
  have hex2 := hex
  generalize (t.ask.take i).filter (hasD (dats p.2.2)) = H at *
  cases hx : hasD (dats p.2.2) y
  ·rw [hx] at hst hsx
   simp only [Bool.false_eq_true,if_false,List.append_nil] at hst hsx
   repeat'(first|refine gz ?_|refine gy fun _=>?_|(apply idxX;(iterate 2 exact rfl);(iterate 2(first|omega));exact rfl)|(apply addX;(iterate 2 exact rfl);(iterate 2(first|omega));exact rfl)|(apply LR.ev;(·apply Ev.load;(·exact rfl);(·intro w' hw';refine iv_cell (hr w' (hw'.sub subN)) hly ?_;(·simp;done)));(·exact rfl))|(apply LR.call;(·exact rfl);(intro w1 h1;have hq := t32 p.1 p.2.1 p.2.2 S.next.aru S.next.high y w1 (h1.holds (wO p.1 p.2.1 p.2.2 S.next.aru S.next.high) memZ) hD;rw [hx] at hq;refine CallsTo.mono (show CallsTo Tryz.prog 171 [.pointer (some ⟨p.1,0,none⟩),.int .i64 y] w1 _ from hq) ?_;rintro v w2 ⟨a2,c2,rfl,hn⟩;refine LR.back (h1.newSl hn) ?_;clear hn h1 hq))|(refine gs ?_ ?_;all_goals(intro hc;try simp only[hcs]at hc;try exact abz)))
   refine At.again (⟨i + 1,ah,ch,pa,pc,ex⟩ : Ans) ⟨by show i + 1 ≤ _;omega,by show ex.length ≤ i + 1;omega,by show ex.map PkA.p = ansL (dats p.2.2) (t.ask.take (i + 1));rw [hsx];exact hex2⟩ ?_ ⟨rfl,?_,trivial⟩ (fun w' hw'=>?_) (by show t.ask.length - (i + 1) < t.ask.length - i;omega)
   ·exact outZ
   ·simp only [hst];rfl
   ·simp only [hst]
    exact hw'.sub subN
  ·rw [hx] at hst hsx
   simp only [if_true] at hst hsx
   repeat'(first|(apply Go.Hb.kK;(iterate 4 exact rfl);intro bs)|refine gz ?_|refine gy fun _=>?_|(apply idxX;(iterate 2 exact rfl);(iterate 2(first|omega));exact rfl)|(apply LR.ev;(·apply Ev.load;(·exact rfl);(·intro w' hw';refine iv_cell (hr w' (hw'.sub subN)) hly ?_;(·simp;done)));(·exact rfl))|(apply LR.call;(·exact rfl);(intro w1 h1;have hq := t32 p.1 p.2.1 p.2.2 S.next.aru S.next.high y w1 (h1.holds (wO p.1 p.2.1 p.2.2 S.next.aru S.next.high) memZ) hD;rw [hx] at hq;refine CallsTo.mono (show CallsTo Tryz.prog 171 [.pointer (some ⟨p.1,0,none⟩),.int .i64 y] w1 _ from hq) ?_;rintro v w2 ⟨a2,c2,rfl,hn⟩;refine LR.back (h1.newSl hn) ?_;clear hn h1 hq))|(apply LR.append (xs := iv H) (news := [.int .i64 y]) (m := 1);(·exact rfl);(·exact rfl);(·intro a' c';exact selZ);(·exact fun w' hw'=>hw'.rd_of_blk (mH _ _));(·exact fun hx=>by cases hx);(·exact rfl);(·exact rfl);(·omega);(·unfold maxLen;omega);(·exact rfl);(intro a4 c4))|(refine gs ?_ ?_;all_goals(intro hc;try simp only[hcs]at hc;try exact abz)))
   apply LR.call
   ·exact rfl
   intro w1 h1
   have j := front (rg_mid [_,_,_,_,_,_,_] h1) 17 rfl rfl
   refine CallsTo.mono (r118 b { ({ Y with np := some p } : RA) with pa := pa,pc := pc,pk := Y.pk ++ ex } (S.sends (ex.map PkA.p)) (some ⟨bs,0,none⟩) 1 ⟨dataP (getT (dats p.2.2) y),datAd a2 c2⟩ w1 (St.pkD ⟨dataP (getT (dats p.2.2) y),datAd a2 c2⟩ j ⟨rfl,rfl,rfl⟩ ⟨rfl,rfl,rfl⟩) (fun w' hw'=>hw'.rd_of_blk (mH _ _)) (by simp) (by show (Y.pk ++ ex).length ≤ _;rw [List.length_append];omega)) ?_
   rintro v w2 ⟨pa2,pc2,hw2⟩
   refine LR.back hw2 ?_
   repeat'(first|refine gz ?_|(apply addX;(iterate 2 exact rfl);(iterate 2(first|omega));exact rfl))
   refine At.again (⟨i + 1,a4,c4,pa2,pc2,ex ++ [⟨dataP (getT (dats p.2.2) y),datAd a2 c2⟩]⟩ : Ans) ⟨by show i + 1 ≤ _;omega,by show (ex ++ [_]).length ≤ i + 1;rw [List.length_append];show ex.length + 1 ≤ _;omega,by show (ex ++ [_]).map PkA.p = ansL (dats p.2.2) (t.ask.take (i + 1));rw [hsx,List.map_append,hex2];rfl⟩ ?_ ⟨rfl,?_,trivial⟩ (fun w' hw'=>?_) (by show t.ask.length - (i + 1) < t.ask.length - i;omega)
   ·exact outZ
   ·simp only [hst,List.length_append];rfl
   ·simp only [hst]
    have e1 : (S.sends (ex.map PkA.p)).send (dataP (getT (dats p.2.2) y)) = S.sends ((ex ++ [(⟨dataP (getT (dats p.2.2) y),datAd a2 c2⟩ : PkA)]).map PkA.p) := by unfold Rg.sends Rg.send;simp
    rw [e1] at hw'
    simp only [List.append_assoc] at hw'
    have j1 := front (front (front hw' 19 rfl rfl) 19 rfl rfl) 19 rfl rfl
    have e2 : osl (.slice a4 (H.length + 1) c4) 3 1 (H.length + 1) (iv H ++ [.int .i64 y]) = osl (.slice a4 (H ++ [y]).length c4) 3 1 (H ++ [y]).length (iv (H ++ [y])) := by rw [iv_snoc,List.length_append];rfl
    rw [← e2]
    exact j1.sub subN
 ·have hie : i = t.ask.length := by omega
  subst hie
  rw [List.take_length] at hex ⊢
  have hfl : (t.ask.filter (hasD (dats p.2.2))).length ≤ 1000 := Nat.le_trans (List.length_filter_le _ _) hl
  have ea := ans_ask (dats p.2.2) t
  generalize t.ask.filter (hasD (dats p.2.2)) = H at *
  repeat'(first|refine gz ?_|(apply LR.call;(·exact rfl);(intro w1 h1;have hq := r238 t a c ah ch H w1 (hr w1 (h1.sub subN)) hz (by omega) (h1.rd_of_own memZ) (by omega);rw [ea] at hq;refine CallsTo.mono (show CallsTo Tryz.prog 238 [t.val a c,.slice ah H.length ch] w1 _ from hq) ?_;rintro v w2 ⟨a9,c9,rfl,hn⟩;refine LR.back (h1.newSl hn) ?_;clear hn h1 hq))|(refine gs ?_ ?_;all_goals(intro hc;try simp only[hcs]at hc;try exact abz)))
  (apply ret1c;(·exact rfl);(·exact inferInstance);(·exact rfl);(·exact memY);(·exact rfl);intro w' hS)
  exact ⟨a9,c9,pa,pc,ex,rfl,hex,hS.sub subN⟩
end
end Go.Proofs.YtohbcfokihplbaaGreatDoor
namespace Go.Proofs.YtohbcfokihplbaaGreatDoor
open Go.Hb
theorem run_call_pre {P : Program} {f : Frm} {T : TypeId} {p : String} {af : Array Edge} {g : FuncId} {xs : List Operand} {ts : Array TypeId} {dst : Option Tmp} {gd : Option (Nat × Bool)} (w : World) {x : Operand} {pre : List Value}
  (hx : f.ev x = .func (.func g) pre.toArray #[]) (own : Own P g) :
  (execOp f.ev ⟨dst,.call ⟨.value x,xs.toArray,ts⟩,T,p,af,gd⟩).run P w = .ok (.enter g (pre ++ xs.map f.ev).toArray) w := by
 have e1 : (xs.toArray.map f.ev) = (xs.map f.ev).toArray := by simp
 have e2 : (pre.toArray ++ (xs.map f.ev).toArray : Array Value) ++ #[] = (pre ++ xs.map f.ev).toArray := by simp
 simp only [execOp,resolve,hx,Deferred.ofValue,e1]
 show Sem.run P (callFunc g ((pre.toArray ++ (xs.map f.ev).toArray : Array Value) ++ #[])) w = _
 rw [e2]
 exact own.enters _ w
theorem LR.call_pre {P : Program} {n : Nat} {ops rest : List Oper} {Q : Post} {f : Frm} {C : World → Prop} {T : TypeId} {p : String} {af : Array Edge} {d : Nat} {g : FuncId} {xs : List Operand} {ts : Array TypeId} {x : Operand} {pre : List Value} (hx : f.ev x = .func (.func g) pre.toArray #[]) [own : Own P g] (hd : Nat.blt d n = true)
  (h : ∀ w,C w → CallsTo P g (pre ++ xs.map f.ev) w fun v w'=>LW P n ops rest Q (upd f d v) (fun u=>u = w')) :
  LR false P n ops (⟨some d,.call ⟨.value x,xs.toArray,ts⟩,T,p,af,none⟩ :: rest) Q f C := by
 intro w hw a ha
 refine wpList_plain rfl fun K hK=>?_
 have hr := run_call_pre (T := T) (p := p) (af := af) (ts := ts) (dst := some d) (gd := none) (xs := xs) w hx own
 rw [← ha.eval] at hr
 simp only [Oper.wp,hr,Oper.upon_enter]
 rw [ha.eval]
 refine Calls.mono (h w hw) fun e w' ⟨v,he,hk⟩=>?_
 subst he
 exact hK _ _ (hk w' rfl _ (ha.put v hd))
theorem Ev.max3 {P : Program} {C : World → Prop} {f : Frm} {T : TypeId} {x y z : Operand} {a b c : Int} {ts : Array TypeId} (hx : f.ev x = .int .i64 a) (hy : f.ev y = .int .i64 b) (hz : f.ev z = .int .i64 c) : Ev P C f (.call ⟨.builtin .max,[x,y,z].toArray,ts⟩) T (.int .i64 (max (max a b) c)) := by
 rw [← max_if,← max_if]
 unfold Ev
 intro w _ d p af g
 simp [execOp,resolve,invoke,builtin,hx,hy,hz,Builtin.max_,Builtin.max2]
attribute [local irreducible] LR CW At Ev thn blk finK noG again CallsTo DW QL dnext TW DP
set_option maxRecDepth 100000
theorem q_rd {b f : Nat} {slots L : List MsgA} {w : World} (h : (qO b f slots L).holds w) : Rd w (some ⟨b,0,none⟩) (qcells f L.length slots) := by
 have h1 : w.heap[b]? = some (.cells (qcells f L.length slots).toArray 135 (0,0)) := h.1
 intro j v hj
 refine ⟨_,rfl,?_⟩
 rw [addr_add,cell_own h1]
 simpa using hj
theorem q_take (b first : Nat) (slots L : List MsgA) (x : MsgA) (w : World) (h : (qO b first slots (x :: L)).holds w) (hq : QRep first slots (x :: L)) :
  CallsTo Tryz.prog 305 [.pointer (some ⟨b,0,none⟩)] w fun v w'=>v = .tuple [x.m.val x.a x.c,.int .i64 0].toArray ∧ ∃ slots',QRep ((first + 1) % 32) slots' L ∧ St w (qO b first slots (x :: L)).foot [qO b ((first + 1) % 32) slots' L,x.body] w' := by
 have hS0 := (St.one h (both_live h) (qO_dep b first slots (x :: L))).part (Asrt.dep_own _ _) (bun_dep MsgA.dep _)
 have hL := hq.hL
 refine CallsTo.mono (show CallsTo Tryz.prog 305 [.pointer (some ⟨b,0,none⟩)] w _ from c44 b first (x :: L).length slots w hS0.g0 hq.h32 hq.hf (by simp) hL x hq.take.2) ?_
 rintro v w' ⟨rfl,st⟩
 refine ⟨rfl,_,hq.take.1,?_⟩
 have h1 := hS0.one' st rfl (Asrt.dep_own _ _) (sH _ _ _)
 have h2 := (front h1 1 rfl rfl).bun_head MsgA.dep
 have h3 : St w (qO b first slots (x :: L)).foot [qB b ((first + 1) % 32) L.length (slots.set first zeroQA),bunB L,x.body] w' := front (front h2 1 rfl rfl) 2 rfl rfl
 exact h3.join rfl rfl
theorem ga_rd {b c : Nat} {a : Option Addr} {L : List MsA} {w : World} (h : (gO b a c L).holds w) : Rd w (some ⟨b,0,none⟩) [.bool true,.slice a L.length c] := by
 have h1 : w.heap[b]? = some (.cells [.bool true,.slice a L.length c].toArray 275 (0,0)) := h.1
 intro j v hj
 refine ⟨_,rfl,?_⟩
 rw [addr_add,cell_own h1]
 simpa using hj
theorem aruGo_is {D : List Dat} (hD : WOk D) : ∀ (n : Nat) (k : Int),Upto D k → (abvT D k).length ≤ n → IsAru D (aruGo D n k)
 | 0,k,h,hl=>by
  refine ⟨h,?_⟩
  cases hx : hasD D (k + 1) with
  | false=>exact hx
  | true=>
   have hh := congrArg List.length (abv_head hD hx)
   rw [List.length_cons] at hh
   omega
 | n + 1,k,h,hl=>by
  unfold aruGo
  cases hx : hasD D (k + 1) with
  | false=>exact ⟨h,hx⟩
  | true=>
   have hh := congrArg List.length (abv_head hD hx)
   rw [List.length_cons] at hh
   exact aruGo_is hD n (k + 1) (h.next hx) (by omega)
theorem aruF_is {D : List Dat} (hD : WOk D) : IsAru D (aruF D) := by
 refine aruGo_is hD D.length 0 ⟨Int.le_refl _,fun s h1 h2=>by omega⟩ ?_
 have h5 := abvS_len D 0 (sqs D)
 rw [sqs_len] at h5
 exact h5
section
variable {w0 : World} {F : Nat → Prop} {R : List Asrt}
def srcV (left : Int) (fn : FuncId) (p : Nat) (more : Int) : List Value := [.int .i64 left,.func (.func fn) #[.pointer (some ⟨p,0,none⟩)] #[],.int .i64 more]
theorem r239n (b : Nat) (Z : RA) (S : Rg) (w : World) (h : St w0 F (rgL b Z S R) w) (hZ : RepA Z S) (hs : S.state = 3) :
  CallsTo Tryz.prog 239 [.pointer (some ⟨b,0,none⟩)] w fun v w'=>v = .agg (srcV (S.wq.length : Int) 305 Z.bq 1).toArray ∧ St w0 F (rgL b Z S R) w' := by
 have hlen : S.wq.length = Z.qL.length := by rw [← hZ.ql,List.length_map]
 rw [hlen]
 refine go_inS (n := 30) h Tryz.func239 rfl rfl ?_
 repeat'(first|(apply CW.reg_sinkC 11;(·exact rfl);(·decide +kernel))|refine gz ?_|refine gy fun _=>?_|(refine gs ?_ ?_;all_goals(intro hc;try simp only[hcs]at hc;try exact abz)))
 all_goals (
  apply DW.quiet [0,1,2,3,5,6,7,8,9]
  ·decide +kernel
  ·exact stZ
  repeat'(first|(apply QL.ev (v := Value.func (.func 305) #[.pointer (some ⟨Z.bq,0,none⟩)] #[]);(·exact rfl);(·exact Ev.makeFunc (xs := [.tmp 16]) (ys := []));(·exact rfl))|refine gq ?_|apply QL.nil)
  all_goals (show DW _ _ _ _ _ _ _ _))
 all_goals (
  apply DW.loud 4
  ·exact rfl
  ·decide +kernel
  repeat'(first|refine gw ?_|(apply kq;(·exact rfl);(·intro w1 h1;exact CallsTo.q (show CallsTo Tryz.prog 304 [.pointer (some ⟨Z.bq,0,none⟩)] w1 _ from c46 Z.bq Z.fq Z.qL.length Z.slots w1 (q_rd (h1.holds (qO Z.bq Z.fq Z.slots Z.qL) memZ))) h1)))
  all_goals (refine ats ?_))
 all_goals (
  apply DW.quiet [10]
  ·decide +kernel
  ·exact stZ
  repeat'(first|refine gq ?_|apply QL.nil)
  all_goals (show DW _ _ _ _ _ _ _ _))
 all_goals (apply DW.done;(·decide +kernel))
 all_goals apply At.sink
 repeat'(first|refine gz ?_)
 (apply ret1c;(·exact rfl);(·exact inferInstance);(·exact rfl);(·exact memY);(·exact rfl);intro w' hS)
 exact ⟨rfl,hS.sub subN⟩
theorem r239x (b : Nat) (Y : RA) (q : Nat × Option Addr × Nat × List MsA) (S : Rg) (w : World) (h : St w0 F (rgL b { Y with ap := some q } S R) w) (hs : S.state = 2) :
  CallsTo Tryz.prog 239 [.pointer (some ⟨b,0,none⟩)] w fun v w'=>v = .agg (srcV (q.2.2.2.length : Int) 306 q.1 0).toArray ∧ St w0 F (rgL b { Y with ap := some q } S R) w' := by
 refine go_inS (n := 30) h Tryz.func239 rfl rfl ?_
 repeat'(first|(apply CW.reg_sinkC 11;(·exact rfl);(·decide +kernel))|refine gz ?_|refine gy fun _=>?_|(refine gs ?_ ?_;all_goals(intro hc;try simp only[hcs]at hc;try exact abz)))
 all_goals (
  apply DW.quiet [0,1,2,3,5,6,7,8,9]
  ·decide +kernel
  ·exact stZ
  repeat'(first|(apply QL.ev (v := Value.func (.func 306) #[.pointer (some ⟨q.1,0,none⟩)] #[]);(·exact rfl);(·exact Ev.makeFunc (xs := [.tmp 27]) (ys := []));(·exact rfl))|refine gq ?_|apply QL.nil)
  all_goals (show DW _ _ _ _ _ _ _ _))
 all_goals (
  apply DW.loud 4
  ·exact rfl
  ·decide +kernel
  repeat'(first|refine gw ?_|(apply kq;(·exact rfl);(·intro w1 h1;exact CallsTo.q (show CallsTo Tryz.prog 181 [.pointer (some ⟨q.1,0,none⟩)] w1 _ from g40 q.1 q.2.1 q.2.2.1 q.2.2.2.length w1 (ga_rd (h1.holds (gO q.1 q.2.1 q.2.2.1 q.2.2.2) memZ))) h1)))
  all_goals (refine ats ?_))
 all_goals (
  apply DW.quiet [10]
  ·decide +kernel
  ·exact stZ
  repeat'(first|refine gq ?_|apply QL.nil)
  all_goals (show DW _ _ _ _ _ _ _ _))
 all_goals (apply DW.done;(·decide +kernel))
 all_goals apply At.sink
 repeat'(first|refine gz ?_)
 (apply ret1c;(·exact rfl);(·exact inferInstance);(·exact rfl);(·exact memY);(·exact rfl);intro w' hS)
 exact ⟨rfl,hS.sub subN⟩
end
end Go.Proofs.YtohbcfokihplbaaGreatDoor
