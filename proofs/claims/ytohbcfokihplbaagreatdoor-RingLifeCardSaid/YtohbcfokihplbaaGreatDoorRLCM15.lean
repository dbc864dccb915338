/-
  The law RingLife: walked.
-/
import Derived.Test.YtohbcfokihplbaaGreatDoorRLCM14
set_option linter.unusedSimpArgs false
set_option linter.unusedVariables false
namespace Go.Proofs.YtohbcfokihplbaaGreatDoor
open Go.Hb
attribute [local irreducible] LR CW At Ev thn blk finK noG again CallsTo DW QL dnext TW DP
set_option maxRecDepth 100000
structure Lfe where
 i : Nat
 Z : RA
 S : Rg
 kept : Int
 ta : Option Addr
 tc : Nat
 tv : List EvA
theorem newR_c (nd c : Int) : (newRg nd c).2.c = c + 1 := rfl
theorem new_e (nd c : Int) : (newRg nd c).2.e = (newRg0 nd c).oe := rfl
theorem new_oc (nd c : Int) : (newRg nd c).1.oc = 0 := rfl
theorem new_clock (nd c : Int) : (newRg nd c).1.clock = 0 := rfl
theorem do_cell {w : World} {b o i : Nat} {l : List DoA} (h : Rd w (some ⟨b,o,none⟩) (l.flatMap DoA.row)) (hi : i < l.length) (j : Nat) {v : Value} (hj : l[i].row[j]? = some v) {q : Nat} (hq : q = o + i * 43 + j) : w.cell? ⟨b,q,none⟩ = some v := row_cell DoA.row_len h hi j hj hq
theorem ev_rows_len (l : List EvA) : (l.flatMap EvA.row).length = l.length * 26 := by
 induction l with
 | nil=>rfl
 | cons x r ih=>rw [List.flatMap_cons,List.length_append,ih,EvA.row_len,List.length_cons];omega
theorem ev_rows_one (l : List EvA) : (l.flatMap EvA.row).all Value.oneCell' = true := by
 induction l with
 | nil=>rfl
 | cons x r ih=>rw [List.flatMap_cons,List.all_append,ih,ev_one];rfl
theorem do_full {w : World} {b o i : Nat} {l : List DoA} (h : Rd w (some ⟨b,o,none⟩) (l.flatMap DoA.row)) (hi : i < l.length) {q : Nat} (hq : q = o + i * 43) : ∀ (j : Nat) (v : Value),l[i].row[j]? = some v → w.cell? ((⟨b,q,none⟩ : Addr).add j) = some v := fun j v hj=>by
 rw [addr_add]
 exact do_cell h hi j hj (by omega)
theorem do_pkt {w : World} {b o i : Nat} {l : List DoA} (h : Rd w (some ⟨b,o,none⟩) (l.flatMap DoA.row)) (hi : i < l.length) {q : Nat} (hq : q = o + i * 43 + 2) : ∀ (j : Nat) (v : Value),(l[i].p.cells l[i].ad)[j]? = some v → w.cell? ((⟨b,q,none⟩ : Addr).add j) = some v := fun j v hj=>by
 rw [addr_add]
 refine do_cell h hi (2 + j) ?_ (by omega)
 have hl : j < 40 := by
  by_cases h7 : j < 40
  ·exact h7
  ·rw [List.getElem?_eq_none (by show 40 ≤ j;omega)] at hj;cases hj
 unfold DoA.row
 rw [List.getElem?_append_right (by show 2 ≤ 2 + j;omega),List.getElem?_append_left (by show 2 + j - 2 < 40;omega)]
 rw [show 2 + j - ([Value.int .i64 l[i].k,.int .i64 l[i].n] : List Value).length = j from by show 2 + j - 2 = j;omega]
 exact hj
attribute [local irreducible] Rg.tick Rg.take Rg.fire newRg newRg0
set_option maxHeartbeats 16000000 in
theorem r4 (nd c : Int) (al : Option Addr) (cl : Nat) (l : List DoA) (w : World) (ht : Rd w (some ⟨1,0,none⟩) (bv tab64)) (hr : Rd w al (l.flatMap DoA.row)) (hd : ∀ x ∈ l,DoR w x) :
  CallsTo Tryz.prog 4 [.int .i64 nd,.int .i64 c,.slice al l.length cl] w fun v w'=>v = .bool true ∧ Grew w w' := by
 refine go_in (n := 150) (St.rd2 ht hr) Tryz.func4 rfl rfl ?_
 have hb1 := bringI_rng (i := nd) (show (0 : Int) < 8 by decide)
 have hb2 := bringI_rng (i := c) (show (0 : Int) < 1000 by decide)
 repeat'(first|refine kv' ?_|apply jJ|refine jE' ?_|refine jp' ?_|(apply jc;kernel_rfl)|refine kg' ?_|refine kG' ?_|refine kB' fun _=>?_|refine kA' fun _=>?_|refine kK' fun _=>?_|refine kU' ?_|(apply kq;(·exact rfl);(·intro w1 h1;first | exact CallsTo.q (r7 w1 (h1.rd_of (mH _ _))) h1 | exact CallsTo.q (show CallsTo Tryz.prog 9 [.int .i64 nd,.int .i64 8] w1 _ from r9 nd 8 w1 (by decide)) h1 | exact CallsTo.q (show CallsTo Tryz.prog 9 [.int .i64 c,.int .i64 1000] w1 _ from r9 c 1000 w1 (by decide)) h1))|(apply addX;(iterate 2 exact rfl);(iterate 2(first|omega|(dsimp only;omega)));exact rfl)|((first|refine kR' ?_ ?_|refine kQ' ?_ ?_);all_goals(intro hc;try simp only[hcs]at hc;try(exfalso;first|contradiction|omega))))
 have hn8 : 1 ≤ 1 + bringI nd 8 ∧ 1 + bringI nd 8 ≤ 8 := by omega
 generalize 1 + bringI nd 8 = nd' at *
 generalize bringI c 1000 = c' at *
 have hm : mayNew nd' c' = true := by unfold mayNew maxN;rw [decide_eq_true_eq];omega
 have hI0 := new_inv hm
 apply LR.call
 ·exact rfl
 intro w1 h1
 refine CallsTo.mono (r14c nd' c' [rdA al (l.flatMap DoA.row)] w1 h1 hm) ?_
 rintro v w2 ⟨x0,b,Z0,rfl,hx0,hZ0,hw2⟩
 have hc0 : x0.c = c' + 1 := (congrArg OutV.c hx0).trans (newR_c _ _)
 have he0 : x0.ev.map EvA.e = (newRg0 nd' c').oe := (congrArg OutV.e hx0).trans (new_e _ _)
 have hoc0 := new_oc nd' c'
 have hck0 := new_clock nd' c'
 rw [← he0] at hI0
 have hel0 : x0.ev.length ≤ 2 := by
  have h9 := (new_core hm).oe
  rw [← List.length_map (f := EvA.e),he0]
  exact h9
 obtain ⟨xc,pa,pc,pk,ea,ec,ev⟩ := x0
 dsimp only at hc0 he0 hel0 hI0
 subst hc0
 refine LR.back hw2 ?_
 clear hw2 h1 hx0 he0
 generalize (newRg nd' c').1 = S0 at *
 repeat'(first|refine kv' ?_|apply jJ|refine jE' ?_|refine jp' ?_|(apply jc;kernel_rfl)|refine kg' ?_|refine kG' ?_|refine kB' fun _=>?_|refine kA' fun _=>?_|refine kK' fun _=>?_|refine kU' ?_|((first|refine kR' ?_ ?_|refine kQ' ?_ ?_);all_goals(intro hc;try simp only[hcs]at hc;try(exfalso;first|contradiction|omega))))
 apply CW.loop [6,10,11,12,13,14,15,16,37,38,39,40,41,42,43,44,45,46,47,48,49,50,51,52,53,54,55,56,57,58,59,60,61,62,63,64,65,66,67,68,69,70,71,72,73,74,75,76,77,78,79,80,81,82,83,84,85,86,87,88,89,90,91,92,93,94,95,96,97,98,99,100,101,102,103,104,105,106,107,108,109,110,111,112,113,114,115,116,117,118,119,120,121,122,123,124,125,126,127,128,129,130,131,132,133,134,135,136,137,138,139,140,141,142,143,144,145,146] (fun s : Lfe=>s.i ≤ l.length ∧ s.i ≤ 400 ∧ RepA s.Z s.S ∧ Inv nd' (s.tv.map EvA.e) s.kept s.S.clock (16 * s.i) 0 s.S ∧ s.S.oc = 0 ∧ s.tv.length ≤ 2 + 400000 * s.i)
  (fun s=>[(13,.int .i64 (s.i : Int)),(12,.slice s.ta s.tv.length s.tc),(11,.int .i64 s.S.clock),(10,.int .i64 s.kept)])
  (fun s=>St w NoF (eS s.ta s.tc s.tv :: bunE s.tv :: rgL b s.Z s.S [rdA al (l.flatMap DoA.row)])) (fun s=>l.length - s.i)
 ·intro w' hw'
  refine ⟨⟨0,Z0,S0,c' + 1,ea,ec,ev⟩,⟨Nat.zero_le _,Nat.zero_le _,hZ0,hI0.selfL,hoc0,hel0⟩,⟨rfl,rfl,by rw [hck0];rfl,rfl,trivial⟩,?_⟩
  exact hw'.sub subN
 clear hI0 hoc0 hck0 hel0 hZ0 hm
 rintro ⟨i,Z,S,kept,ta,tc,tv⟩ g ⟨hi,hi4,hZ,hI,hoc,htl⟩
 simp only at hi hi4 hZ hI hoc htl ⊢
 by_cases hlt : i < l.length ∧ i < 400
 rotate_left
 ·have hS0 : S.oe = [] := List.eq_nil_of_length_eq_zero (by have := hI.oe;omega)
  repeat'(first|refine kv' ?_|apply jJ|refine jE' ?_|refine jp' ?_|(apply jc;kernel_rfl)|refine kg' ?_|refine kG' ?_|refine kB' fun _=>?_|refine kA' fun _=>?_|refine kK' fun _=>?_|refine kU' ?_|(apply kq;(·exact rfl);(·intro w1 h1;exact CallsTo.q (show CallsTo Tryz.prog 21 [.int .i64 nd',.slice ta tv.length tc] w1 _ from r21 nd' ta tc tv w1 (h1.rd_of_own (n := tv.length) (mH _ _)) (by omega)) h1))|((first|refine kR' ?_ ?_|refine kQ' ?_ ?_);all_goals(intro hc;try simp only[hcs]at hc;try(exfalso;first|contradiction|omega))))
  all_goals (first | (exfalso;omega) | skip)
  all_goals (
   (apply ret1;(·exact rfl);intro w' hS)
   obtain ⟨q,hq,_⟩ := hI.c.ord
   rw [hS0,List.append_nil] at hq
   exact ⟨congrArg Value.bool (by rw [hq];rfl),hS.toKeep⟩)
 obtain ⟨hlt,hlt4⟩ := hlt
 have hdx := hd _ (List.getElem_mem hlt)
 have hkr := kindD_rng l[i].k
 obtain ⟨ba,oa,rfl⟩ := hr.form (rows_ne DoA.row_len (by omega) hlt)
 have hfull : ∀ w',Rd w' (some ⟨ba,oa,none⟩) (l.flatMap DoA.row) → ∀ q,q = oa + i * 43 → ∀ (j : Nat) (v : Value),l[i].row[j]? = some v → w'.cell? ((⟨ba,q,none⟩ : Addr).add j) = some v := fun w' h q hq=>do_full h hlt hq
 have hpkt : ∀ w',Rd w' (some ⟨ba,oa,none⟩) (l.flatMap DoA.row) → ∀ q,q = oa + i * 43 + 2 → ∀ (j : Nat) (v : Value),(l[i].p.cells l[i].ad)[j]? = some v → w'.cell? ((⟨ba,q,none⟩ : Addr).add j) = some v := fun w' h q hq=>do_pkt h hlt hq
 have hcn : ∀ w',Rd w' (some ⟨ba,oa,none⟩) (l.flatMap DoA.row) → ∀ q,q = oa + i * 43 + 1 → w'.cell? ⟨ba,q,none⟩ = some (.int .i64 l[i].n) := fun w' h q hq=>do_cell h hlt 1 rfl hq
 have hcm : ∀ w',Rd w' (some ⟨ba,oa,none⟩) (l.flatMap DoA.row) → ∀ q,q = oa + i * 43 + 42 → w'.cell? ⟨ba,q,none⟩ = some (.slice l[i].al l[i].ms.length l[i].cl) := fun w' h q hq=>do_cell h hlt 42 rfl hq
 generalize l[i] = x at *
 repeat'(first|(refine kA' fun b14=>?_)|refine kv' ?_|apply jJ|refine jE' ?_|refine jp' ?_|(apply jc;kernel_rfl)|refine kg' ?_|refine kG' ?_|refine kB' fun _=>?_|refine kA' fun _=>?_|refine kK' fun _=>?_|refine kU' ?_|(apply idxX;(iterate 2 exact rfl);(iterate 2(first|omega|(dsimp only;omega)));exact rfl)|((first|refine kR' ?_ ?_|refine kQ' ?_ ?_);all_goals(intro hc;try simp only[hcs]at hc;try(exfalso;first|contradiction|omega))))
 apply LR.ev
 ·apply Ev.load_agg_at (cs := x.row)
  ·exact rfl
  ·exact rfl
  ·intro w' hw'
   exact hfull w' (hw'.rd_of memZ) _ (by simp)
 ·exact rfl
 obtain ⟨kd,hkd⟩ : ∃ kd,kindD x.k = kd := ⟨_,rfl⟩
 rw [hkd] at hkr
 by_cases k0 : kd = 0
 ·subst k0
  repeat'(first|refine kv' ?_|apply jJ|refine jE' ?_|refine jp' ?_|(apply jc;kernel_rfl)|refine kg' ?_|refine kG' ?_|refine kB' fun _=>?_|refine kA' fun _=>?_|refine kK' fun _=>?_|refine kU' ?_|(apply kq;(·exact rfl);(·intro w1 h1;have hq := r15 x w1;rw [hkd] at hq;exact CallsTo.q (show CallsTo Tryz.prog 15 [.agg x.row.toArray] w1 _ from hq) h1))|(apply idxX;(iterate 2 exact rfl);(iterate 2(first|omega|(dsimp only;omega)));exact rfl)|((first|refine kR' ?_ ?_|refine kQ' ?_ ?_);all_goals(intro hc;try simp only[hcs]at hc;try(exfalso;first|contradiction|omega))))
  apply LR.ev
  ·apply Ev.load_agg_at (cs := x.p.cells x.ad)
   ·exact rfl
   ·exact rfl
   ·intro w' hw'
    exact hpkt w' (hw'.rd_of memZ) _ (by simp)
  ·exact rfl
  apply LR.call
  ·exact rfl
  intro w1 h1
  have j1 := hdx.pkt h1
  have j2 : St w NoF (pkL x (.own b14 (.cells #[.int .i64 0,.slice none 0 0,.slice none 0 0] 40 (0,0)) :: eS ta tc tv :: bunE tv :: rgL b Z S [rdA (some ⟨ba,oa,none⟩) (l.flatMap DoA.row)])) w1 := j1
  refine CallsTo.mono (show CallsTo Tryz.prog 16 [.pointer (some ⟨b,0,none⟩),x.p.val x.ad] w1 _ from r16 b S x.p x.ad w1 ⟨Z,hZ,rg_mid [_,_,_,_,_,_] j2⟩ hI (by omega) (by omega) hdx.pi hdx.pkh) ?_
  rintro v w2 ⟨x2,rfl,hx2,Z2,hZ2,hw2⟩
  have hG := goes_take hI hoc (show 16 * i ≤ 29000 by omega) (p := x.p) hdx.p.hdb
  obtain ⟨⟨S2,o2,e2⟩,hre⟩ : ∃ r,S.take x.p = r := ⟨_,rfl⟩
  rw [hre] at hG hx2 hZ2 hw2 ⊢
  clear hre
  dsimp only at hG hx2 hZ2 hw2 ⊢
  subst hx2
  have hea := eS_form hw2
  have hw3 : St w NoF (.own b14 (.cells #[.int .i64 0,.slice none 0 0,.slice none 0 0] 40 (0,0)) :: eS ta tc tv :: bunE tv :: outO x2 (rgL b Z2 S2 [rdA (some ⟨ba,oa,none⟩) (l.flatMap DoA.row)])) w2 := (front (front (front hw2 23 rfl rfl) 23 rfl rfl) 23 rfl rfl).sub subN
  refine LR.back hw3 ?_
  clear hw2 j1 j2 h1
  have heaz : x2.ea = none → x2.ev.length = 0 ∧ x2.ec = 0 := fun h9=>by
   refine ⟨?_,?_⟩
   ·cases h8 : x2.ev with
    | nil=>rfl
    | cons y t=>
     obtain ⟨_,_,h7⟩ := hea (by rw [h8];simp)
     rw [h7] at h9;cases h9
   ·exact osl_nz (hw3.holds (osl (.slice x2.ea x2.ev.length x2.ec) 76 26 x2.ev.length (x2.ev.flatMap EvA.row)) memZ) h9
  obtain ⟨xc2,pa2,pc2,pk2,ea2,ec2,ev2⟩ := x2
  dsimp only at hea heaz
  have hkc := hG.kc
  rcases hkc with ⟨q1,q2⟩ | ⟨q1,q2,q3⟩
  ·have q1' : xc2 = 0 := q1
   have q2' : S2.counter = kept := q2
   subst q2'
   repeat'(first|refine kv' ?_|apply jJ|refine jE' ?_|refine jp' ?_|(apply jc;kernel_rfl)|refine kg' ?_|refine kG' ?_|refine kB' fun _=>?_|refine kA' fun _=>?_|refine kK' fun _=>?_|refine kU' ?_|((first|refine kR' ?_ ?_|refine kQ' ?_ ?_);all_goals(intro hc;try simp only[hcs]at hc;try(exfalso;first|contradiction|omega))))
   all_goals (first | (exfalso;omega) | skip)
   have hel : ev2.length ≤ 400000 := by
    have h9 := hG.len
    rw [← List.length_map (f := EvA.e)]
    exact h9
   apply CW.loop [6,15,16,101,102,103,104,105,106,107,108,109,110,111,112,113,114,115,116,117,118,119,120,121,122,123,124,125,126,127,128,129,130,131,132,133,134,135,136] (fun k : Nat=>k ≤ ev2.length) (fun k : Nat=>[(15,Value.int .i64 (k : Int))]) (fun _=>St w NoF (.own b14 (.cells #[.int .i64 xc2,.slice pa2 pk2.length pc2,.slice ea2 ev2.length ec2] 40 (0,0)) :: eS ta tc tv :: bunE tv :: pS pa2 pc2 pk2 :: bunP pk2 :: eS ea2 ec2 ev2 :: bunE ev2 :: rgL b Z2 S2 [rdA (some ⟨ba,oa,none⟩) (l.flatMap DoA.row)])) (fun k=>ev2.length - k)
   ·exact fun w' hw'=>⟨0,Nat.zero_le _,⟨rfl,trivial⟩,hw'⟩
   intro k g2 hk
   simp only at hk ⊢
   by_cases hkl : k < ev2.length
   ·obtain ⟨be,oe,hbe⟩ := hea (fun h9=>by rw [h9] at hkl;exact Nat.not_lt_zero _ hkl)
    subst hbe
    have hT := hG.told _ (List.mem_map_of_mem (f := EvA.e) (List.getElem_mem hkl))
    have hef : ∀ w',Rd w' (some ⟨be,oe,none⟩) (ev2.flatMap EvA.row) → ∀ q,q = oe + k * 26 → ∀ (j : Nat) (v : Value),ev2[k].row[j]? = some v → w'.cell? ((⟨be,q,none⟩ : Addr).add j) = some v := fun w' h q hq j v hj=>by rw [addr_add];exact ev_cell h hkl j hj (by omega)
    have hT1 : ev2[k].kind = 1 → ev2[k].cfg.rs ≤ S2.counter := hT.c
    have hT2 : ev2[k].kind = 2 → ev2[k].x.d.stamp ≤ S2.clock := hT.d
    clear hT
    generalize ev2[k] = e at *
    repeat'(first|refine kv' ?_|apply jJ|refine jE' ?_|refine jp' ?_|(apply jc;kernel_rfl)|refine kg' ?_|refine kG' ?_|refine kB' fun _=>?_|refine kA' fun _=>?_|refine kK' fun _=>?_|refine kU' ?_|(apply idxX;(iterate 2 exact rfl);(iterate 2(first|omega|(dsimp only;omega)));exact rfl)|((first|refine kR' ?_ ?_|refine kQ' ?_ ?_);all_goals(intro hc;try simp only[hcs]at hc;try(exfalso;first|contradiction|omega))))
    apply LR.ev
    ·apply Ev.load_agg_at (cs := e.row)
     ·exact rfl
     ·exact rfl
     ·intro w' hw'
      exact hef w' (hw'.rd_of_own (n := ev2.length) memZ) _ (by simp)
    ·exact rfl
    repeat'(first|refine kv' ?_|apply jJ|refine jE' ?_|refine jp' ?_|(apply jc;kernel_rfl)|refine kg' ?_|refine kG' ?_|refine kB' fun _=>?_|refine kA' fun _=>?_|refine kK' fun _=>?_|refine kU' ?_|(apply addX;(iterate 2 exact rfl);(iterate 2(first|omega|(dsimp only;omega)));exact rfl)|(apply kq;(·exact rfl);(·intro w1 h1;exact CallsTo.mono (r20 b Z2 S2 w1 (rg_mid [_,_,_,_,_,_,_,_] h1)) (fun v w' h=>⟨h.1,front (front (front (front (front (front (front (front h.2 21 rfl rfl) 21 rfl rfl) 21 rfl rfl) 21 rfl rfl) 21 rfl rfl) 21 rfl rfl) 21 rfl rfl) 21 rfl rfl⟩)))|((first|refine kR' ?_ ?_|refine kQ' ?_ ?_);all_goals(intro hc;try simp only[hcs]at hc;try(exfalso;first|contradiction|omega))))
    all_goals (
     first
      | (exfalso
         first
          | (have h9 := hT1 (by assumption);omega)
          | (have h9 := hT2 (by assumption);omega)
          | omega)
      | (refine At.again (k + 1) (by omega) ?_ ⟨rfl,trivial⟩ (fun w' hw'=>hw'.sub subN) (by omega)
         exact outZ
         ))
   ·have hke : k = ev2.length := by omega
    subst hke
    have hclk : S.clock ≤ S2.clock := hG.clk
    have hinv : Inv nd' (tv.map EvA.e ++ ev2.map EvA.e) S2.counter S2.clock (16 * i + 16) 0 S2 := hG.inv
    have hoc2 : S2.oc = 0 := hG.oc
    repeat'(first|refine kv' ?_|apply jJ|refine jE' ?_|refine jp' ?_|(apply jc;kernel_rfl)|refine kg' ?_|refine kG' ?_|refine kB' fun _=>?_|refine kA' fun _=>?_|refine kK' fun _=>?_|refine kU' ?_|(apply addX;(iterate 2 exact rfl);(iterate 2(first|omega|(dsimp only;omega)));exact rfl)|(apply LR.append (xs := tv.flatMap EvA.row) (news := ev2.flatMap EvA.row) (m := ev2.length);(·exact rfl);(·exact rfl);(·intro a' c';exact selZ);(·exact fun w' hw'=>hw'.rd_of_own (n := ev2.length) memZ);(·exact heaz);(·exact ev_rows_len ev2);(·exact ev_rows_one ev2);(·omega);(·unfold maxLen;omega);(·exact rfl);(intro a4 c4))|(apply kq;(·exact rfl);(·intro w1 h1;exact CallsTo.mono (r20 b Z2 S2 w1 (rg_mid [_,_,_,_,_,_,_] h1)) (fun v w' h=>⟨h.1,front (front (front (front (front (front (front h.2 20 rfl rfl) 20 rfl rfl) 20 rfl rfl) 20 rfl rfl) 20 rfl rfl) 20 rfl rfl) 20 rfl rfl⟩)))|((first|refine kR' ?_ ?_|refine kQ' ?_ ?_);all_goals(intro hc;try simp only[hcs]at hc;try(exfalso;first|contradiction|omega))))
    all_goals (first | (exfalso;omega) | skip)
    refine At.again (⟨i + 1,Z2,S2,S2.counter,a4,c4,tv ++ ev2⟩ : Lfe) ⟨by show i + 1 ≤ _;omega,by show i + 1 ≤ 400;omega,hZ2,?_,hoc2,?_⟩ ?_ ⟨rfl,?_,rfl,by first | rfl | exact congrArg (Value.int .i64) q2',trivial⟩ (fun w' hw'=>?_) (by show l.length - (i + 1) < l.length - i;omega)
    ·show Inv nd' ((tv ++ ev2).map EvA.e) S2.counter S2.clock (16 * (i + 1)) 0 S2
     rw [List.map_append,show 16 * (i + 1) = 16 * i + 16 by omega]
     exact hinv
    ·show (tv ++ ev2).length ≤ 2 + 400000 * (i + 1)
     rw [List.length_append]
     omega
    ·exact outZ
    ·show Value.slice a4 (tv.length + ev2.length) c4 = Value.slice a4 (tv ++ ev2).length c4
     rw [List.length_append]
    ·have q1 : St w NoF (bunE tv :: bunE ev2 :: osl (.slice a4 (tv.length + ev2.length) c4) 76 26 (tv.length + ev2.length) (tv.flatMap EvA.row ++ ev2.flatMap EvA.row) :: rgL b Z2 S2 [rdA (some ⟨ba,oa,none⟩) (l.flatMap DoA.row)]) w' := (front (front hw' 6 rfl rfl) 3 rfl rfl).sub subN
     have q2 := front (St.bun_append EvA.dep q1) 1 rfl rfl
     have e9 : osl (.slice a4 (tv.length + ev2.length) c4) 76 26 (tv.length + ev2.length) (tv.flatMap EvA.row ++ ev2.flatMap EvA.row) = eS a4 c4 (tv ++ ev2) := by
      show _ = osl (.slice a4 (tv ++ ev2).length c4) 76 26 (tv ++ ev2).length ((tv ++ ev2).flatMap EvA.row)
      rw [List.length_append,List.flatMap_append]
     rw [e9] at q2
     exact q2
  ·have q1' : ¬ xc2 = 0 := q1
   have q2' : xc2 = S2.counter := q2
   have q3' : kept < S2.counter := q3
   repeat'(first|refine kv' ?_|apply jJ|refine jE' ?_|refine jp' ?_|(apply jc;kernel_rfl)|refine kg' ?_|refine kG' ?_|refine kB' fun _=>?_|refine kA' fun _=>?_|refine kK' fun _=>?_|refine kU' ?_|((first|refine kR' ?_ ?_|refine kQ' ?_ ?_);all_goals(intro hc;try simp only[hcs]at hc;try(exfalso;first|contradiction|omega))))
   all_goals (first | (exfalso;omega) | skip)
   have hel : ev2.length ≤ 400000 := by
    have h9 := hG.len
    rw [← List.length_map (f := EvA.e)]
    exact h9
   apply CW.loop [6,15,16,101,102,103,104,105,106,107,108,109,110,111,112,113,114,115,116,117,118,119,120,121,122,123,124,125,126,127,128,129,130,131,132,133,134,135,136] (fun k : Nat=>k ≤ ev2.length) (fun k : Nat=>[(15,Value.int .i64 (k : Int))]) (fun _=>St w NoF (.own b14 (.cells #[.int .i64 xc2,.slice pa2 pk2.length pc2,.slice ea2 ev2.length ec2] 40 (0,0)) :: eS ta tc tv :: bunE tv :: pS pa2 pc2 pk2 :: bunP pk2 :: eS ea2 ec2 ev2 :: bunE ev2 :: rgL b Z2 S2 [rdA (some ⟨ba,oa,none⟩) (l.flatMap DoA.row)])) (fun k=>ev2.length - k)
   ·exact fun w' hw'=>⟨0,Nat.zero_le _,⟨rfl,trivial⟩,hw'⟩
   intro k g2 hk
   simp only at hk ⊢
   by_cases hkl : k < ev2.length
   ·obtain ⟨be,oe,hbe⟩ := hea (fun h9=>by rw [h9] at hkl;exact Nat.not_lt_zero _ hkl)
    subst hbe
    have hT := hG.told _ (List.mem_map_of_mem (f := EvA.e) (List.getElem_mem hkl))
    have hef : ∀ w',Rd w' (some ⟨be,oe,none⟩) (ev2.flatMap EvA.row) → ∀ q,q = oe + k * 26 → ∀ (j : Nat) (v : Value),ev2[k].row[j]? = some v → w'.cell? ((⟨be,q,none⟩ : Addr).add j) = some v := fun w' h q hq j v hj=>by rw [addr_add];exact ev_cell h hkl j hj (by omega)
    have hT1 : ev2[k].kind = 1 → ev2[k].cfg.rs ≤ S2.counter := hT.c
    have hT2 : ev2[k].kind = 2 → ev2[k].x.d.stamp ≤ S2.clock := hT.d
    clear hT
    generalize ev2[k] = e at *
    repeat'(first|refine kv' ?_|apply jJ|refine jE' ?_|refine jp' ?_|(apply jc;kernel_rfl)|refine kg' ?_|refine kG' ?_|refine kB' fun _=>?_|refine kA' fun _=>?_|refine kK' fun _=>?_|refine kU' ?_|(apply idxX;(iterate 2 exact rfl);(iterate 2(first|omega|(dsimp only;omega)));exact rfl)|((first|refine kR' ?_ ?_|refine kQ' ?_ ?_);all_goals(intro hc;try simp only[hcs]at hc;try(exfalso;first|contradiction|omega))))
    apply LR.ev
    ·apply Ev.load_agg_at (cs := e.row)
     ·exact rfl
     ·exact rfl
     ·intro w' hw'
      exact hef w' (hw'.rd_of_own (n := ev2.length) memZ) _ (by simp)
    ·exact rfl
    repeat'(first|refine kv' ?_|apply jJ|refine jE' ?_|refine jp' ?_|(apply jc;kernel_rfl)|refine kg' ?_|refine kG' ?_|refine kB' fun _=>?_|refine kA' fun _=>?_|refine kK' fun _=>?_|refine kU' ?_|(apply addX;(iterate 2 exact rfl);(iterate 2(first|omega|(dsimp only;omega)));exact rfl)|(apply kq;(·exact rfl);(·intro w1 h1;exact CallsTo.mono (r20 b Z2 S2 w1 (rg_mid [_,_,_,_,_,_,_,_] h1)) (fun v w' h=>⟨h.1,front (front (front (front (front (front (front (front h.2 21 rfl rfl) 21 rfl rfl) 21 rfl rfl) 21 rfl rfl) 21 rfl rfl) 21 rfl rfl) 21 rfl rfl) 21 rfl rfl⟩)))|((first|refine kR' ?_ ?_|refine kQ' ?_ ?_);all_goals(intro hc;try simp only[hcs]at hc;try(exfalso;first|contradiction|omega))))
    all_goals (
     first
      | (exfalso
         first
          | (have h9 := hT1 (by assumption);omega)
          | (have h9 := hT2 (by assumption);omega)
          | omega)
      | (refine At.again (k + 1) (by omega) ?_ ⟨rfl,trivial⟩ (fun w' hw'=>hw'.sub subN) (by omega)
         exact outZ
         ))
   ·have hke : k = ev2.length := by omega
    subst hke
    have hclk : S.clock ≤ S2.clock := hG.clk
    have hinv : Inv nd' (tv.map EvA.e ++ ev2.map EvA.e) S2.counter S2.clock (16 * i + 16) 0 S2 := hG.inv
    have hoc2 : S2.oc = 0 := hG.oc
    repeat'(first|refine kv' ?_|apply jJ|refine jE' ?_|refine jp' ?_|(apply jc;kernel_rfl)|refine kg' ?_|refine kG' ?_|refine kB' fun _=>?_|refine kA' fun _=>?_|refine kK' fun _=>?_|refine kU' ?_|(apply addX;(iterate 2 exact rfl);(iterate 2(first|omega|(dsimp only;omega)));exact rfl)|(apply LR.append (xs := tv.flatMap EvA.row) (news := ev2.flatMap EvA.row) (m := ev2.length);(·exact rfl);(·exact rfl);(·intro a' c';exact selZ);(·exact fun w' hw'=>hw'.rd_of_own (n := ev2.length) memZ);(·exact heaz);(·exact ev_rows_len ev2);(·exact ev_rows_one ev2);(·omega);(·unfold maxLen;omega);(·exact rfl);(intro a4 c4))|(apply kq;(·exact rfl);(·intro w1 h1;exact CallsTo.mono (r20 b Z2 S2 w1 (rg_mid [_,_,_,_,_,_,_] h1)) (fun v w' h=>⟨h.1,front (front (front (front (front (front (front h.2 20 rfl rfl) 20 rfl rfl) 20 rfl rfl) 20 rfl rfl) 20 rfl rfl) 20 rfl rfl) 20 rfl rfl⟩)))|((first|refine kR' ?_ ?_|refine kQ' ?_ ?_);all_goals(intro hc;try simp only[hcs]at hc;try(exfalso;first|contradiction|omega))))
    all_goals (first | (exfalso;omega) | skip)
    refine At.again (⟨i + 1,Z2,S2,S2.counter,a4,c4,tv ++ ev2⟩ : Lfe) ⟨by show i + 1 ≤ _;omega,by show i + 1 ≤ 400;omega,hZ2,?_,hoc2,?_⟩ ?_ ⟨rfl,?_,rfl,by first | rfl | exact congrArg (Value.int .i64) q2',trivial⟩ (fun w' hw'=>?_) (by show l.length - (i + 1) < l.length - i;omega)
    ·show Inv nd' ((tv ++ ev2).map EvA.e) S2.counter S2.clock (16 * (i + 1)) 0 S2
     rw [List.map_append,show 16 * (i + 1) = 16 * i + 16 by omega]
     exact hinv
    ·show (tv ++ ev2).length ≤ 2 + 400000 * (i + 1)
     rw [List.length_append]
     omega
    ·exact outZ
    ·show Value.slice a4 (tv.length + ev2.length) c4 = Value.slice a4 (tv ++ ev2).length c4
     rw [List.length_append]
    ·have q1 : St w NoF (bunE tv :: bunE ev2 :: osl (.slice a4 (tv.length + ev2.length) c4) 76 26 (tv.length + ev2.length) (tv.flatMap EvA.row ++ ev2.flatMap EvA.row) :: rgL b Z2 S2 [rdA (some ⟨ba,oa,none⟩) (l.flatMap DoA.row)]) w' := (front (front hw' 6 rfl rfl) 3 rfl rfl).sub subN
     have q2 := front (St.bun_append EvA.dep q1) 1 rfl rfl
     have e9 : osl (.slice a4 (tv.length + ev2.length) c4) 76 26 (tv.length + ev2.length) (tv.flatMap EvA.row ++ ev2.flatMap EvA.row) = eS a4 c4 (tv ++ ev2) := by
      show _ = osl (.slice a4 (tv ++ ev2).length c4) 76 26 (tv ++ ev2).length ((tv ++ ev2).flatMap EvA.row)
      rw [List.length_append,List.flatMap_append]
     rw [e9] at q2
     exact q2
 by_cases k1 : kd = 1
 ·subst k1
  repeat'(first|refine kv' ?_|apply jJ|refine jE' ?_|refine jp' ?_|(apply jc;kernel_rfl)|refine kg' ?_|refine kG' ?_|refine kB' fun _=>?_|refine kA' fun _=>?_|refine kK' fun _=>?_|refine kU' ?_|(apply kq;(·exact rfl);(·intro w1 h1;have hq := r15 x w1;rw [hkd] at hq;exact CallsTo.q (show CallsTo Tryz.prog 15 [.agg x.row.toArray] w1 _ from hq) h1))|((first|refine kR' ?_ ?_|refine kQ' ?_ ?_);all_goals(intro hc;try simp only[hcs]at hc;try(exfalso;first|contradiction|omega))))
  apply LR.call
  ·exact rfl
  intro w1 h1
  refine CallsTo.mono (r17 b S w1 ⟨Z,hZ,rg_mid [_,_,_] h1⟩ hI (by omega)) ?_
  rintro v w2 ⟨x2,rfl,hx2,Z2,hZ2,hw2⟩
  have hG := goes_tick hI (show 16 * i + 16 ≤ 29000 by omega)
  obtain ⟨⟨S2,o2,e2⟩,hre⟩ : ∃ r,S.tick = r := ⟨_,rfl⟩
  rw [hre] at hG hx2 hZ2 hw2 ⊢
  clear hre
  dsimp only at hG hx2 hZ2 hw2 ⊢
  subst hx2
  have hea := eS_form hw2
  have hw3 : St w NoF (.own b14 (.cells #[.int .i64 0,.slice none 0 0,.slice none 0 0] 40 (0,0)) :: eS ta tc tv :: bunE tv :: outO x2 (rgL b Z2 S2 [rdA (some ⟨ba,oa,none⟩) (l.flatMap DoA.row)])) w2 := (front (front (front hw2 20 rfl rfl) 20 rfl rfl) 20 rfl rfl).sub subN
  refine LR.back hw3 ?_
  clear hw2 h1
  have heaz : x2.ea = none → x2.ev.length = 0 ∧ x2.ec = 0 := fun h9=>by
   refine ⟨?_,?_⟩
   ·cases h8 : x2.ev with
    | nil=>rfl
    | cons y t=>
     obtain ⟨_,_,h7⟩ := hea (by rw [h8];simp)
     rw [h7] at h9;cases h9
   ·exact osl_nz (hw3.holds (osl (.slice x2.ea x2.ev.length x2.ec) 76 26 x2.ev.length (x2.ev.flatMap EvA.row)) memZ) h9
  obtain ⟨xc2,pa2,pc2,pk2,ea2,ec2,ev2⟩ := x2
  dsimp only at hea heaz
  have hkc := hG.kc
  rcases hkc with ⟨q1,q2⟩ | ⟨q1,q2,q3⟩
  ·have q1' : xc2 = 0 := q1
   have q2' : S2.counter = kept := q2
   subst q2'
   repeat'(first|refine kv' ?_|apply jJ|refine jE' ?_|refine jp' ?_|(apply jc;kernel_rfl)|refine kg' ?_|refine kG' ?_|refine kB' fun _=>?_|refine kA' fun _=>?_|refine kK' fun _=>?_|refine kU' ?_|((first|refine kR' ?_ ?_|refine kQ' ?_ ?_);all_goals(intro hc;try simp only[hcs]at hc;try(exfalso;first|contradiction|omega))))
   all_goals (first | (exfalso;omega) | skip)
   have hel : ev2.length ≤ 400000 := by
    have h9 := hG.len
    rw [← List.length_map (f := EvA.e)]
    exact h9
   apply CW.loop [6,15,16,101,102,103,104,105,106,107,108,109,110,111,112,113,114,115,116,117,118,119,120,121,122,123,124,125,126,127,128,129,130,131,132,133,134,135,136] (fun k : Nat=>k ≤ ev2.length) (fun k : Nat=>[(15,Value.int .i64 (k : Int))]) (fun _=>St w NoF (.own b14 (.cells #[.int .i64 xc2,.slice pa2 pk2.length pc2,.slice ea2 ev2.length ec2] 40 (0,0)) :: eS ta tc tv :: bunE tv :: pS pa2 pc2 pk2 :: bunP pk2 :: eS ea2 ec2 ev2 :: bunE ev2 :: rgL b Z2 S2 [rdA (some ⟨ba,oa,none⟩) (l.flatMap DoA.row)])) (fun k=>ev2.length - k)
   ·exact fun w' hw'=>⟨0,Nat.zero_le _,⟨rfl,trivial⟩,hw'⟩
   intro k g2 hk
   simp only at hk ⊢
   by_cases hkl : k < ev2.length
   ·obtain ⟨be,oe,hbe⟩ := hea (fun h9=>by rw [h9] at hkl;exact Nat.not_lt_zero _ hkl)
    subst hbe
    have hT := hG.told _ (List.mem_map_of_mem (f := EvA.e) (List.getElem_mem hkl))
    have hef : ∀ w',Rd w' (some ⟨be,oe,none⟩) (ev2.flatMap EvA.row) → ∀ q,q = oe + k * 26 → ∀ (j : Nat) (v : Value),ev2[k].row[j]? = some v → w'.cell? ((⟨be,q,none⟩ : Addr).add j) = some v := fun w' h q hq j v hj=>by rw [addr_add];exact ev_cell h hkl j hj (by omega)
    have hT1 : ev2[k].kind = 1 → ev2[k].cfg.rs ≤ S2.counter := hT.c
    have hT2 : ev2[k].kind = 2 → ev2[k].x.d.stamp ≤ S2.clock := hT.d
    clear hT
    generalize ev2[k] = e at *
    repeat'(first|refine kv' ?_|apply jJ|refine jE' ?_|refine jp' ?_|(apply jc;kernel_rfl)|refine kg' ?_|refine kG' ?_|refine kB' fun _=>?_|refine kA' fun _=>?_|refine kK' fun _=>?_|refine kU' ?_|(apply idxX;(iterate 2 exact rfl);(iterate 2(first|omega|(dsimp only;omega)));exact rfl)|((first|refine kR' ?_ ?_|refine kQ' ?_ ?_);all_goals(intro hc;try simp only[hcs]at hc;try(exfalso;first|contradiction|omega))))
    apply LR.ev
    ·apply Ev.load_agg_at (cs := e.row)
     ·exact rfl
     ·exact rfl
     ·intro w' hw'
      exact hef w' (hw'.rd_of_own (n := ev2.length) memZ) _ (by simp)
    ·exact rfl
    repeat'(first|refine kv' ?_|apply jJ|refine jE' ?_|refine jp' ?_|(apply jc;kernel_rfl)|refine kg' ?_|refine kG' ?_|refine kB' fun _=>?_|refine kA' fun _=>?_|refine kK' fun _=>?_|refine kU' ?_|(apply addX;(iterate 2 exact rfl);(iterate 2(first|omega|(dsimp only;omega)));exact rfl)|(apply kq;(·exact rfl);(·intro w1 h1;exact CallsTo.mono (r20 b Z2 S2 w1 (rg_mid [_,_,_,_,_,_,_,_] h1)) (fun v w' h=>⟨h.1,front (front (front (front (front (front (front (front h.2 21 rfl rfl) 21 rfl rfl) 21 rfl rfl) 21 rfl rfl) 21 rfl rfl) 21 rfl rfl) 21 rfl rfl) 21 rfl rfl⟩)))|((first|refine kR' ?_ ?_|refine kQ' ?_ ?_);all_goals(intro hc;try simp only[hcs]at hc;try(exfalso;first|contradiction|omega))))
    all_goals (
     first
      | (exfalso
         first
          | (have h9 := hT1 (by assumption);omega)
          | (have h9 := hT2 (by assumption);omega)
          | omega)
      | (refine At.again (k + 1) (by omega) ?_ ⟨rfl,trivial⟩ (fun w' hw'=>hw'.sub subN) (by omega)
         exact outZ
         ))
   ·have hke : k = ev2.length := by omega
    subst hke
    have hclk : S.clock ≤ S2.clock := hG.clk
    have hinv : Inv nd' (tv.map EvA.e ++ ev2.map EvA.e) S2.counter S2.clock (16 * i + 16) 0 S2 := hG.inv
    have hoc2 : S2.oc = 0 := hG.oc
    repeat'(first|refine kv' ?_|apply jJ|refine jE' ?_|refine jp' ?_|(apply jc;kernel_rfl)|refine kg' ?_|refine kG' ?_|refine kB' fun _=>?_|refine kA' fun _=>?_|refine kK' fun _=>?_|refine kU' ?_|(apply addX;(iterate 2 exact rfl);(iterate 2(first|omega|(dsimp only;omega)));exact rfl)|(apply LR.append (xs := tv.flatMap EvA.row) (news := ev2.flatMap EvA.row) (m := ev2.length);(·exact rfl);(·exact rfl);(·intro a' c';exact selZ);(·exact fun w' hw'=>hw'.rd_of_own (n := ev2.length) memZ);(·exact heaz);(·exact ev_rows_len ev2);(·exact ev_rows_one ev2);(·omega);(·unfold maxLen;omega);(·exact rfl);(intro a4 c4))|(apply kq;(·exact rfl);(·intro w1 h1;exact CallsTo.mono (r20 b Z2 S2 w1 (rg_mid [_,_,_,_,_,_,_] h1)) (fun v w' h=>⟨h.1,front (front (front (front (front (front (front h.2 20 rfl rfl) 20 rfl rfl) 20 rfl rfl) 20 rfl rfl) 20 rfl rfl) 20 rfl rfl) 20 rfl rfl⟩)))|((first|refine kR' ?_ ?_|refine kQ' ?_ ?_);all_goals(intro hc;try simp only[hcs]at hc;try(exfalso;first|contradiction|omega))))
    all_goals (first | (exfalso;omega) | skip)
    refine At.again (⟨i + 1,Z2,S2,S2.counter,a4,c4,tv ++ ev2⟩ : Lfe) ⟨by show i + 1 ≤ _;omega,by show i + 1 ≤ 400;omega,hZ2,?_,hoc2,?_⟩ ?_ ⟨rfl,?_,rfl,by first | rfl | exact congrArg (Value.int .i64) q2',trivial⟩ (fun w' hw'=>?_) (by show l.length - (i + 1) < l.length - i;omega)
    ·show Inv nd' ((tv ++ ev2).map EvA.e) S2.counter S2.clock (16 * (i + 1)) 0 S2
     rw [List.map_append,show 16 * (i + 1) = 16 * i + 16 by omega]
     exact hinv
    ·show (tv ++ ev2).length ≤ 2 + 400000 * (i + 1)
     rw [List.length_append]
     omega
    ·exact outZ
    ·show Value.slice a4 (tv.length + ev2.length) c4 = Value.slice a4 (tv ++ ev2).length c4
     rw [List.length_append]
    ·have q1 : St w NoF (bunE tv :: bunE ev2 :: osl (.slice a4 (tv.length + ev2.length) c4) 76 26 (tv.length + ev2.length) (tv.flatMap EvA.row ++ ev2.flatMap EvA.row) :: rgL b Z2 S2 [rdA (some ⟨ba,oa,none⟩) (l.flatMap DoA.row)]) w' := (front (front hw' 6 rfl rfl) 3 rfl rfl).sub subN
     have q2 := front (St.bun_append EvA.dep q1) 1 rfl rfl
     have e9 : osl (.slice a4 (tv.length + ev2.length) c4) 76 26 (tv.length + ev2.length) (tv.flatMap EvA.row ++ ev2.flatMap EvA.row) = eS a4 c4 (tv ++ ev2) := by
      show _ = osl (.slice a4 (tv ++ ev2).length c4) 76 26 (tv ++ ev2).length ((tv ++ ev2).flatMap EvA.row)
      rw [List.length_append,List.flatMap_append]
     rw [e9] at q2
     exact q2
  ·have q1' : ¬ xc2 = 0 := q1
   have q2' : xc2 = S2.counter := q2
   have q3' : kept < S2.counter := q3
   repeat'(first|refine kv' ?_|apply jJ|refine jE' ?_|refine jp' ?_|(apply jc;kernel_rfl)|refine kg' ?_|refine kG' ?_|refine kB' fun _=>?_|refine kA' fun _=>?_|refine kK' fun _=>?_|refine kU' ?_|((first|refine kR' ?_ ?_|refine kQ' ?_ ?_);all_goals(intro hc;try simp only[hcs]at hc;try(exfalso;first|contradiction|omega))))
   all_goals (first | (exfalso;omega) | skip)
   have hel : ev2.length ≤ 400000 := by
    have h9 := hG.len
    rw [← List.length_map (f := EvA.e)]
    exact h9
   apply CW.loop [6,15,16,101,102,103,104,105,106,107,108,109,110,111,112,113,114,115,116,117,118,119,120,121,122,123,124,125,126,127,128,129,130,131,132,133,134,135,136] (fun k : Nat=>k ≤ ev2.length) (fun k : Nat=>[(15,Value.int .i64 (k : Int))]) (fun _=>St w NoF (.own b14 (.cells #[.int .i64 xc2,.slice pa2 pk2.length pc2,.slice ea2 ev2.length ec2] 40 (0,0)) :: eS ta tc tv :: bunE tv :: pS pa2 pc2 pk2 :: bunP pk2 :: eS ea2 ec2 ev2 :: bunE ev2 :: rgL b Z2 S2 [rdA (some ⟨ba,oa,none⟩) (l.flatMap DoA.row)])) (fun k=>ev2.length - k)
   ·exact fun w' hw'=>⟨0,Nat.zero_le _,⟨rfl,trivial⟩,hw'⟩
   intro k g2 hk
   simp only at hk ⊢
   by_cases hkl : k < ev2.length
   ·obtain ⟨be,oe,hbe⟩ := hea (fun h9=>by rw [h9] at hkl;exact Nat.not_lt_zero _ hkl)
    subst hbe
    have hT := hG.told _ (List.mem_map_of_mem (f := EvA.e) (List.getElem_mem hkl))
    have hef : ∀ w',Rd w' (some ⟨be,oe,none⟩) (ev2.flatMap EvA.row) → ∀ q,q = oe + k * 26 → ∀ (j : Nat) (v : Value),ev2[k].row[j]? = some v → w'.cell? ((⟨be,q,none⟩ : Addr).add j) = some v := fun w' h q hq j v hj=>by rw [addr_add];exact ev_cell h hkl j hj (by omega)
    have hT1 : ev2[k].kind = 1 → ev2[k].cfg.rs ≤ S2.counter := hT.c
    have hT2 : ev2[k].kind = 2 → ev2[k].x.d.stamp ≤ S2.clock := hT.d
    clear hT
    generalize ev2[k] = e at *
    repeat'(first|refine kv' ?_|apply jJ|refine jE' ?_|refine jp' ?_|(apply jc;kernel_rfl)|refine kg' ?_|refine kG' ?_|refine kB' fun _=>?_|refine kA' fun _=>?_|refine kK' fun _=>?_|refine kU' ?_|(apply idxX;(iterate 2 exact rfl);(iterate 2(first|omega|(dsimp only;omega)));exact rfl)|((first|refine kR' ?_ ?_|refine kQ' ?_ ?_);all_goals(intro hc;try simp only[hcs]at hc;try(exfalso;first|contradiction|omega))))
    apply LR.ev
    ·apply Ev.load_agg_at (cs := e.row)
     ·exact rfl
     ·exact rfl
     ·intro w' hw'
      exact hef w' (hw'.rd_of_own (n := ev2.length) memZ) _ (by simp)
    ·exact rfl
    repeat'(first|refine kv' ?_|apply jJ|refine jE' ?_|refine jp' ?_|(apply jc;kernel_rfl)|refine kg' ?_|refine kG' ?_|refine kB' fun _=>?_|refine kA' fun _=>?_|refine kK' fun _=>?_|refine kU' ?_|(apply addX;(iterate 2 exact rfl);(iterate 2(first|omega|(dsimp only;omega)));exact rfl)|(apply kq;(·exact rfl);(·intro w1 h1;exact CallsTo.mono (r20 b Z2 S2 w1 (rg_mid [_,_,_,_,_,_,_,_] h1)) (fun v w' h=>⟨h.1,front (front (front (front (front (front (front (front h.2 21 rfl rfl) 21 rfl rfl) 21 rfl rfl) 21 rfl rfl) 21 rfl rfl) 21 rfl rfl) 21 rfl rfl) 21 rfl rfl⟩)))|((first|refine kR' ?_ ?_|refine kQ' ?_ ?_);all_goals(intro hc;try simp only[hcs]at hc;try(exfalso;first|contradiction|omega))))
    all_goals (
     first
      | (exfalso
         first
          | (have h9 := hT1 (by assumption);omega)
          | (have h9 := hT2 (by assumption);omega)
          | omega)
      | (refine At.again (k + 1) (by omega) ?_ ⟨rfl,trivial⟩ (fun w' hw'=>hw'.sub subN) (by omega)
         exact outZ
         ))
   ·have hke : k = ev2.length := by omega
    subst hke
    have hclk : S.clock ≤ S2.clock := hG.clk
    have hinv : Inv nd' (tv.map EvA.e ++ ev2.map EvA.e) S2.counter S2.clock (16 * i + 16) 0 S2 := hG.inv
    have hoc2 : S2.oc = 0 := hG.oc
    repeat'(first|refine kv' ?_|apply jJ|refine jE' ?_|refine jp' ?_|(apply jc;kernel_rfl)|refine kg' ?_|refine kG' ?_|refine kB' fun _=>?_|refine kA' fun _=>?_|refine kK' fun _=>?_|refine kU' ?_|(apply addX;(iterate 2 exact rfl);(iterate 2(first|omega|(dsimp only;omega)));exact rfl)|(apply LR.append (xs := tv.flatMap EvA.row) (news := ev2.flatMap EvA.row) (m := ev2.length);(·exact rfl);(·exact rfl);(·intro a' c';exact selZ);(·exact fun w' hw'=>hw'.rd_of_own (n := ev2.length) memZ);(·exact heaz);(·exact ev_rows_len ev2);(·exact ev_rows_one ev2);(·omega);(·unfold maxLen;omega);(·exact rfl);(intro a4 c4))|(apply kq;(·exact rfl);(·intro w1 h1;exact CallsTo.mono (r20 b Z2 S2 w1 (rg_mid [_,_,_,_,_,_,_] h1)) (fun v w' h=>⟨h.1,front (front (front (front (front (front (front h.2 20 rfl rfl) 20 rfl rfl) 20 rfl rfl) 20 rfl rfl) 20 rfl rfl) 20 rfl rfl) 20 rfl rfl⟩)))|((first|refine kR' ?_ ?_|refine kQ' ?_ ?_);all_goals(intro hc;try simp only[hcs]at hc;try(exfalso;first|contradiction|omega))))
    all_goals (first | (exfalso;omega) | skip)
    refine At.again (⟨i + 1,Z2,S2,S2.counter,a4,c4,tv ++ ev2⟩ : Lfe) ⟨by show i + 1 ≤ _;omega,by show i + 1 ≤ 400;omega,hZ2,?_,hoc2,?_⟩ ?_ ⟨rfl,?_,rfl,by first | rfl | exact congrArg (Value.int .i64) q2',trivial⟩ (fun w' hw'=>?_) (by show l.length - (i + 1) < l.length - i;omega)
    ·show Inv nd' ((tv ++ ev2).map EvA.e) S2.counter S2.clock (16 * (i + 1)) 0 S2
     rw [List.map_append,show 16 * (i + 1) = 16 * i + 16 by omega]
     exact hinv
    ·show (tv ++ ev2).length ≤ 2 + 400000 * (i + 1)
     rw [List.length_append]
     omega
    ·exact outZ
    ·show Value.slice a4 (tv.length + ev2.length) c4 = Value.slice a4 (tv ++ ev2).length c4
     rw [List.length_append]
    ·have q1 : St w NoF (bunE tv :: bunE ev2 :: osl (.slice a4 (tv.length + ev2.length) c4) 76 26 (tv.length + ev2.length) (tv.flatMap EvA.row ++ ev2.flatMap EvA.row) :: rgL b Z2 S2 [rdA (some ⟨ba,oa,none⟩) (l.flatMap DoA.row)]) w' := (front (front hw' 6 rfl rfl) 3 rfl rfl).sub subN
     have q2 := front (St.bun_append EvA.dep q1) 1 rfl rfl
     have e9 : osl (.slice a4 (tv.length + ev2.length) c4) 76 26 (tv.length + ev2.length) (tv.flatMap EvA.row ++ ev2.flatMap EvA.row) = eS a4 c4 (tv ++ ev2) := by
      show _ = osl (.slice a4 (tv ++ ev2).length c4) 76 26 (tv ++ ev2).length ((tv ++ ev2).flatMap EvA.row)
      rw [List.length_append,List.flatMap_append]
     rw [e9] at q2
     exact q2
 by_cases k2 : kd = 2
 ·subst k2
  repeat'(first|refine kv' ?_|apply jJ|refine jE' ?_|refine jp' ?_|(apply jc;kernel_rfl)|refine kg' ?_|refine kG' ?_|refine kB' fun _=>?_|refine kA' fun _=>?_|refine kK' fun _=>?_|refine kU' ?_|(apply idxX;(iterate 2 exact rfl);(iterate 2(first|omega|(dsimp only;omega)));exact rfl)|(apply LR.ev;(·apply Ev.load (v := .int .i64 x.n);(·exact rfl);(·exact fun w' hw'=>hcn w' (hw'.rd_of memZ) _ (by simp)));(·exact rfl))|(apply kq;(·exact rfl);(·intro w1 h1;have hq := r15 x w1;rw [hkd] at hq;exact CallsTo.q (show CallsTo Tryz.prog 15 [.agg x.row.toArray] w1 _ from hq) h1))|((first|refine kR' ?_ ?_|refine kQ' ?_ ?_);all_goals(intro hc;try simp only[hcs]at hc;try(exfalso;first|contradiction|omega))))
  apply LR.call
  ·exact rfl
  intro w1 h1
  refine CallsTo.mono (r18 b S x.n w1 ⟨Z,hZ,rg_mid [_,_,_] h1⟩ hI (by omega) (by omega)) ?_
  rintro v w2 ⟨x2,rfl,hx2,Z2,hZ2,hw2⟩
  have hG := goes_fire hI hoc (show 16 * i ≤ 29000 by omega) x.n
  obtain ⟨⟨S2,o2,e2⟩,hre⟩ : ∃ r,S.fire x.n = r := ⟨_,rfl⟩
  rw [hre] at hG hx2 hZ2 hw2 ⊢
  clear hre
  dsimp only at hG hx2 hZ2 hw2 ⊢
  subst hx2
  have hea := eS_form hw2
  have hw3 : St w NoF (.own b14 (.cells #[.int .i64 0,.slice none 0 0,.slice none 0 0] 40 (0,0)) :: eS ta tc tv :: bunE tv :: outO x2 (rgL b Z2 S2 [rdA (some ⟨ba,oa,none⟩) (l.flatMap DoA.row)])) w2 := (front (front (front hw2 20 rfl rfl) 20 rfl rfl) 20 rfl rfl).sub subN
  refine LR.back hw3 ?_
  clear hw2 h1
  have heaz : x2.ea = none → x2.ev.length = 0 ∧ x2.ec = 0 := fun h9=>by
   refine ⟨?_,?_⟩
   ·cases h8 : x2.ev with
    | nil=>rfl
    | cons y t=>
     obtain ⟨_,_,h7⟩ := hea (by rw [h8];simp)
     rw [h7] at h9;cases h9
   ·exact osl_nz (hw3.holds (osl (.slice x2.ea x2.ev.length x2.ec) 76 26 x2.ev.length (x2.ev.flatMap EvA.row)) memZ) h9
  obtain ⟨xc2,pa2,pc2,pk2,ea2,ec2,ev2⟩ := x2
  dsimp only at hea heaz
  have hkc := hG.kc
  rcases hkc with ⟨q1,q2⟩ | ⟨q1,q2,q3⟩
  ·have q1' : xc2 = 0 := q1
   have q2' : S2.counter = kept := q2
   subst q2'
   repeat'(first|refine kv' ?_|apply jJ|refine jE' ?_|refine jp' ?_|(apply jc;kernel_rfl)|refine kg' ?_|refine kG' ?_|refine kB' fun _=>?_|refine kA' fun _=>?_|refine kK' fun _=>?_|refine kU' ?_|((first|refine kR' ?_ ?_|refine kQ' ?_ ?_);all_goals(intro hc;try simp only[hcs]at hc;try(exfalso;first|contradiction|omega))))
   all_goals (first | (exfalso;omega) | skip)
   have hel : ev2.length ≤ 400000 := by
    have h9 := hG.len
    rw [← List.length_map (f := EvA.e)]
    exact h9
   apply CW.loop [6,15,16,101,102,103,104,105,106,107,108,109,110,111,112,113,114,115,116,117,118,119,120,121,122,123,124,125,126,127,128,129,130,131,132,133,134,135,136] (fun k : Nat=>k ≤ ev2.length) (fun k : Nat=>[(15,Value.int .i64 (k : Int))]) (fun _=>St w NoF (.own b14 (.cells #[.int .i64 xc2,.slice pa2 pk2.length pc2,.slice ea2 ev2.length ec2] 40 (0,0)) :: eS ta tc tv :: bunE tv :: pS pa2 pc2 pk2 :: bunP pk2 :: eS ea2 ec2 ev2 :: bunE ev2 :: rgL b Z2 S2 [rdA (some ⟨ba,oa,none⟩) (l.flatMap DoA.row)])) (fun k=>ev2.length - k)
   ·exact fun w' hw'=>⟨0,Nat.zero_le _,⟨rfl,trivial⟩,hw'⟩
   intro k g2 hk
   simp only at hk ⊢
   by_cases hkl : k < ev2.length
   ·obtain ⟨be,oe,hbe⟩ := hea (fun h9=>by rw [h9] at hkl;exact Nat.not_lt_zero _ hkl)
    subst hbe
    have hT := hG.told _ (List.mem_map_of_mem (f := EvA.e) (List.getElem_mem hkl))
    have hef : ∀ w',Rd w' (some ⟨be,oe,none⟩) (ev2.flatMap EvA.row) → ∀ q,q = oe + k * 26 → ∀ (j : Nat) (v : Value),ev2[k].row[j]? = some v → w'.cell? ((⟨be,q,none⟩ : Addr).add j) = some v := fun w' h q hq j v hj=>by rw [addr_add];exact ev_cell h hkl j hj (by omega)
    have hT1 : ev2[k].kind = 1 → ev2[k].cfg.rs ≤ S2.counter := hT.c
    have hT2 : ev2[k].kind = 2 → ev2[k].x.d.stamp ≤ S2.clock := hT.d
    clear hT
    generalize ev2[k] = e at *
    repeat'(first|refine kv' ?_|apply jJ|refine jE' ?_|refine jp' ?_|(apply jc;kernel_rfl)|refine kg' ?_|refine kG' ?_|refine kB' fun _=>?_|refine kA' fun _=>?_|refine kK' fun _=>?_|refine kU' ?_|(apply idxX;(iterate 2 exact rfl);(iterate 2(first|omega|(dsimp only;omega)));exact rfl)|((first|refine kR' ?_ ?_|refine kQ' ?_ ?_);all_goals(intro hc;try simp only[hcs]at hc;try(exfalso;first|contradiction|omega))))
    apply LR.ev
    ·apply Ev.load_agg_at (cs := e.row)
     ·exact rfl
     ·exact rfl
     ·intro w' hw'
      exact hef w' (hw'.rd_of_own (n := ev2.length) memZ) _ (by simp)
    ·exact rfl
    repeat'(first|refine kv' ?_|apply jJ|refine jE' ?_|refine jp' ?_|(apply jc;kernel_rfl)|refine kg' ?_|refine kG' ?_|refine kB' fun _=>?_|refine kA' fun _=>?_|refine kK' fun _=>?_|refine kU' ?_|(apply addX;(iterate 2 exact rfl);(iterate 2(first|omega|(dsimp only;omega)));exact rfl)|(apply kq;(·exact rfl);(·intro w1 h1;exact CallsTo.mono (r20 b Z2 S2 w1 (rg_mid [_,_,_,_,_,_,_,_] h1)) (fun v w' h=>⟨h.1,front (front (front (front (front (front (front (front h.2 21 rfl rfl) 21 rfl rfl) 21 rfl rfl) 21 rfl rfl) 21 rfl rfl) 21 rfl rfl) 21 rfl rfl) 21 rfl rfl⟩)))|((first|refine kR' ?_ ?_|refine kQ' ?_ ?_);all_goals(intro hc;try simp only[hcs]at hc;try(exfalso;first|contradiction|omega))))
    all_goals (
     first
      | (exfalso
         first
          | (have h9 := hT1 (by assumption);omega)
          | (have h9 := hT2 (by assumption);omega)
          | omega)
      | (refine At.again (k + 1) (by omega) ?_ ⟨rfl,trivial⟩ (fun w' hw'=>hw'.sub subN) (by omega)
         exact outZ
         ))
   ·have hke : k = ev2.length := by omega
    subst hke
    have hclk : S.clock ≤ S2.clock := hG.clk
    have hinv : Inv nd' (tv.map EvA.e ++ ev2.map EvA.e) S2.counter S2.clock (16 * i + 16) 0 S2 := hG.inv
    have hoc2 : S2.oc = 0 := hG.oc
    repeat'(first|refine kv' ?_|apply jJ|refine jE' ?_|refine jp' ?_|(apply jc;kernel_rfl)|refine kg' ?_|refine kG' ?_|refine kB' fun _=>?_|refine kA' fun _=>?_|refine kK' fun _=>?_|refine kU' ?_|(apply addX;(iterate 2 exact rfl);(iterate 2(first|omega|(dsimp only;omega)));exact rfl)|(apply LR.append (xs := tv.flatMap EvA.row) (news := ev2.flatMap EvA.row) (m := ev2.length);(·exact rfl);(·exact rfl);(·intro a' c';exact selZ);(·exact fun w' hw'=>hw'.rd_of_own (n := ev2.length) memZ);(·exact heaz);(·exact ev_rows_len ev2);(·exact ev_rows_one ev2);(·omega);(·unfold maxLen;omega);(·exact rfl);(intro a4 c4))|(apply kq;(·exact rfl);(·intro w1 h1;exact CallsTo.mono (r20 b Z2 S2 w1 (rg_mid [_,_,_,_,_,_,_] h1)) (fun v w' h=>⟨h.1,front (front (front (front (front (front (front h.2 20 rfl rfl) 20 rfl rfl) 20 rfl rfl) 20 rfl rfl) 20 rfl rfl) 20 rfl rfl) 20 rfl rfl⟩)))|((first|refine kR' ?_ ?_|refine kQ' ?_ ?_);all_goals(intro hc;try simp only[hcs]at hc;try(exfalso;first|contradiction|omega))))
    all_goals (first | (exfalso;omega) | skip)
    refine At.again (⟨i + 1,Z2,S2,S2.counter,a4,c4,tv ++ ev2⟩ : Lfe) ⟨by show i + 1 ≤ _;omega,by show i + 1 ≤ 400;omega,hZ2,?_,hoc2,?_⟩ ?_ ⟨rfl,?_,rfl,by first | rfl | exact congrArg (Value.int .i64) q2',trivial⟩ (fun w' hw'=>?_) (by show l.length - (i + 1) < l.length - i;omega)
    ·show Inv nd' ((tv ++ ev2).map EvA.e) S2.counter S2.clock (16 * (i + 1)) 0 S2
     rw [List.map_append,show 16 * (i + 1) = 16 * i + 16 by omega]
     exact hinv
    ·show (tv ++ ev2).length ≤ 2 + 400000 * (i + 1)
     rw [List.length_append]
     omega
    ·exact outZ
    ·show Value.slice a4 (tv.length + ev2.length) c4 = Value.slice a4 (tv ++ ev2).length c4
     rw [List.length_append]
    ·have q1 : St w NoF (bunE tv :: bunE ev2 :: osl (.slice a4 (tv.length + ev2.length) c4) 76 26 (tv.length + ev2.length) (tv.flatMap EvA.row ++ ev2.flatMap EvA.row) :: rgL b Z2 S2 [rdA (some ⟨ba,oa,none⟩) (l.flatMap DoA.row)]) w' := (front (front hw' 6 rfl rfl) 3 rfl rfl).sub subN
     have q2 := front (St.bun_append EvA.dep q1) 1 rfl rfl
     have e9 : osl (.slice a4 (tv.length + ev2.length) c4) 76 26 (tv.length + ev2.length) (tv.flatMap EvA.row ++ ev2.flatMap EvA.row) = eS a4 c4 (tv ++ ev2) := by
      show _ = osl (.slice a4 (tv ++ ev2).length c4) 76 26 (tv ++ ev2).length ((tv ++ ev2).flatMap EvA.row)
      rw [List.length_append,List.flatMap_append]
     rw [e9] at q2
     exact q2
  ·have q1' : ¬ xc2 = 0 := q1
   have q2' : xc2 = S2.counter := q2
   have q3' : kept < S2.counter := q3
   repeat'(first|refine kv' ?_|apply jJ|refine jE' ?_|refine jp' ?_|(apply jc;kernel_rfl)|refine kg' ?_|refine kG' ?_|refine kB' fun _=>?_|refine kA' fun _=>?_|refine kK' fun _=>?_|refine kU' ?_|((first|refine kR' ?_ ?_|refine kQ' ?_ ?_);all_goals(intro hc;try simp only[hcs]at hc;try(exfalso;first|contradiction|omega))))
   all_goals (first | (exfalso;omega) | skip)
   have hel : ev2.length ≤ 400000 := by
    have h9 := hG.len
    rw [← List.length_map (f := EvA.e)]
    exact h9
   apply CW.loop [6,15,16,101,102,103,104,105,106,107,108,109,110,111,112,113,114,115,116,117,118,119,120,121,122,123,124,125,126,127,128,129,130,131,132,133,134,135,136] (fun k : Nat=>k ≤ ev2.length) (fun k : Nat=>[(15,Value.int .i64 (k : Int))]) (fun _=>St w NoF (.own b14 (.cells #[.int .i64 xc2,.slice pa2 pk2.length pc2,.slice ea2 ev2.length ec2] 40 (0,0)) :: eS ta tc tv :: bunE tv :: pS pa2 pc2 pk2 :: bunP pk2 :: eS ea2 ec2 ev2 :: bunE ev2 :: rgL b Z2 S2 [rdA (some ⟨ba,oa,none⟩) (l.flatMap DoA.row)])) (fun k=>ev2.length - k)
   ·exact fun w' hw'=>⟨0,Nat.zero_le _,⟨rfl,trivial⟩,hw'⟩
   intro k g2 hk
   simp only at hk ⊢
   by_cases hkl : k < ev2.length
   ·obtain ⟨be,oe,hbe⟩ := hea (fun h9=>by rw [h9] at hkl;exact Nat.not_lt_zero _ hkl)
    subst hbe
    have hT := hG.told _ (List.mem_map_of_mem (f := EvA.e) (List.getElem_mem hkl))
    have hef : ∀ w',Rd w' (some ⟨be,oe,none⟩) (ev2.flatMap EvA.row) → ∀ q,q = oe + k * 26 → ∀ (j : Nat) (v : Value),ev2[k].row[j]? = some v → w'.cell? ((⟨be,q,none⟩ : Addr).add j) = some v := fun w' h q hq j v hj=>by rw [addr_add];exact ev_cell h hkl j hj (by omega)
    have hT1 : ev2[k].kind = 1 → ev2[k].cfg.rs ≤ S2.counter := hT.c
    have hT2 : ev2[k].kind = 2 → ev2[k].x.d.stamp ≤ S2.clock := hT.d
    clear hT
    generalize ev2[k] = e at *
    repeat'(first|refine kv' ?_|apply jJ|refine jE' ?_|refine jp' ?_|(apply jc;kernel_rfl)|refine kg' ?_|refine kG' ?_|refine kB' fun _=>?_|refine kA' fun _=>?_|refine kK' fun _=>?_|refine kU' ?_|(apply idxX;(iterate 2 exact rfl);(iterate 2(first|omega|(dsimp only;omega)));exact rfl)|((first|refine kR' ?_ ?_|refine kQ' ?_ ?_);all_goals(intro hc;try simp only[hcs]at hc;try(exfalso;first|contradiction|omega))))
    apply LR.ev
    ·apply Ev.load_agg_at (cs := e.row)
     ·exact rfl
     ·exact rfl
     ·intro w' hw'
      exact hef w' (hw'.rd_of_own (n := ev2.length) memZ) _ (by simp)
    ·exact rfl
    repeat'(first|refine kv' ?_|apply jJ|refine jE' ?_|refine jp' ?_|(apply jc;kernel_rfl)|refine kg' ?_|refine kG' ?_|refine kB' fun _=>?_|refine kA' fun _=>?_|refine kK' fun _=>?_|refine kU' ?_|(apply addX;(iterate 2 exact rfl);(iterate 2(first|omega|(dsimp only;omega)));exact rfl)|(apply kq;(·exact rfl);(·intro w1 h1;exact CallsTo.mono (r20 b Z2 S2 w1 (rg_mid [_,_,_,_,_,_,_,_] h1)) (fun v w' h=>⟨h.1,front (front (front (front (front (front (front (front h.2 21 rfl rfl) 21 rfl rfl) 21 rfl rfl) 21 rfl rfl) 21 rfl rfl) 21 rfl rfl) 21 rfl rfl) 21 rfl rfl⟩)))|((first|refine kR' ?_ ?_|refine kQ' ?_ ?_);all_goals(intro hc;try simp only[hcs]at hc;try(exfalso;first|contradiction|omega))))
    all_goals (
     first
      | (exfalso
         first
          | (have h9 := hT1 (by assumption);omega)
          | (have h9 := hT2 (by assumption);omega)
          | omega)
      | (refine At.again (k + 1) (by omega) ?_ ⟨rfl,trivial⟩ (fun w' hw'=>hw'.sub subN) (by omega)
         exact outZ
         ))
   ·have hke : k = ev2.length := by omega
    subst hke
    have hclk : S.clock ≤ S2.clock := hG.clk
    have hinv : Inv nd' (tv.map EvA.e ++ ev2.map EvA.e) S2.counter S2.clock (16 * i + 16) 0 S2 := hG.inv
    have hoc2 : S2.oc = 0 := hG.oc
    repeat'(first|refine kv' ?_|apply jJ|refine jE' ?_|refine jp' ?_|(apply jc;kernel_rfl)|refine kg' ?_|refine kG' ?_|refine kB' fun _=>?_|refine kA' fun _=>?_|refine kK' fun _=>?_|refine kU' ?_|(apply addX;(iterate 2 exact rfl);(iterate 2(first|omega|(dsimp only;omega)));exact rfl)|(apply LR.append (xs := tv.flatMap EvA.row) (news := ev2.flatMap EvA.row) (m := ev2.length);(·exact rfl);(·exact rfl);(·intro a' c';exact selZ);(·exact fun w' hw'=>hw'.rd_of_own (n := ev2.length) memZ);(·exact heaz);(·exact ev_rows_len ev2);(·exact ev_rows_one ev2);(·omega);(·unfold maxLen;omega);(·exact rfl);(intro a4 c4))|(apply kq;(·exact rfl);(·intro w1 h1;exact CallsTo.mono (r20 b Z2 S2 w1 (rg_mid [_,_,_,_,_,_,_] h1)) (fun v w' h=>⟨h.1,front (front (front (front (front (front (front h.2 20 rfl rfl) 20 rfl rfl) 20 rfl rfl) 20 rfl rfl) 20 rfl rfl) 20 rfl rfl) 20 rfl rfl⟩)))|((first|refine kR' ?_ ?_|refine kQ' ?_ ?_);all_goals(intro hc;try simp only[hcs]at hc;try(exfalso;first|contradiction|omega))))
    all_goals (first | (exfalso;omega) | skip)
    refine At.again (⟨i + 1,Z2,S2,S2.counter,a4,c4,tv ++ ev2⟩ : Lfe) ⟨by show i + 1 ≤ _;omega,by show i + 1 ≤ 400;omega,hZ2,?_,hoc2,?_⟩ ?_ ⟨rfl,?_,rfl,by first | rfl | exact congrArg (Value.int .i64) q2',trivial⟩ (fun w' hw'=>?_) (by show l.length - (i + 1) < l.length - i;omega)
    ·show Inv nd' ((tv ++ ev2).map EvA.e) S2.counter S2.clock (16 * (i + 1)) 0 S2
     rw [List.map_append,show 16 * (i + 1) = 16 * i + 16 by omega]
     exact hinv
    ·show (tv ++ ev2).length ≤ 2 + 400000 * (i + 1)
     rw [List.length_append]
     omega
    ·exact outZ
    ·show Value.slice a4 (tv.length + ev2.length) c4 = Value.slice a4 (tv ++ ev2).length c4
     rw [List.length_append]
    ·have q1 : St w NoF (bunE tv :: bunE ev2 :: osl (.slice a4 (tv.length + ev2.length) c4) 76 26 (tv.length + ev2.length) (tv.flatMap EvA.row ++ ev2.flatMap EvA.row) :: rgL b Z2 S2 [rdA (some ⟨ba,oa,none⟩) (l.flatMap DoA.row)]) w' := (front (front hw' 6 rfl rfl) 3 rfl rfl).sub subN
     have q2 := front (St.bun_append EvA.dep q1) 1 rfl rfl
     have e9 : osl (.slice a4 (tv.length + ev2.length) c4) 76 26 (tv.length + ev2.length) (tv.flatMap EvA.row ++ ev2.flatMap EvA.row) = eS a4 c4 (tv ++ ev2) := by
      show _ = osl (.slice a4 (tv ++ ev2).length c4) 76 26 (tv ++ ev2).length ((tv ++ ev2).flatMap EvA.row)
      rw [List.length_append,List.flatMap_append]
     rw [e9] at q2
     exact q2
 obtain ⟨x2,hx2e⟩ : ∃ x2,x2 = outN := ⟨_,rfl⟩
 have hx2c : x2.cells = [.int .i64 0,.slice none 0 0,.slice none 0 0] := by rw [hx2e];rfl
 have hx2o : x2.o = noOut := by rw [hx2e];rfl
 have hea : x2.ev ≠ [] → ∃ be oe,x2.ea = some ⟨be,oe,none⟩ := fun h9=>absurd (by rw [hx2e];rfl) h9
 have heaz : x2.ea = none → x2.ev.length = 0 ∧ x2.ec = 0 := fun _=>by rw [hx2e];exact ⟨rfl,rfl⟩
 by_cases k3 : kd = 3
 ·subst k3
  repeat'(first|refine kv' ?_|apply jJ|refine jE' ?_|refine jp' ?_|(apply jc;kernel_rfl)|refine kg' ?_|refine kG' ?_|refine kB' fun _=>?_|refine kA' fun _=>?_|refine kK' fun _=>?_|refine kU' ?_|(apply idxX;(iterate 2 exact rfl);(iterate 2(first|omega|(dsimp only;omega)));exact rfl)|(apply LR.ev;(·apply Ev.load (v := .slice x.al x.ms.length x.cl);(·exact rfl);(·exact fun w' hw'=>hcm w' (hw'.rd_of memZ) _ (by simp)));(·exact rfl))|(apply kq;(·exact rfl);(·intro w1 h1;have hq := r15 x w1;rw [hkd] at hq;exact CallsTo.q (show CallsTo Tryz.prog 15 [.agg x.row.toArray] w1 _ from hq) h1))|((first|refine kR' ?_ ?_|refine kQ' ?_ ?_);all_goals(intro hc;try simp only[hcs]at hc;try(exfalso;first|contradiction|omega))))
  apply LR.call
  ·exact rfl
  intro w1 h1
  refine CallsTo.mono (r19 b S x.al x.cl x.ms w1 ⟨Z,hZ,rg_mid [_,_,_,_] (hdx.msg h1)⟩ hdx.msh) ?_
  rintro v w2 ⟨rfl,Z2,hZ2,hw2⟩
  have hG := goes_send hI hoc (l := x.ms.map MsgA.m) (fun m hm=>by
   obtain ⟨y,hy,rfl⟩ := List.mem_map.1 hm
   exact (hdx.m y hy).hb)
  obtain ⟨⟨S2,e2⟩,hre⟩ : ∃ r,S.sendM (x.ms.map MsgA.m) = r := ⟨_,rfl⟩
  rw [hre] at hG hZ2 hw2 ⊢
  clear hre
  dsimp only at hG hZ2 hw2 ⊢
  rw [← hx2o] at hG
  have hw3 : St w NoF (.own b14 (.cells x2.cells.toArray 40 (0,0)) :: eS ta tc tv :: bunE tv :: outO x2 (rgL b Z2 S2 [rdA (some ⟨ba,oa,none⟩) (l.flatMap DoA.row)])) w2 := by
   rw [hx2c,hx2e]
   exact (front (front (front (outN_in hw2) 21 rfl rfl) 21 rfl rfl) 21 rfl rfl).sub subN
  refine LR.back hw3 ?_
  clear hw2 h1 hx2c hx2o hx2e
  obtain ⟨xc2,pa2,pc2,pk2,ea2,ec2,ev2⟩ := x2
  dsimp only at hea heaz
  have hkc := hG.kc
  rcases hkc with ⟨q1,q2⟩ | ⟨q1,q2,q3⟩
  ·have q1' : xc2 = 0 := q1
   have q2' : S2.counter = kept := q2
   subst q2'
   repeat'(first|refine kv' ?_|apply jJ|refine jE' ?_|refine jp' ?_|(apply jc;kernel_rfl)|refine kg' ?_|refine kG' ?_|refine kB' fun _=>?_|refine kA' fun _=>?_|refine kK' fun _=>?_|refine kU' ?_|((first|refine kR' ?_ ?_|refine kQ' ?_ ?_);all_goals(intro hc;try simp only[hcs]at hc;try(exfalso;first|contradiction|omega))))
   all_goals (first | (exfalso;omega) | skip)
   have hel : ev2.length ≤ 400000 := by
    have h9 := hG.len
    rw [← List.length_map (f := EvA.e)]
    exact h9
   apply CW.loop [6,15,16,101,102,103,104,105,106,107,108,109,110,111,112,113,114,115,116,117,118,119,120,121,122,123,124,125,126,127,128,129,130,131,132,133,134,135,136] (fun k : Nat=>k ≤ ev2.length) (fun k : Nat=>[(15,Value.int .i64 (k : Int))]) (fun _=>St w NoF (.own b14 (.cells #[.int .i64 xc2,.slice pa2 pk2.length pc2,.slice ea2 ev2.length ec2] 40 (0,0)) :: eS ta tc tv :: bunE tv :: pS pa2 pc2 pk2 :: bunP pk2 :: eS ea2 ec2 ev2 :: bunE ev2 :: rgL b Z2 S2 [rdA (some ⟨ba,oa,none⟩) (l.flatMap DoA.row)])) (fun k=>ev2.length - k)
   ·exact fun w' hw'=>⟨0,Nat.zero_le _,⟨rfl,trivial⟩,hw'⟩
   intro k g2 hk
   simp only at hk ⊢
   by_cases hkl : k < ev2.length
   ·obtain ⟨be,oe,hbe⟩ := hea (fun h9=>by rw [h9] at hkl;exact Nat.not_lt_zero _ hkl)
    subst hbe
    have hT := hG.told _ (List.mem_map_of_mem (f := EvA.e) (List.getElem_mem hkl))
    have hef : ∀ w',Rd w' (some ⟨be,oe,none⟩) (ev2.flatMap EvA.row) → ∀ q,q = oe + k * 26 → ∀ (j : Nat) (v : Value),ev2[k].row[j]? = some v → w'.cell? ((⟨be,q,none⟩ : Addr).add j) = some v := fun w' h q hq j v hj=>by rw [addr_add];exact ev_cell h hkl j hj (by omega)
    have hT1 : ev2[k].kind = 1 → ev2[k].cfg.rs ≤ S2.counter := hT.c
    have hT2 : ev2[k].kind = 2 → ev2[k].x.d.stamp ≤ S2.clock := hT.d
    clear hT
    generalize ev2[k] = e at *
    repeat'(first|refine kv' ?_|apply jJ|refine jE' ?_|refine jp' ?_|(apply jc;kernel_rfl)|refine kg' ?_|refine kG' ?_|refine kB' fun _=>?_|refine kA' fun _=>?_|refine kK' fun _=>?_|refine kU' ?_|(apply idxX;(iterate 2 exact rfl);(iterate 2(first|omega|(dsimp only;omega)));exact rfl)|((first|refine kR' ?_ ?_|refine kQ' ?_ ?_);all_goals(intro hc;try simp only[hcs]at hc;try(exfalso;first|contradiction|omega))))
    apply LR.ev
    ·apply Ev.load_agg_at (cs := e.row)
     ·exact rfl
     ·exact rfl
     ·intro w' hw'
      exact hef w' (hw'.rd_of_own (n := ev2.length) memZ) _ (by simp)
    ·exact rfl
    repeat'(first|refine kv' ?_|apply jJ|refine jE' ?_|refine jp' ?_|(apply jc;kernel_rfl)|refine kg' ?_|refine kG' ?_|refine kB' fun _=>?_|refine kA' fun _=>?_|refine kK' fun _=>?_|refine kU' ?_|(apply addX;(iterate 2 exact rfl);(iterate 2(first|omega|(dsimp only;omega)));exact rfl)|(apply kq;(·exact rfl);(·intro w1 h1;exact CallsTo.mono (r20 b Z2 S2 w1 (rg_mid [_,_,_,_,_,_,_,_] h1)) (fun v w' h=>⟨h.1,front (front (front (front (front (front (front (front h.2 21 rfl rfl) 21 rfl rfl) 21 rfl rfl) 21 rfl rfl) 21 rfl rfl) 21 rfl rfl) 21 rfl rfl) 21 rfl rfl⟩)))|((first|refine kR' ?_ ?_|refine kQ' ?_ ?_);all_goals(intro hc;try simp only[hcs]at hc;try(exfalso;first|contradiction|omega))))
    all_goals (
     first
      | (exfalso
         first
          | (have h9 := hT1 (by assumption);omega)
          | (have h9 := hT2 (by assumption);omega)
          | omega)
      | (refine At.again (k + 1) (by omega) ?_ ⟨rfl,trivial⟩ (fun w' hw'=>hw'.sub subN) (by omega)
         exact outZ
         ))
   ·have hke : k = ev2.length := by omega
    subst hke
    have hclk : S.clock ≤ S2.clock := hG.clk
    have hinv : Inv nd' (tv.map EvA.e ++ ev2.map EvA.e) S2.counter S2.clock (16 * i + 16) 0 S2 := hG.inv
    have hoc2 : S2.oc = 0 := hG.oc
    repeat'(first|refine kv' ?_|apply jJ|refine jE' ?_|refine jp' ?_|(apply jc;kernel_rfl)|refine kg' ?_|refine kG' ?_|refine kB' fun _=>?_|refine kA' fun _=>?_|refine kK' fun _=>?_|refine kU' ?_|(apply addX;(iterate 2 exact rfl);(iterate 2(first|omega|(dsimp only;omega)));exact rfl)|(apply LR.append (xs := tv.flatMap EvA.row) (news := ev2.flatMap EvA.row) (m := ev2.length);(·exact rfl);(·exact rfl);(·intro a' c';exact selZ);(·exact fun w' hw'=>hw'.rd_of_own (n := ev2.length) memZ);(·exact heaz);(·exact ev_rows_len ev2);(·exact ev_rows_one ev2);(·omega);(·unfold maxLen;omega);(·exact rfl);(intro a4 c4))|(apply kq;(·exact rfl);(·intro w1 h1;exact CallsTo.mono (r20 b Z2 S2 w1 (rg_mid [_,_,_,_,_,_,_] h1)) (fun v w' h=>⟨h.1,front (front (front (front (front (front (front h.2 20 rfl rfl) 20 rfl rfl) 20 rfl rfl) 20 rfl rfl) 20 rfl rfl) 20 rfl rfl) 20 rfl rfl⟩)))|((first|refine kR' ?_ ?_|refine kQ' ?_ ?_);all_goals(intro hc;try simp only[hcs]at hc;try(exfalso;first|contradiction|omega))))
    all_goals (first | (exfalso;omega) | skip)
    refine At.again (⟨i + 1,Z2,S2,S2.counter,a4,c4,tv ++ ev2⟩ : Lfe) ⟨by show i + 1 ≤ _;omega,by show i + 1 ≤ 400;omega,hZ2,?_,hoc2,?_⟩ ?_ ⟨rfl,?_,rfl,by first | rfl | exact congrArg (Value.int .i64) q2',trivial⟩ (fun w' hw'=>?_) (by show l.length - (i + 1) < l.length - i;omega)
    ·show Inv nd' ((tv ++ ev2).map EvA.e) S2.counter S2.clock (16 * (i + 1)) 0 S2
     rw [List.map_append,show 16 * (i + 1) = 16 * i + 16 by omega]
     exact hinv
    ·show (tv ++ ev2).length ≤ 2 + 400000 * (i + 1)
     rw [List.length_append]
     omega
    ·exact outZ
    ·show Value.slice a4 (tv.length + ev2.length) c4 = Value.slice a4 (tv ++ ev2).length c4
     rw [List.length_append]
    ·have q1 : St w NoF (bunE tv :: bunE ev2 :: osl (.slice a4 (tv.length + ev2.length) c4) 76 26 (tv.length + ev2.length) (tv.flatMap EvA.row ++ ev2.flatMap EvA.row) :: rgL b Z2 S2 [rdA (some ⟨ba,oa,none⟩) (l.flatMap DoA.row)]) w' := (front (front hw' 6 rfl rfl) 3 rfl rfl).sub subN
     have q2 := front (St.bun_append EvA.dep q1) 1 rfl rfl
     have e9 : osl (.slice a4 (tv.length + ev2.length) c4) 76 26 (tv.length + ev2.length) (tv.flatMap EvA.row ++ ev2.flatMap EvA.row) = eS a4 c4 (tv ++ ev2) := by
      show _ = osl (.slice a4 (tv ++ ev2).length c4) 76 26 (tv ++ ev2).length ((tv ++ ev2).flatMap EvA.row)
      rw [List.length_append,List.flatMap_append]
     rw [e9] at q2
     exact q2
  ·have q1' : ¬ xc2 = 0 := q1
   have q2' : xc2 = S2.counter := q2
   have q3' : kept < S2.counter := q3
   repeat'(first|refine kv' ?_|apply jJ|refine jE' ?_|refine jp' ?_|(apply jc;kernel_rfl)|refine kg' ?_|refine kG' ?_|refine kB' fun _=>?_|refine kA' fun _=>?_|refine kK' fun _=>?_|refine kU' ?_|((first|refine kR' ?_ ?_|refine kQ' ?_ ?_);all_goals(intro hc;try simp only[hcs]at hc;try(exfalso;first|contradiction|omega))))
   all_goals (first | (exfalso;omega) | skip)
   have hel : ev2.length ≤ 400000 := by
    have h9 := hG.len
    rw [← List.length_map (f := EvA.e)]
    exact h9
   apply CW.loop [6,15,16,101,102,103,104,105,106,107,108,109,110,111,112,113,114,115,116,117,118,119,120,121,122,123,124,125,126,127,128,129,130,131,132,133,134,135,136] (fun k : Nat=>k ≤ ev2.length) (fun k : Nat=>[(15,Value.int .i64 (k : Int))]) (fun _=>St w NoF (.own b14 (.cells #[.int .i64 xc2,.slice pa2 pk2.length pc2,.slice ea2 ev2.length ec2] 40 (0,0)) :: eS ta tc tv :: bunE tv :: pS pa2 pc2 pk2 :: bunP pk2 :: eS ea2 ec2 ev2 :: bunE ev2 :: rgL b Z2 S2 [rdA (some ⟨ba,oa,none⟩) (l.flatMap DoA.row)])) (fun k=>ev2.length - k)
   ·exact fun w' hw'=>⟨0,Nat.zero_le _,⟨rfl,trivial⟩,hw'⟩
   intro k g2 hk
   simp only at hk ⊢
   by_cases hkl : k < ev2.length
   ·obtain ⟨be,oe,hbe⟩ := hea (fun h9=>by rw [h9] at hkl;exact Nat.not_lt_zero _ hkl)
    subst hbe
    have hT := hG.told _ (List.mem_map_of_mem (f := EvA.e) (List.getElem_mem hkl))
    have hef : ∀ w',Rd w' (some ⟨be,oe,none⟩) (ev2.flatMap EvA.row) → ∀ q,q = oe + k * 26 → ∀ (j : Nat) (v : Value),ev2[k].row[j]? = some v → w'.cell? ((⟨be,q,none⟩ : Addr).add j) = some v := fun w' h q hq j v hj=>by rw [addr_add];exact ev_cell h hkl j hj (by omega)
    have hT1 : ev2[k].kind = 1 → ev2[k].cfg.rs ≤ S2.counter := hT.c
    have hT2 : ev2[k].kind = 2 → ev2[k].x.d.stamp ≤ S2.clock := hT.d
    clear hT
    generalize ev2[k] = e at *
    repeat'(first|refine kv' ?_|apply jJ|refine jE' ?_|refine jp' ?_|(apply jc;kernel_rfl)|refine kg' ?_|refine kG' ?_|refine kB' fun _=>?_|refine kA' fun _=>?_|refine kK' fun _=>?_|refine kU' ?_|(apply idxX;(iterate 2 exact rfl);(iterate 2(first|omega|(dsimp only;omega)));exact rfl)|((first|refine kR' ?_ ?_|refine kQ' ?_ ?_);all_goals(intro hc;try simp only[hcs]at hc;try(exfalso;first|contradiction|omega))))
    apply LR.ev
    ·apply Ev.load_agg_at (cs := e.row)
     ·exact rfl
     ·exact rfl
     ·intro w' hw'
      exact hef w' (hw'.rd_of_own (n := ev2.length) memZ) _ (by simp)
    ·exact rfl
    repeat'(first|refine kv' ?_|apply jJ|refine jE' ?_|refine jp' ?_|(apply jc;kernel_rfl)|refine kg' ?_|refine kG' ?_|refine kB' fun _=>?_|refine kA' fun _=>?_|refine kK' fun _=>?_|refine kU' ?_|(apply addX;(iterate 2 exact rfl);(iterate 2(first|omega|(dsimp only;omega)));exact rfl)|(apply kq;(·exact rfl);(·intro w1 h1;exact CallsTo.mono (r20 b Z2 S2 w1 (rg_mid [_,_,_,_,_,_,_,_] h1)) (fun v w' h=>⟨h.1,front (front (front (front (front (front (front (front h.2 21 rfl rfl) 21 rfl rfl) 21 rfl rfl) 21 rfl rfl) 21 rfl rfl) 21 rfl rfl) 21 rfl rfl) 21 rfl rfl⟩)))|((first|refine kR' ?_ ?_|refine kQ' ?_ ?_);all_goals(intro hc;try simp only[hcs]at hc;try(exfalso;first|contradiction|omega))))
    all_goals (
     first
      | (exfalso
         first
          | (have h9 := hT1 (by assumption);omega)
          | (have h9 := hT2 (by assumption);omega)
          | omega)
      | (refine At.again (k + 1) (by omega) ?_ ⟨rfl,trivial⟩ (fun w' hw'=>hw'.sub subN) (by omega)
         exact outZ
         ))
   ·have hke : k = ev2.length := by omega
    subst hke
    have hclk : S.clock ≤ S2.clock := hG.clk
    have hinv : Inv nd' (tv.map EvA.e ++ ev2.map EvA.e) S2.counter S2.clock (16 * i + 16) 0 S2 := hG.inv
    have hoc2 : S2.oc = 0 := hG.oc
    repeat'(first|refine kv' ?_|apply jJ|refine jE' ?_|refine jp' ?_|(apply jc;kernel_rfl)|refine kg' ?_|refine kG' ?_|refine kB' fun _=>?_|refine kA' fun _=>?_|refine kK' fun _=>?_|refine kU' ?_|(apply addX;(iterate 2 exact rfl);(iterate 2(first|omega|(dsimp only;omega)));exact rfl)|(apply LR.append (xs := tv.flatMap EvA.row) (news := ev2.flatMap EvA.row) (m := ev2.length);(·exact rfl);(·exact rfl);(·intro a' c';exact selZ);(·exact fun w' hw'=>hw'.rd_of_own (n := ev2.length) memZ);(·exact heaz);(·exact ev_rows_len ev2);(·exact ev_rows_one ev2);(·omega);(·unfold maxLen;omega);(·exact rfl);(intro a4 c4))|(apply kq;(·exact rfl);(·intro w1 h1;exact CallsTo.mono (r20 b Z2 S2 w1 (rg_mid [_,_,_,_,_,_,_] h1)) (fun v w' h=>⟨h.1,front (front (front (front (front (front (front h.2 20 rfl rfl) 20 rfl rfl) 20 rfl rfl) 20 rfl rfl) 20 rfl rfl) 20 rfl rfl) 20 rfl rfl⟩)))|((first|refine kR' ?_ ?_|refine kQ' ?_ ?_);all_goals(intro hc;try simp only[hcs]at hc;try(exfalso;first|contradiction|omega))))
    all_goals (first | (exfalso;omega) | skip)
    refine At.again (⟨i + 1,Z2,S2,S2.counter,a4,c4,tv ++ ev2⟩ : Lfe) ⟨by show i + 1 ≤ _;omega,by show i + 1 ≤ 400;omega,hZ2,?_,hoc2,?_⟩ ?_ ⟨rfl,?_,rfl,by first | rfl | exact congrArg (Value.int .i64) q2',trivial⟩ (fun w' hw'=>?_) (by show l.length - (i + 1) < l.length - i;omega)
    ·show Inv nd' ((tv ++ ev2).map EvA.e) S2.counter S2.clock (16 * (i + 1)) 0 S2
     rw [List.map_append,show 16 * (i + 1) = 16 * i + 16 by omega]
     exact hinv
    ·show (tv ++ ev2).length ≤ 2 + 400000 * (i + 1)
     rw [List.length_append]
     omega
    ·exact outZ
    ·show Value.slice a4 (tv.length + ev2.length) c4 = Value.slice a4 (tv ++ ev2).length c4
     rw [List.length_append]
    ·have q1 : St w NoF (bunE tv :: bunE ev2 :: osl (.slice a4 (tv.length + ev2.length) c4) 76 26 (tv.length + ev2.length) (tv.flatMap EvA.row ++ ev2.flatMap EvA.row) :: rgL b Z2 S2 [rdA (some ⟨ba,oa,none⟩) (l.flatMap DoA.row)]) w' := (front (front hw' 6 rfl rfl) 3 rfl rfl).sub subN
     have q2 := front (St.bun_append EvA.dep q1) 1 rfl rfl
     have e9 : osl (.slice a4 (tv.length + ev2.length) c4) 76 26 (tv.length + ev2.length) (tv.flatMap EvA.row ++ ev2.flatMap EvA.row) = eS a4 c4 (tv ++ ev2) := by
      show _ = osl (.slice a4 (tv ++ ev2).length c4) 76 26 (tv ++ ev2).length ((tv ++ ev2).flatMap EvA.row)
      rw [List.length_append,List.flatMap_append]
     rw [e9] at q2
     exact q2
 have hG := goes_no (e := 0) hI hoc
 rw [← hx2o] at hG
 refine LR.sub (D := St w NoF (.own b14 (.cells x2.cells.toArray 40 (0,0)) :: eS ta tc tv :: bunE tv :: outO x2 (rgL b Z S [rdA (some ⟨ba,oa,none⟩) (l.flatMap DoA.row)]))) (fun w' hw'=>by
  rw [hx2c,hx2e]
  exact front (front (front (outN_in hw') 6 rfl rfl) 6 rfl rfl) 6 rfl rfl) ?_
 clear hx2c hx2o hx2e
 have hk45 : kd = 4 ∨ kd = 5 := by omega
 obtain ⟨xc2,pa2,pc2,pk2,ea2,ec2,ev2⟩ := x2
 dsimp only at hea heaz
 have hkc := hG.kc
 rcases hkc with ⟨q1,q2⟩ | ⟨q1,q2,q3⟩
 ·have q1' : xc2 = 0 := q1
  have q2' : S.counter = kept := q2
  subst q2'
  repeat'(first|refine kv' ?_|apply jJ|refine jE' ?_|refine jp' ?_|(apply jc;kernel_rfl)|refine kg' ?_|refine kG' ?_|refine kB' fun _=>?_|refine kA' fun _=>?_|refine kK' fun _=>?_|refine kU' ?_|(apply kq;(·exact rfl);(·intro w1 h1;have hq := r15 x w1;rw [hkd] at hq;exact CallsTo.q (show CallsTo Tryz.prog 15 [.agg x.row.toArray] w1 _ from hq) h1))|((first|refine kR' ?_ ?_|refine kQ' ?_ ?_);all_goals(intro hc;try simp only[hcs]at hc;try(exfalso;first|contradiction|omega))))
  all_goals (first | (exfalso;omega) | skip)
  have hel : ev2.length ≤ 400000 := by
   have h9 := hG.len
   rw [← List.length_map (f := EvA.e)]
   exact h9
  apply CW.loop [6,15,16,101,102,103,104,105,106,107,108,109,110,111,112,113,114,115,116,117,118,119,120,121,122,123,124,125,126,127,128,129,130,131,132,133,134,135,136] (fun k : Nat=>k ≤ ev2.length) (fun k : Nat=>[(15,Value.int .i64 (k : Int))]) (fun _=>St w NoF (.own b14 (.cells #[.int .i64 xc2,.slice pa2 pk2.length pc2,.slice ea2 ev2.length ec2] 40 (0,0)) :: eS ta tc tv :: bunE tv :: pS pa2 pc2 pk2 :: bunP pk2 :: eS ea2 ec2 ev2 :: bunE ev2 :: rgL b Z S [rdA (some ⟨ba,oa,none⟩) (l.flatMap DoA.row)])) (fun k=>ev2.length - k)
  ·exact fun w' hw'=>⟨0,Nat.zero_le _,⟨rfl,trivial⟩,hw'⟩
  intro k g2 hk
  simp only at hk ⊢
  by_cases hkl : k < ev2.length
  ·obtain ⟨be,oe,hbe⟩ := hea (fun h9=>by rw [h9] at hkl;exact Nat.not_lt_zero _ hkl)
   subst hbe
   have hT := hG.told _ (List.mem_map_of_mem (f := EvA.e) (List.getElem_mem hkl))
   have hef : ∀ w',Rd w' (some ⟨be,oe,none⟩) (ev2.flatMap EvA.row) → ∀ q,q = oe + k * 26 → ∀ (j : Nat) (v : Value),ev2[k].row[j]? = some v → w'.cell? ((⟨be,q,none⟩ : Addr).add j) = some v := fun w' h q hq j v hj=>by rw [addr_add];exact ev_cell h hkl j hj (by omega)
   have hT1 : ev2[k].kind = 1 → ev2[k].cfg.rs ≤ S.counter := hT.c
   have hT2 : ev2[k].kind = 2 → ev2[k].x.d.stamp ≤ S.clock := hT.d
   clear hT
   generalize ev2[k] = e at *
   repeat'(first|refine kv' ?_|apply jJ|refine jE' ?_|refine jp' ?_|(apply jc;kernel_rfl)|refine kg' ?_|refine kG' ?_|refine kB' fun _=>?_|refine kA' fun _=>?_|refine kK' fun _=>?_|refine kU' ?_|(apply idxX;(iterate 2 exact rfl);(iterate 2(first|omega|(dsimp only;omega)));exact rfl)|((first|refine kR' ?_ ?_|refine kQ' ?_ ?_);all_goals(intro hc;try simp only[hcs]at hc;try(exfalso;first|contradiction|omega))))
   apply LR.ev
   ·apply Ev.load_agg_at (cs := e.row)
    ·exact rfl
    ·exact rfl
    ·intro w' hw'
     exact hef w' (hw'.rd_of_own (n := ev2.length) memZ) _ (by simp)
   ·exact rfl
   repeat'(first|refine kv' ?_|apply jJ|refine jE' ?_|refine jp' ?_|(apply jc;kernel_rfl)|refine kg' ?_|refine kG' ?_|refine kB' fun _=>?_|refine kA' fun _=>?_|refine kK' fun _=>?_|refine kU' ?_|(apply addX;(iterate 2 exact rfl);(iterate 2(first|omega|(dsimp only;omega)));exact rfl)|(apply kq;(·exact rfl);(·intro w1 h1;exact CallsTo.mono (r20 b Z S w1 (rg_mid [_,_,_,_,_,_,_,_] h1)) (fun v w' h=>⟨h.1,front (front (front (front (front (front (front (front h.2 21 rfl rfl) 21 rfl rfl) 21 rfl rfl) 21 rfl rfl) 21 rfl rfl) 21 rfl rfl) 21 rfl rfl) 21 rfl rfl⟩)))|((first|refine kR' ?_ ?_|refine kQ' ?_ ?_);all_goals(intro hc;try simp only[hcs]at hc;try(exfalso;first|contradiction|omega))))
   all_goals (
    first
     | (exfalso
        first
         | (have h9 := hT1 (by assumption);omega)
         | (have h9 := hT2 (by assumption);omega)
         | omega)
     | (refine At.again (k + 1) (by omega) ?_ ⟨rfl,trivial⟩ (fun w' hw'=>hw'.sub subN) (by omega)
        exact outZ
        ))
  ·have hke : k = ev2.length := by omega
   subst hke
   have hclk : S.clock ≤ S.clock := hG.clk
   have hinv : Inv nd' (tv.map EvA.e ++ ev2.map EvA.e) S.counter S.clock (16 * i + 16) 0 S := hG.inv
   have hoc2 : S.oc = 0 := hG.oc
   repeat'(first|refine kv' ?_|apply jJ|refine jE' ?_|refine jp' ?_|(apply jc;kernel_rfl)|refine kg' ?_|refine kG' ?_|refine kB' fun _=>?_|refine kA' fun _=>?_|refine kK' fun _=>?_|refine kU' ?_|(apply addX;(iterate 2 exact rfl);(iterate 2(first|omega|(dsimp only;omega)));exact rfl)|(apply LR.append (xs := tv.flatMap EvA.row) (news := ev2.flatMap EvA.row) (m := ev2.length);(·exact rfl);(·exact rfl);(·intro a' c';exact selZ);(·exact fun w' hw'=>hw'.rd_of_own (n := ev2.length) memZ);(·exact heaz);(·exact ev_rows_len ev2);(·exact ev_rows_one ev2);(·omega);(·unfold maxLen;omega);(·exact rfl);(intro a4 c4))|(apply kq;(·exact rfl);(·intro w1 h1;exact CallsTo.mono (r20 b Z S w1 (rg_mid [_,_,_,_,_,_,_] h1)) (fun v w' h=>⟨h.1,front (front (front (front (front (front (front h.2 20 rfl rfl) 20 rfl rfl) 20 rfl rfl) 20 rfl rfl) 20 rfl rfl) 20 rfl rfl) 20 rfl rfl⟩)))|((first|refine kR' ?_ ?_|refine kQ' ?_ ?_);all_goals(intro hc;try simp only[hcs]at hc;try(exfalso;first|contradiction|omega))))
   all_goals (first | (exfalso;omega) | skip)
   refine At.again (⟨i + 1,Z,S,S.counter,a4,c4,tv ++ ev2⟩ : Lfe) ⟨by show i + 1 ≤ _;omega,by show i + 1 ≤ 400;omega,hZ,?_,hoc2,?_⟩ ?_ ⟨rfl,?_,rfl,by first | rfl | exact congrArg (Value.int .i64) q2',trivial⟩ (fun w' hw'=>?_) (by show l.length - (i + 1) < l.length - i;omega)
   ·show Inv nd' ((tv ++ ev2).map EvA.e) S.counter S.clock (16 * (i + 1)) 0 S
    rw [List.map_append,show 16 * (i + 1) = 16 * i + 16 by omega]
    exact hinv
   ·show (tv ++ ev2).length ≤ 2 + 400000 * (i + 1)
    rw [List.length_append]
    omega
   ·exact outZ
   ·show Value.slice a4 (tv.length + ev2.length) c4 = Value.slice a4 (tv ++ ev2).length c4
    rw [List.length_append]
   ·have q1 : St w NoF (bunE tv :: bunE ev2 :: osl (.slice a4 (tv.length + ev2.length) c4) 76 26 (tv.length + ev2.length) (tv.flatMap EvA.row ++ ev2.flatMap EvA.row) :: rgL b Z S [rdA (some ⟨ba,oa,none⟩) (l.flatMap DoA.row)]) w' := (front (front hw' 6 rfl rfl) 3 rfl rfl).sub subN
    have q2 := front (St.bun_append EvA.dep q1) 1 rfl rfl
    have e9 : osl (.slice a4 (tv.length + ev2.length) c4) 76 26 (tv.length + ev2.length) (tv.flatMap EvA.row ++ ev2.flatMap EvA.row) = eS a4 c4 (tv ++ ev2) := by
     show _ = osl (.slice a4 (tv ++ ev2).length c4) 76 26 (tv ++ ev2).length ((tv ++ ev2).flatMap EvA.row)
     rw [List.length_append,List.flatMap_append]
    rw [e9] at q2
    exact q2
 ·have q1' : ¬ xc2 = 0 := q1
  have q2' : xc2 = S.counter := q2
  have q3' : kept < S.counter := q3
  repeat'(first|refine kv' ?_|apply jJ|refine jE' ?_|refine jp' ?_|(apply jc;kernel_rfl)|refine kg' ?_|refine kG' ?_|refine kB' fun _=>?_|refine kA' fun _=>?_|refine kK' fun _=>?_|refine kU' ?_|(apply kq;(·exact rfl);(·intro w1 h1;have hq := r15 x w1;rw [hkd] at hq;exact CallsTo.q (show CallsTo Tryz.prog 15 [.agg x.row.toArray] w1 _ from hq) h1))|((first|refine kR' ?_ ?_|refine kQ' ?_ ?_);all_goals(intro hc;try simp only[hcs]at hc;try(exfalso;first|contradiction|omega))))
  all_goals (first | (exfalso;omega) | skip)
  have hel : ev2.length ≤ 400000 := by
   have h9 := hG.len
   rw [← List.length_map (f := EvA.e)]
   exact h9
  apply CW.loop [6,15,16,101,102,103,104,105,106,107,108,109,110,111,112,113,114,115,116,117,118,119,120,121,122,123,124,125,126,127,128,129,130,131,132,133,134,135,136] (fun k : Nat=>k ≤ ev2.length) (fun k : Nat=>[(15,Value.int .i64 (k : Int))]) (fun _=>St w NoF (.own b14 (.cells #[.int .i64 xc2,.slice pa2 pk2.length pc2,.slice ea2 ev2.length ec2] 40 (0,0)) :: eS ta tc tv :: bunE tv :: pS pa2 pc2 pk2 :: bunP pk2 :: eS ea2 ec2 ev2 :: bunE ev2 :: rgL b Z S [rdA (some ⟨ba,oa,none⟩) (l.flatMap DoA.row)])) (fun k=>ev2.length - k)
  ·exact fun w' hw'=>⟨0,Nat.zero_le _,⟨rfl,trivial⟩,hw'⟩
  intro k g2 hk
  simp only at hk ⊢
  by_cases hkl : k < ev2.length
  ·obtain ⟨be,oe,hbe⟩ := hea (fun h9=>by rw [h9] at hkl;exact Nat.not_lt_zero _ hkl)
   subst hbe
   have hT := hG.told _ (List.mem_map_of_mem (f := EvA.e) (List.getElem_mem hkl))
   have hef : ∀ w',Rd w' (some ⟨be,oe,none⟩) (ev2.flatMap EvA.row) → ∀ q,q = oe + k * 26 → ∀ (j : Nat) (v : Value),ev2[k].row[j]? = some v → w'.cell? ((⟨be,q,none⟩ : Addr).add j) = some v := fun w' h q hq j v hj=>by rw [addr_add];exact ev_cell h hkl j hj (by omega)
   have hT1 : ev2[k].kind = 1 → ev2[k].cfg.rs ≤ S.counter := hT.c
   have hT2 : ev2[k].kind = 2 → ev2[k].x.d.stamp ≤ S.clock := hT.d
   clear hT
   generalize ev2[k] = e at *
   repeat'(first|refine kv' ?_|apply jJ|refine jE' ?_|refine jp' ?_|(apply jc;kernel_rfl)|refine kg' ?_|refine kG' ?_|refine kB' fun _=>?_|refine kA' fun _=>?_|refine kK' fun _=>?_|refine kU' ?_|(apply idxX;(iterate 2 exact rfl);(iterate 2(first|omega|(dsimp only;omega)));exact rfl)|((first|refine kR' ?_ ?_|refine kQ' ?_ ?_);all_goals(intro hc;try simp only[hcs]at hc;try(exfalso;first|contradiction|omega))))
   apply LR.ev
   ·apply Ev.load_agg_at (cs := e.row)
    ·exact rfl
    ·exact rfl
    ·intro w' hw'
     exact hef w' (hw'.rd_of_own (n := ev2.length) memZ) _ (by simp)
   ·exact rfl
   repeat'(first|refine kv' ?_|apply jJ|refine jE' ?_|refine jp' ?_|(apply jc;kernel_rfl)|refine kg' ?_|refine kG' ?_|refine kB' fun _=>?_|refine kA' fun _=>?_|refine kK' fun _=>?_|refine kU' ?_|(apply addX;(iterate 2 exact rfl);(iterate 2(first|omega|(dsimp only;omega)));exact rfl)|(apply kq;(·exact rfl);(·intro w1 h1;exact CallsTo.mono (r20 b Z S w1 (rg_mid [_,_,_,_,_,_,_,_] h1)) (fun v w' h=>⟨h.1,front (front (front (front (front (front (front (front h.2 21 rfl rfl) 21 rfl rfl) 21 rfl rfl) 21 rfl rfl) 21 rfl rfl) 21 rfl rfl) 21 rfl rfl) 21 rfl rfl⟩)))|((first|refine kR' ?_ ?_|refine kQ' ?_ ?_);all_goals(intro hc;try simp only[hcs]at hc;try(exfalso;first|contradiction|omega))))
   all_goals (
    first
     | (exfalso
        first
         | (have h9 := hT1 (by assumption);omega)
         | (have h9 := hT2 (by assumption);omega)
         | omega)
     | (refine At.again (k + 1) (by omega) ?_ ⟨rfl,trivial⟩ (fun w' hw'=>hw'.sub subN) (by omega)
        exact outZ
        ))
  ·have hke : k = ev2.length := by omega
   subst hke
   have hclk : S.clock ≤ S.clock := hG.clk
   have hinv : Inv nd' (tv.map EvA.e ++ ev2.map EvA.e) S.counter S.clock (16 * i + 16) 0 S := hG.inv
   have hoc2 : S.oc = 0 := hG.oc
   repeat'(first|refine kv' ?_|apply jJ|refine jE' ?_|refine jp' ?_|(apply jc;kernel_rfl)|refine kg' ?_|refine kG' ?_|refine kB' fun _=>?_|refine kA' fun _=>?_|refine kK' fun _=>?_|refine kU' ?_|(apply addX;(iterate 2 exact rfl);(iterate 2(first|omega|(dsimp only;omega)));exact rfl)|(apply LR.append (xs := tv.flatMap EvA.row) (news := ev2.flatMap EvA.row) (m := ev2.length);(·exact rfl);(·exact rfl);(·intro a' c';exact selZ);(·exact fun w' hw'=>hw'.rd_of_own (n := ev2.length) memZ);(·exact heaz);(·exact ev_rows_len ev2);(·exact ev_rows_one ev2);(·omega);(·unfold maxLen;omega);(·exact rfl);(intro a4 c4))|(apply kq;(·exact rfl);(·intro w1 h1;exact CallsTo.mono (r20 b Z S w1 (rg_mid [_,_,_,_,_,_,_] h1)) (fun v w' h=>⟨h.1,front (front (front (front (front (front (front h.2 20 rfl rfl) 20 rfl rfl) 20 rfl rfl) 20 rfl rfl) 20 rfl rfl) 20 rfl rfl) 20 rfl rfl⟩)))|((first|refine kR' ?_ ?_|refine kQ' ?_ ?_);all_goals(intro hc;try simp only[hcs]at hc;try(exfalso;first|contradiction|omega))))
   all_goals (first | (exfalso;omega) | skip)
   refine At.again (⟨i + 1,Z,S,S.counter,a4,c4,tv ++ ev2⟩ : Lfe) ⟨by show i + 1 ≤ _;omega,by show i + 1 ≤ 400;omega,hZ,?_,hoc2,?_⟩ ?_ ⟨rfl,?_,rfl,by first | rfl | exact congrArg (Value.int .i64) q2',trivial⟩ (fun w' hw'=>?_) (by show l.length - (i + 1) < l.length - i;omega)
   ·show Inv nd' ((tv ++ ev2).map EvA.e) S.counter S.clock (16 * (i + 1)) 0 S
    rw [List.map_append,show 16 * (i + 1) = 16 * i + 16 by omega]
    exact hinv
   ·show (tv ++ ev2).length ≤ 2 + 400000 * (i + 1)
    rw [List.length_append]
    omega
   ·exact outZ
   ·show Value.slice a4 (tv.length + ev2.length) c4 = Value.slice a4 (tv ++ ev2).length c4
    rw [List.length_append]
   ·have q1 : St w NoF (bunE tv :: bunE ev2 :: osl (.slice a4 (tv.length + ev2.length) c4) 76 26 (tv.length + ev2.length) (tv.flatMap EvA.row ++ ev2.flatMap EvA.row) :: rgL b Z S [rdA (some ⟨ba,oa,none⟩) (l.flatMap DoA.row)]) w' := (front (front hw' 6 rfl rfl) 3 rfl rfl).sub subN
    have q2 := front (St.bun_append EvA.dep q1) 1 rfl rfl
    have e9 : osl (.slice a4 (tv.length + ev2.length) c4) 76 26 (tv.length + ev2.length) (tv.flatMap EvA.row ++ ev2.flatMap EvA.row) = eS a4 c4 (tv ++ ev2) := by
     show _ = osl (.slice a4 (tv ++ ev2).length c4) 76 26 (tv ++ ev2).length ((tv ++ ev2).flatMap EvA.row)
     rw [List.length_append,List.flatMap_append]
    rw [e9] at q2
    exact q2
end Go.Proofs.YtohbcfokihplbaaGreatDoor
