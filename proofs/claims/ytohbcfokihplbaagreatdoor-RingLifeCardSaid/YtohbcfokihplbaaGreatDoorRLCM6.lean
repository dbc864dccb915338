/-
  Which tokens and commits may be in a packet.
-/
import Derived.Test.YtohbcfokihplbaaGreatDoorRLCM5
import Derived.Lib.SlKeysI
import Derived.Lib.AppendZerosOnto
set_option linter.unusedSimpArgs false
set_option linter.unusedVariables false
namespace Go.Proofs.YtohbcfokihplbaaGreatDoor
open Go.Hb
attribute [local irreducible] LR CW At Ev thn blk finK noG again CallsTo
set_option maxRecDepth 100000
def gapsQ (q : Int) (g : List Int) : List Int := g.filter (fun x=>withinB x 1 q)
def askV (t : Tk) (g : List Int) : List Int := (Lib.compact (sortI (t.ask ++ gapsQ t.seq g))).take 16
def aruV (t : Tk) (node aru : Int) : Int × Int := if aru < t.aru ∨ t.low = node ∨ t.low = 0 then (if t.seq < aru then t.seq else aru,if (if t.seq < aru then t.seq else aru) = t.seq then 0 else node) else (t.aru,t.low)
def mayV (t : Tk) (node aru : Int) : Bool := tokB t && !decide (t.hop = 9007199254740991) && withinB node 1 8 && decide (0 ≤ aru)
def visitT (t : Tk) (node aru : Int) (g : List Int) : Tk :=
 if mayV t node aru then ⟨t.r1,t.r2,t.hop + 1,t.seq,(aruV t node aru).1,(aruV t node aru).2,t.stamp,t.idle,askV t g⟩ else noTk
theorem tok_bd {t : Tk} (h : tokE t = 0) : 1 ≤ t.hop ∧ t.hop ≤ 9007199254740991 ∧ 0 ≤ t.seq ∧ t.seq ≤ 9007199254740991 ∧ 0 ≤ t.aru ∧ t.aru ≤ t.seq ∧ 0 ≤ t.low ∧ t.low ≤ 8 ∧ t.ask.length ≤ 16 := by
 unfold tokE at h
 split at h
 ·rename_i hb
  unfold tokB Tk.headB withinB at hb
  simp only [Bool.and_eq_true,decide_eq_true_eq] at hb
  omega
 ·cases h
theorem tok_b {t : Tk} (h : tokE t = 0) : tokB t = true := by
 unfold tokE at h
 split at h
 ·assumption
 ·cases h
theorem tok_nb {t : Tk} (h : ¬tokE t = 0) : tokB t = false := by
 unfold tokE at h
 split at h
 ·exact absurd rfl h
 ·rename_i hb;simpa using hb
def vis1 (t : Tk) (node aru : Int) : Tk := ⟨t.r1,t.r2,t.hop + 1,t.seq,(aruV t node aru).1,(aruV t node aru).2,t.stamp,t.idle,t.ask⟩
theorem gapsQ_succ {q : Int} {g : List Int} {i : Nat} (h : i < g.length) : gapsQ q (g.take (i + 1)) = gapsQ q (g.take i) ++ (if withinB g[i] 1 q then [g[i]] else []) := by
 unfold gapsQ
 rw [List.take_add_one,List.getElem?_eq_getElem h,Option.toList_some,List.filter_append]
 simp [List.filter_cons]
theorem gaps_yes {t : Tk} {g : List Int} {i : Nat} (h : i < g.length) (hy : withinB g[i] 1 t.seq = true) : t.ask ++ gapsQ t.seq (g.take (i + 1)) = (t.ask ++ gapsQ t.seq (g.take i)) ++ [g[i]] := by
 rw [gapsQ_succ h,if_pos hy,List.append_assoc]
theorem gaps_no {t : Tk} {g : List Int} {i : Nat} (h : i < g.length) (hy : withinB g[i] 1 t.seq = false) : t.ask ++ gapsQ t.seq (g.take (i + 1)) = t.ask ++ gapsQ t.seq (g.take i) := by
 rw [gapsQ_succ h,if_neg (by simp [hy]),List.append_nil]
theorem il_snoc (a : Option Addr) (c : Nat) (l : List Int) (x : Int) : osl (.slice a (l.length + 1) c) 3 1 (l.length + 1) (iv l ++ [.int .i64 x]) = il a c (l ++ [x]) := by simp [il,iv]
theorem ownsAt_lt {w : World} {E : TypeId} {sz n k : Nat} {v : Value} {xs : List Value} (h : ownsAt w E sz v n xs) (hk : v.ownBlock = some k) : k < w.heap.size := by
 rcases h.2 with ⟨rfl,_⟩ | ⟨g,o,cap,cur,rfl,hg,_⟩
 ·cases hk
 ·cases hk;exact (Array.getElem?_eq_some_iff.1 hg).1
theorem ownsRow_cap {w : World} {base E sz n c : Nat} {a : Option Addr} {xs : List Value} (h : w.ownsRow base E sz (.slice a n c) n xs) : n ≤ c := by
 rcases h.2 with ⟨he,hn⟩ | ⟨g,cap,cur,he,_,_,h1,_⟩
 ·omega
 ·simp only [Value.slice.injEq] at he
  obtain ⟨_,_,rfl⟩ := he
  exact h1
theorem aruV_a {t : Tk} {node aru : Int} (h : aru < t.aru ∨ t.low = node ∨ t.low = 0) (h2 : (if t.seq < aru then t.seq else aru) = t.seq) : aruV t node aru = (if t.seq < aru then t.seq else aru,0) := by
 unfold aruV
 rw [if_pos h,if_pos h2]
theorem aruV_b {t : Tk} {node aru : Int} (h : aru < t.aru ∨ t.low = node ∨ t.low = 0) (h2 : ¬(if t.seq < aru then t.seq else aru) = t.seq) : aruV t node aru = (if t.seq < aru then t.seq else aru,node) := by
 unfold aruV
 rw [if_pos h,if_neg h2]
theorem aruV_c {t : Tk} {node aru : Int} (h : ¬(aru < t.aru ∨ t.low = node ∨ t.low = 0)) : aruV t node aru = (t.aru,t.low) := by
 unfold aruV
 rw [if_neg h]
theorem gapsQ_len (q : Int) (g : List Int) : (gapsQ q g).length ≤ g.length := List.length_filter_le _ _
set_option maxHeartbeats 1000000 in
theorem t14 (t : Tk) (a : Option Addr) (c : Nat) (node aru : Int) (ag : Option Addr) (cg : Nat) (g : List Int) (w : World) (hr : Rd w a (iv t.ask)) (hz : a = none → c = 0) (hm : t.ask.length ≤ 17592186043904) (hrg : Rd w ag (iv g)) (hmg : g.length ≤ 17592186043904) :
  CallsTo Tryz.prog 183 [t.val a c,.int .i64 node,.int .i64 aru,.slice ag g.length cg] w fun v w'=>∃ a' c',v = (visitT t node aru g).val a' c' ∧ NewOd w w' (.slice a' (visitT t node aru g).ask.length c') 3 1 (visitT t node aru g).ask.length (iv (visitT t node aru g).ask) := by
 refine go_in (n := 94) (St.rd2 hr hrg) Tryz.func183 rfl rfl ?_
 repeat'(first|(apply kB;(iterate 2 exact rfl);intro b0)|(apply kA;exact rfl;intro b8)|refine gz ?_|(apply kq;(·exact rfl);(·intro w1 h1;exact CallsTo.q (t16 t a c w1 (h1.rd_of memZ) (by omega)) h1))|(apply kq;(·exact rfl);(·intro w1 h1;exact CallsTo.q (t51 _ _ _ w1) h1))|(apply addX;(iterate 2 exact rfl);(have := tok_bd (by assumption);omega);(have := tok_bd (by assumption);omega);exact rfl)|(apply LR.ev;(·apply Ev.min2;(·exact rfl);(·exact rfl));(·exact rfl))|(refine gs ?_ ?_;all_goals(intro hc;try simp only[hcs]at hc;try exact abz)))
 all_goals (
  first
  | ((apply ret1c;(·exact rfl);(·exact inferInstance);(·exact rfl);(·exact memY);(·exact rfl);intro w' hS)
     have e : visitT t node aru g = noTk := by unfold visitT mayV;rw [if_neg];first | (rw [tok_nb (by assumption)];simp;done) | (simp_all;done)
     rw [e]
     exact ⟨none,0,rfl,hS.toKeep,⟨rfl,.inl ⟨rfl,rfl⟩⟩,fun k hk=>by cases hk⟩)
  | skip)
 all_goals (try (exfalso;have hbd := tok_bd (by assumption);omega))
 all_goals (
  have hE : tokE t = 0 := by assumption
  have hbd := tok_bd hE
  refine LR.sub (D := St w NoF [.own b8 (.cells (noTk.cells none 0).toArray 54 (0,0)),.own b0 (.cells ((vis1 t node aru).cells a c).toArray 54 (0,0)),rdA a (iv t.ask),rdA ag (iv g)]) ?_ ?_
  ·intro w' h
   show St w NoF [.own b8 (.cells (noTk.cells none 0).toArray 54 (0,0)),.own b0 (.cells #[.int .i64 t.r1,.int .i64 t.r2,.int .i64 (t.hop + 1),.int .i64 t.seq,.int .i64 (aruV t node aru).1,.int .i64 (aruV t node aru).2,.int .i64 t.stamp,.int .i64 t.idle,.slice a t.ask.length c] 54 (0,0)),rdA a (iv t.ask),rdA ag (iv g)] w'
   first
   | (refine (fun (e : aruV t node aru = (if t.seq < aru then t.seq else aru,0))=>?_) (aruV_a ?_ ?_)
      ·rw [e];exact h
      ·simp_all
      ·assumption)
   | (refine (fun (e : aruV t node aru = (if t.seq < aru then t.seq else aru,node))=>?_) (aruV_b ?_ ?_)
      ·rw [e];exact h
      ·simp_all
      ·assumption)
   | (refine (fun (e : aruV t node aru = (t.aru,t.low))=>?_) (aruV_c ?_)
      ·rw [e];exact h
      ·simp_all))
 all_goals (
  apply LR.call
  ·exact rfl
  intro w1 h1
  refine (t52 a c t.ask w1 (h1.rd_of memZ) hz hm).mono ?_
  rintro v w2 ⟨a1,c1,rfl,hn⟩
  refine LR.back (h1.newSl hn) ?_
  clear hn h1
  repeat'(first|refine gz ?_)
  apply CW.loop [9,11,67,68,69,70,71,72,73,74,75,76,77,78,79] (fun s : Nat × Option Addr × Nat=>s.1 ≤ g.length) (fun s=>[(9,.slice s.2.1 (t.ask ++ gapsQ t.seq (g.take s.1)).length s.2.2),(67,.int .i64 (s.1 : Int))])
   (fun s=>St w NoF [il s.2.1 s.2.2 (t.ask ++ gapsQ t.seq (g.take s.1)),.own b8 (.cells (noTk.cells none 0).toArray 54 (0,0)),.own b0 (.cells ((vis1 t node aru).cells a c).toArray 54 (0,0)),rdA a (iv t.ask),rdA ag (iv g)]) (fun s=>g.length - s.1)
  ·intro w' hw'
   refine ⟨(0,a1,c1),by omega,⟨?_,rfl,trivial⟩,?_⟩
   ·simp [gapsQ]
    rfl
   ·simpa [gapsQ,il] using hw'
  rintro ⟨i,a2,c2⟩ g' hi
  simp only at hi ⊢
  have hk : (t.ask ++ gapsQ t.seq (g.take i)).length ≤ 16 + g.length := by
   have h1 := gapsQ_len t.seq (g.take i)
   rw [List.length_append]
   rw [List.length_take] at h1
   omega
  by_cases hlt : i < g.length
  ·obtain ⟨bg,og,rfl⟩ := hrg.form (fun e=>by have := congrArg List.length e;simp at this;subst this;simp at hlt)
   repeat'(first|refine gz ?_|refine gy fun _=>?_|(apply idxX;(iterate 2 exact rfl);(iterate 2(first|omega));exact rfl)|(apply LR.ev;(·apply Ev.load_rd;(·exact rfl);(·repeat (first | exact mH _ _ | apply mT));(·exact iv_at (i := i) (by simp) (by omega)));(·exact rfl))|(apply addX;(iterate 2 exact rfl);(iterate 2(first|omega));exact rfl)|(apply kq;(·exact rfl);(·intro w1 h1;exact CallsTo.q (t51 _ _ _ w1) h1))|(apply LR.append (xs := iv (t.ask ++ gapsQ t.seq (g.take i))) (news := [Value.int .i64 g[i]]) (m := 1);(·exact rfl);(·exact rfl);(·intro a' c';exact selZ);(·exact fun w' hw'=>hw'.rd_of_blk (mH _ _));(·exact fun hx=>by cases hx);(·exact rfl);(·exact rfl);(·omega);(·unfold maxLen;omega);(·exact rfl);(intro a3 c3))|(refine gs ?_ ?_;all_goals(intro hc;try simp only[hcs]at hc;try exact abz)))
   ·refine At.again (i + 1,a3,c3) (by simp;omega) ?_ ⟨?_,?_,trivial⟩ ?_ (by simp;omega)
    ·exact outZ
    ·rw [gaps_yes hlt (by assumption)]
     refine congrArg (fun k=>Value.slice a3 k c3) ?_
     simp only [List.length_append,List.length_cons,List.length_nil]
    ·rfl
    ·intro w' hw'
     rw [il_snoc] at hw'
     rw [gaps_yes hlt (by assumption)]
     exact hw'.sub subN
   ·refine At.again (i + 1,a2,c2) (by simp;omega) ?_ ⟨?_,?_,trivial⟩ ?_ (by simp;omega)
    ·exact outZ
    ·rw [gaps_no hlt (by assumption)]
     rfl
    ·rfl
    ·intro w' hw'
     rw [gaps_no hlt (by assumption)]
     exact hw'
  ·have hie : i = g.length := by omega
   subst hie
   rw [List.take_length] at hk ⊢
   generalize hL : t.ask ++ gapsQ t.seq g = L at hk ⊢
   repeat'(first|refine gz ?_|(refine gs ?_ ?_;all_goals(intro hc;try simp only[hcs]at hc;try exact abz)))
   apply LR.call
   ·exact rfl
   intro w1 h1
   have hcap : L.length ≤ c2 := ownsRow_cap (h1.holds (il a2 c2 L) memZ)
   refine (t53 a2 c2 L w1 (h1.holds (il a2 c2 L) memZ) (by omega)).mono ?_
   rintro v w2 ⟨rfl,st⟩
   refine LR.back (h1.did selZ rfl st (osl.dep _ _ _ _ _)) ?_
   clear st h1
   repeat'(first|refine gz ?_)
   apply LR.call
   ·exact rfl
   intro w1 h1
   refine CallsTo.mono (show CallsTo Tryz.prog 244 [.slice a2 L.length c2] w1 (fun v w'=>v = .slice a2 (Lib.compact (sortI L)).length c2 ∧ Step (il a2 c2 (sortI L)) (il a2 c2 (Lib.compact (sortI L))) w1 w') from ?_) ?_
   ·rw [← sortI_len L]
    exact t54 a2 c2 (sortI L) w1 (h1.holds (il a2 c2 (sortI L)) memZ) (by rw [sortI_len];omega)
   rintro v w2 ⟨rfl,st⟩
   refine LR.back (h1.did selZ rfl st (osl.dep _ _ _ _ _)) ?_
   clear st h1
   have hA : askV t g = (Lib.compact (sortI L)).take 16 := by unfold askV;rw [hL]
   have hKc : (Lib.compact (sortI L)).length ≤ c2 := by have := compact_len (sortI L);rw [sortI_len] at this;omega
   generalize hK : Lib.compact (sortI L) = K at hA hKc ⊢
   repeat'(first|refine gz ?_)
   apply LR.ev
   ·apply minQ (a := K.length) (b := 16) (q := min 16 K.length)
    ·rfl
    ·exact rfl
    ·exact rfl
   ·exact rfl
   repeat'(first|refine gz ?_|(apply LR.ev;(·apply minQ (a := K.length) (b := 16) (q := min 16 K.length);(·rfl);(·exact rfl);(·exact rfl));(·exact rfl))|fail)
   apply LR.ev
   ·apply Ev.slice_cut (j := min 16 K.length)
    ·exact rfl
    ·exact rfl
    ·exact rfl
    ·omega
   ·exact rfl
   repeat'(first|refine gz ?_)
   (apply ret1c;(·exact rfl);(·exact inferInstance);(·exact rfl);(·exact memY);(·exact rfl);intro w' hS)
   have h1 : ownsAt w' 3 1 (.slice a2 K.length c2) K.length (iv K) := ownsAt_of (hS.holds (il a2 c2 K) memZ)
   have h2 := ownsAt_cut (l := min 16 K.length) h1 (by omega)
   have e : visitT t node aru g = { vis1 t node aru with ask := K.take 16 } := by
    unfold visitT
    rw [if_pos ?_,hA]
    ·rfl
    ·unfold mayV
     rw [tok_b hE]
     simp_all
   rw [e]
   refine ⟨a2,min 16 K.length,?_,hS.toKeep,?_,?_⟩
   ·refine congrArg (fun x=>Value.agg #[.int .i64 t.r1,.int .i64 t.r2,.int .i64 (t.hop + 1),.int .i64 t.seq,.int .i64 (aruV t node aru).1,.int .i64 (aruV t node aru).2,.int .i64 t.stamp,.int .i64 t.idle,x]) ?_
    rw [ownsAt_sub0 h1,List.length_take]
   ·simp only [List.length_take]
    rw [Nat.mul_one] at h2
    have e3 : (iv K).take (min 16 K.length) = iv (K.take 16) := by
     unfold iv
     rw [← List.map_take,← List.take_eq_take_min]
    rw [e3] at h2
    exact h2
   ·intro k hk
    exact ⟨Nat.le_of_not_lt fun hlt=>hS.mine (il a2 c2 K) memZ rfl k (by cases a2 with | none=>cases hk | some ad=>exact hk) hlt,ownsAt_lt h2 (by cases a2 with | none=>cases hk | some ad=>exact hk)⟩)
end Go.Proofs.YtohbcfokihplbaaGreatDoor
namespace Go.Proofs.YtohbcfokihplbaaGreatDoor
open Go.Hb Go.Lib
def gd (l : List Int) (k : Nat) : Int := l.getD k 0
section
variable {n i : Nat} {al ll sl : List Int} {t : Tk} {y1 y2 y3 : Int} {jj : Nat}
end
end Go.Proofs.YtohbcfokihplbaaGreatDoor
namespace Go.Proofs.YtohbcfokihplbaaGreatDoor
open Go.Hb
attribute [local irreducible] LR CW At Ev thn blk finK noG again CallsTo DW QL dnext TW DP
set_option maxRecDepth 100000
theorem getT_seq {D : List Dat} {s : Int} (h : hasD D s = true) : (getT D s).seq = s := by
 rw [← fnd_has] at h
 obtain ⟨d,hd⟩ := Option.isSome_iff_exists.1 h
 unfold getT
 rw [hd]
 unfold fndD at hd
 simpa using List.find?_some hd
theorem dats_len (es : List DaA) : (dats es).length = es.length := by simp [dats]
end Go.Proofs.YtohbcfokihplbaaGreatDoor
namespace Go.Hb
abbrev B64 (c : Int) : BitVec 64 := BitVec.ofInt 64 c
def tb (c : Int) (n : Nat) : Bool := (B64 c).getLsbD n
theorem wrap_toInt (x : BitVec 64) : IntKind.i64.wrap (x.toNat : Int) = x.toInt := by
 have hx := x.isLt
 have e1 : IntKind.i64.bits = 64 := rfl
 have e2 : IntKind.i64.signed = true := rfl
 unfold IntKind.wrap
 rw [e1,e2,BitVec.toInt_eq_toNat_cond]
 simp only [Bool.true_and,ge_iff_le,decide_eq_true_eq]
 split <;> split <;> omega
theorem andI_eq (a b : Int) : andI .i64 a b = (B64 a &&& B64 b).toInt := wrap_toInt _
theorem andNotI_eq (a b : Int) : andNotI .i64 a b = (B64 a &&& ~~~ B64 b).toInt := wrap_toInt _
theorem toInt_zero {x : BitVec 64} : x.toInt = 0 ↔ x = 0 := by
 constructor
 ·intro h
  have : x.toInt = (0 : BitVec 64).toInt := by rw [h];rfl
  exact BitVec.toInt_inj.1 this
 ·rintro rfl;rfl
theorem low9 {n : Nat} (h : n ≤ 8) : n = 0 ∨ n = 1 ∨ n = 2 ∨ n = 3 ∨ n = 4 ∨ n = 5 ∨ n = 6 ∨ n = 7 ∨ n = 8 := by omega
theorem tb_div (c : Int) (n : Nat) (h : n ≤ 8) : tb c n = decide ((c.fdiv (2 ^ n)) % 2 = 1) := by
 unfold tb
 rw [← BitVec.testBit_toNat,Nat.testBit_eq_decide_div_mod_eq,BitVec.toNat_ofInt,decide_eq_decide,Int.fdiv_eq_ediv_of_nonneg c (by exact Int.le_of_lt (Int.pow_pos (by decide)))]
 rcases low9 h with rfl | rfl | rfl | rfl | rfl | rfl | rfl | rfl | rfl <;> simp only [Nat.reducePow,Int.reducePow,Nat.pow_zero,Int.pow_zero] <;> omega
theorem and_one (x : Int) : andI .i64 x 1 = x % 2 := by
 rw [andI_eq,BitVec.toInt_eq_toNat_cond,BitVec.toNat_and]
 have e : (B64 1).toNat = 1 := rfl
 rw [e,Nat.and_one_is_mod,BitVec.toNat_ofInt]
 split <;> omega
theorem shr_and (c : Int) (n : Nat) (h : n ≤ 8) : (andI .i64 (c.fdiv (2 ^ n)) 1 = 0) ↔ tb c n = false := by
 rw [and_one,tb_div c n h,decide_eq_false_iff_not]
 omega
def sumTo (c : Int) : Nat → Int
 | 0=>0
 | k + 1=>sumTo c k + if tb c (k + 1) then 2 ^ (k + 1) else 0
def sumB (c : Int) : Int := sumTo c 8
def crewOk (c : Int) : Bool := decide (0 ≤ c ∧ c ≤ 510 ∧ c % 2 = 0)
theorem crew_fin : ∀ k : Fin 512,(andNotI .i64 (k.val : Int) 510 = 0 ↔ crewOk (k.val : Int) = true) ∧ (sumB (k.val : Int) = (k.val : Int) ↔ crewOk (k.val : Int) = true) := by decide +kernel
theorem sumTo_bd (c : Int) : ∀ k,0 ≤ sumTo c k ∧ sumTo c k ≤ 2 ^ (k + 1) - 2
 | 0=>by show (0 : Int) ≤ 0 ∧ (0 : Int) ≤ 2 ^ (0 + 1) - 2;decide
 | k + 1=>by
  have ih := sumTo_bd c k
  have hp : (0 : Int) < 2 ^ (k + 1) := Int.pow_pos (by decide)
  have e : (2 : Int) ^ (k + 1 + 1) = 2 ^ (k + 1) * 2 := Int.pow_succ 2 (k + 1)
  unfold sumTo
  split <;> omega
theorem sumB_bd (c : Int) : 0 ≤ sumB c ∧ sumB c ≤ 510 := sumTo_bd c 8
theorem andNot_le {x m : BitVec 64} (h : x &&& ~~~ m = 0) : x.toNat ≤ m.toNat := by
 have e : x = x &&& m := by
  refine BitVec.eq_of_getLsbD_eq fun i hi=>?_
  have h1 := congrArg (fun z=>z.getLsbD i) h
  simp only [BitVec.getLsbD_and,BitVec.getLsbD_not,BitVec.getLsbD_zero,hi,decide_true,Bool.true_and] at h1 ⊢
  have h1 : (x.getLsbD i && !m.getLsbD i) = false := by simpa using h1
  revert h1
  cases x.getLsbD i <;> cases m.getLsbD i <;> simp
 rw [e,BitVec.toNat_and]
 exact Nat.and_le_right
theorem crew_rng {c : Int} (h1 : -9223372036854775808 ≤ c) (h2 : c ≤ 9223372036854775807) (h : andNotI .i64 c 510 = 0) : 0 ≤ c ∧ c ≤ 510 := by
 rw [andNotI_eq,toInt_zero] at h
 have h3 := andNot_le h
 have e : (B64 510).toNat = 510 := rfl
 rw [e,BitVec.toNat_ofInt] at h3
 omega
theorem andNot_ok {c : Int} (h1 : -9223372036854775808 ≤ c) (h2 : c ≤ 9223372036854775807) : andNotI .i64 c 510 = 0 ↔ crewOk c = true := by
 by_cases h : 0 ≤ c ∧ c < 512
 ·have := (crew_fin ⟨c.toNat,by omega⟩).1
  simp only [Int.toNat_of_nonneg h.1] at this
  exact this
 ·constructor
  ·intro h3
   have := crew_rng h1 h2 h3
   omega
  ·intro h3
   unfold crewOk at h3
   rw [decide_eq_true_eq] at h3
   omega
theorem sumB_ok (c : Int) : sumB c = c ↔ crewOk c = true := by
 by_cases h : 0 ≤ c ∧ c < 512
 ·have := (crew_fin ⟨c.toNat,by omega⟩).2
  simp only [Int.toNat_of_nonneg h.1] at this
  exact this
 ·constructor
  ·intro h3
   have := sumB_bd c
   omega
  ·intro h3
   unfold crewOk at h3
   rw [decide_eq_true_eq] at h3
   omega
def hasC (c n : Int) : Bool := decide (0 < n ∧ n ≤ 8) && tb c n.toNat
theorem tb_ok {c : Int} (h : crewOk c = true) {i : Nat} (hi : tb c i = true) : 1 ≤ i ∧ i ≤ 8 := by
 have hf : ∀ k : Fin 512,crewOk (k.val : Int) = true → ∀ j : Fin 64,tb (k.val : Int) j.val = true → 1 ≤ j.val ∧ j.val ≤ 8 := by decide +kernel
 have hc := h
 unfold crewOk at hc
 rw [decide_eq_true_eq] at hc
 rcases Nat.lt_or_ge i 64 with hlt | hge
 ·have := hf ⟨c.toNat,by omega⟩
  simp only [Int.toNat_of_nonneg hc.1] at this
  exact this h ⟨i,hlt⟩ hi
 ·unfold tb at hi
  rw [BitVec.getLsbD_of_ge _ _ hge] at hi
  cases hi
def withinC (a b : Int) : Bool := (List.range 8).all fun k=>!tb a (k + 1) || tb b (k + 1)
theorem andNot_within {a b : Int} (ha : crewOk a = true) : andNotI .i64 a b = 0 ↔ withinC a b = true := by
 rw [andNotI_eq,toInt_zero]
 unfold withinC
 rw [List.all_eq_true]
 constructor
 ·intro h k _
  have h1 := congrArg (fun z=>z.getLsbD (k + 1)) h
  simp only [BitVec.getLsbD_and,BitVec.getLsbD_not,BitVec.getLsbD_zero] at h1
  unfold tb
  cases hx : (B64 a).getLsbD (k + 1) with
  | false=>rfl
  | true=>
   have hi := BitVec.lt_of_getLsbD hx
   rw [hx] at h1
   simpa [hi] using h1
 ·intro h
  refine BitVec.eq_of_getLsbD_eq fun i hi=>?_
  simp only [BitVec.getLsbD_and,BitVec.getLsbD_not,BitVec.getLsbD_zero,hi,decide_true,Bool.true_and]
  cases hx : (B64 a).getLsbD i with
  | false=>simp
  | true=>
   have h1 := tb_ok ha (i := i) hx
   have h2 := h (i - 1) (List.mem_range.2 (by omega))
   rw [show i - 1 + 1 = i by omega] at h2
   unfold tb at h2
   rw [hx] at h2
   simpa using h2
end Go.Hb
namespace Go.Proofs.YtohbcfokihplbaaGreatDoor
open Go.Hb
theorem asc_extC {l r : List Int} (hl : l.Pairwise (·< ·)) (hr : r.Pairwise (·< ·)) (h : ∀ x,x ∈ l ↔ x ∈ r) : l = r := by
 have n1 : l.Nodup := hl.imp (fun hab=>by omega)
 have n2 : r.Nodup := hr.imp (fun hab=>by omega)
 refine List.Perm.eq_of_pairwise (le := fun a b=>a < b) (fun a b _ _ h1 h2=>by omega) hl hr ((List.perm_ext_iff_of_nodup n1 n2).2 h)
structure Cfg where
 rs : Int
 rr : Int
 os : Int
 or_ : Int
 mem : Int
 trans : Bool
 stamp : Int
def zeroCfg : Cfg := ⟨0,0,0,0,0,false,0⟩
structure EvD where
 kind : Int
 cfg : Cfg
 dat : Dat
def msgE (d : Dat) : EvD := ⟨2,zeroCfg,d⟩
def cfgE (c : Cfg) : EvD := ⟨1,c,zeroDat⟩
def tellD (d : Dat) : List EvD := if d.msg.kind = 5 then [] else [msgE d]
def progT (safe kin : Int) (t : EvD) : Int → Bool → Bool → List Dat → List EvD
 | _,p,_,[]=>if p then [] else [t]
 | at_,p,g,d :: r=>
  let g' := g || !decide (d.seq = at_ + 1)
  let cut := !p && (g' || (d.msg.safe && decide (safe < d.seq)))
  (if cut then [t] else []) ++ (if !g' || hasC kin d.sender then tellD d else []) ++ progT safe kin t d.seq (p || cut) g' r
def stopB (D : List Dat) (safe n : Int) : Bool := !hasD D (n + 1) || ((getT D (n + 1)).msg.safe && decide (safe < n + 1))
theorem abv_head {D : List Dat} (h : WOk D) {n : Int} (hn : hasD D (n + 1) = true) : abvT D n = getT D (n + 1) :: abvT D (n + 1) := by
 have e : (sqs D).filter (fun s=>decide (n < s)) = (n + 1) :: (sqs D).filter (fun s=>decide (n + 1 < s)) := by
  refine asc_extC ((sqs_asc h).filter _) ?_ fun x=>?_
  ·rw [List.pairwise_cons]
   refine ⟨fun x hx=>?_,(sqs_asc h).filter _⟩
   have := (List.mem_filter.1 hx).2
   simpa using this
  ·rw [List.mem_cons,List.mem_filter,List.mem_filter,decide_eq_true_eq,decide_eq_true_eq,mem_sqs]
   constructor
   ·rintro ⟨h1,h2⟩
    by_cases e : x = n + 1
    ·exact .inl e
    ·exact .inr ⟨h1,by omega⟩
   ·rintro (rfl | ⟨h1,h2⟩)
    ·exact ⟨hn,by omega⟩
    ·exact ⟨h1,by omega⟩
 unfold abvT abvS
 rw [e,List.map_cons]
theorem abv_gt {D : List Dat} {n : Int} {d : Dat} (h : d ∈ abvT D n) : n < d.seq ∧ hasD D d.seq = true ∧ d = getT D d.seq := by
 unfold abvT abvS at h
 obtain ⟨s,hs,rfl⟩ := List.mem_map.1 h
 rw [List.mem_filter,decide_eq_true_eq,mem_sqs] at hs
 have := getT_seq hs.1
 rw [this]
 exact ⟨hs.2,hs.1,rfl⟩
theorem tell_mem {d : Dat} {e : EvD} (h : e ∈ tellD d) : e = msgE d ∧ d.msg.kind ≠ 5 := by
 unfold tellD at h
 split at h
 ·cases h
 ·rename_i hk
  exact ⟨List.mem_singleton.1 h,hk⟩
def toldT (D : List Dat) (done safe kin : Int) (t nx : Cfg) : List EvD := progT safe kin (cfgE t) done false false (abvT D done) ++ [cfgE nx]
end Go.Proofs.YtohbcfokihplbaaGreatDoor
namespace Go.Proofs.YtohbcfokihplbaaGreatDoor
open Go.Hb
attribute [local irreducible] LR CW At Ev thn blk finK noG again CallsTo DW QL dnext TW DP
set_option maxRecDepth 100000
structure Cst where
 k : Nat
 a : Option Addr
 c : Nat
abbrev ilK (a : Option Addr) (c : Nat) (l : List Int) : Asrt := osl (.slice a l.length c) 3 1 l.length (iv l)
def liveR (s r : Int) : Bool := decide (¬ (s = 0 ∧ r = 0) ∧ ringE s r = 0)
theorem q61 (c : Int) (w : World) (hc : -9223372036854775808 ≤ c ∧ c ≤ 9223372036854775807) : CallsTo Tryz.prog 73 [.int .i64 c] w fun v w'=>v = .int .i64 (if crewOk c then 0 else 2) ∧ Grew w w' := by
 refine go_in (n := 6) (St.refl _ NoF) Tryz.func73 rfl rfl ?_
 have hk := andNot_ok hc.1 hc.2
 repeat'(first|refine gz ?_|(refine gs ?_ ?_;all_goals(intro hc;try simp only[hcs]at hc;try exact abz)))
 all_goals (
  (apply ret1;(·exact rfl);intro w' hS)
  refine ⟨congrArg (Value.int .i64) ?_,hS.toKeep⟩
  first
   | (rw [if_pos (hk.1 (by assumption))])
   | (rw [if_neg (fun h=>absurd (hk.2 h) (by assumption))]))
theorem q23 (c n : Int) (w : World) : CallsTo Tryz.prog 53 [.int .i64 c,.int .i64 n] w fun v w'=>v = .bool (hasC c n) ∧ Grew w w' := by
 refine go_in (n := 18) (St.refl _ NoF) Tryz.func53 rfl rfl ?_
 by_cases h : 0 < n ∧ n ≤ 8
 ·obtain ⟨k,rfl⟩ : ∃ k : Nat,n = (k : Int) := ⟨n.toNat,by omega⟩
  have hk := shr_and c k (by omega)
  have hm : min (k : Int).toNat IntKind.i64.bits = k := by show min _ 64 = _;omega
  rw [← hm] at hk
  repeat'(first|refine gz ?_|(refine gs ?_ ?_;all_goals(intro hc;try simp only[hcs]at hc;try exact abz)))
  all_goals (
   (apply ret1;(·exact rfl);intro w' hS)
   refine ⟨congrArg Value.bool ?_,hS.toKeep⟩
   unfold hasC
   rw [decide_eq_true h,Bool.true_and]
   rw [hm] at hk ⊢
   rw [Int.toNat_natCast]
   cases hx : tb c k with
   | true=>rw [decide_eq_false (fun e=>by rw [hk.1 e] at hx;cases hx)];rfl
   | false=>rw [decide_eq_true (hk.2 hx)];rfl)
 ·repeat'(first|refine gz ?_|(refine gs ?_ ?_;all_goals(intro hc;try simp only[hcs]at hc;try exact abz)))
  all_goals (
   (apply ret1;(·exact rfl);intro w' hS)
   refine ⟨congrArg Value.bool ?_,hS.toKeep⟩
   unfold hasC
   rw [decide_eq_false h]
   rfl)
def crewTo (c : Int) (k : Nat) : List Int := ((List.range k).map fun i : Nat=>((i + 1 : Nat) : Int)).filter (hasC c)
theorem crewTo_succ (c : Int) (k : Nat) : crewTo c (k + 1) = crewTo c k ++ if hasC c ((k + 1 : Nat) : Int) then [((k + 1 : Nat) : Int)] else [] := by
 unfold crewTo
 rw [List.range_succ,List.map_append,List.filter_append]
 congr 1
 show List.filter (hasC c) [((k + 1 : Nat) : Int)] = _
 rw [List.filter_cons]
 rfl
theorem crewTo_len (c : Int) (k : Nat) : (crewTo c k).length ≤ k := by
 unfold crewTo
 refine Nat.le_trans (List.length_filter_le _ _) ?_
 simp
theorem crewTo_mem {c : Int} {k : Nat} {x : Int} (h : x ∈ crewTo c k) : 1 ≤ x ∧ x ≤ k ∧ hasC c x = true := by
 unfold crewTo at h
 obtain ⟨h1,h2⟩ := List.mem_filter.1 h
 obtain ⟨i,hi,rfl⟩ := List.mem_map.1 h1
 rw [List.mem_range] at hi
 exact ⟨by omega,by omega,h2⟩
abbrev crewL (c : Int) : List Int := crewTo c 8
def sumL (l : List Int) : Int := l.foldl (fun s x=>s + 2 ^ x.toNat) 0
theorem sumL_snoc (l : List Int) (x : Int) : sumL (l ++ [x]) = sumL l + 2 ^ x.toNat := by unfold sumL;rw [List.foldl_append];rfl
theorem hasC_nat (c : Int) {k : Nat} (h : k + 1 ≤ 8) : hasC c ((k + 1 : Nat) : Int) = tb c (k + 1) := by
 unfold hasC
 rw [decide_eq_true (by omega),Bool.true_and,Int.toNat_natCast]
theorem sumL_crew (c : Int) : ∀ k,k ≤ 8 → sumL (crewTo c k) = sumTo c k
 | 0,_=>rfl
 | k + 1,h=>by
  rw [crewTo_succ,hasC_nat c h]
  unfold sumTo
  rw [← sumL_crew c k (by omega)]
  split
  ·rw [sumL_snoc,Int.toNat_natCast]
  ·rw [List.append_nil];omega
theorem crewTo_asc (c : Int) (k : Nat) : (crewTo c k).Pairwise (·< ·) := by
 unfold crewTo
 refine List.Pairwise.filter _ ?_
 rw [List.pairwise_map]
 exact List.pairwise_lt_range.imp (fun h=>by omega)
def cmpI (x y : Int) : Int := if x < y then -1 else if y < x then 1 else 0
def orL : List Int → Int
 | []=>0
 | x :: r=>if x ≠ 0 then x else orL r
def ringsI (s r s' r' : Int) : Int := orL [cmpI s s',cmpI r r']
theorem q119 (x : Int) (w : World) : CallsTo Tryz.prog 147 [.int .i64 x] w fun v w'=>v = .bool false ∧ Grew w w' := by
 refine go_in (n := 6) (St.refl _ NoF) Tryz.func147 rfl rfl ?_
 repeat'(first|refine gz ?_)
 (apply ret1;(·exact rfl);intro w' hS)
 exact ⟨congrArg Value.bool (by simp),hS⟩
theorem q103 (x y : Int) (w : World) : CallsTo Tryz.prog 91 [.int .i64 x,.int .i64 y] w fun v w'=>v = .int .i64 (cmpI x y) ∧ Grew w w' := by
 refine go_in (n := 20) (St.refl _ NoF) Tryz.func91 rfl rfl ?_
 repeat'(first|refine gz ?_|(apply kq;(·exact rfl);(·intro w1 h1;exact CallsTo.q (q119 _ w1) h1))|(refine gs ?_ ?_;all_goals(intro hc;try simp only[hcs]at hc;try exact abz)))
 all_goals (
  (apply ret1;(·exact rfl);intro w' hS)
  refine ⟨congrArg (Value.int .i64) ?_,hS⟩
  unfold cmpI;split <;> (try split) <;> omega)
theorem orL_skip {l : List Int} {i : Nat} (h : i < l.length) (h0 : l[i] = 0) : orL (l.drop i) = orL (l.drop (i + 1)) := by
 rw [List.drop_eq_getElem_cons h,orL,if_neg (by simp [h0])]
theorem orL_hit {l : List Int} {i : Nat} (h : i < l.length) (h0 : ¬ l[i] = 0) : orL (l.drop i) = l[i] := by
 rw [List.drop_eq_getElem_cons h,orL,if_pos h0]
theorem q102 (a : Option Addr) (c : Nat) (l : List Int) (w : World) (hr : Rd w a (iv l)) (hm : l.length ≤ 1000) : CallsTo Tryz.prog 90 [.slice a l.length c] w fun v w'=>v = .int .i64 (orL l) ∧ Grew w w' := by
 refine go_in (n := 18) (St.rd1 hr) Tryz.func90 rfl rfl ?_
 repeat'(first|refine gz ?_)
 apply CW.loop [2,5,8,9,10,11,12,13,14,15,16] (fun i : Nat=>i ≤ l.length ∧ orL l = orL (l.drop i)) (fun i : Nat=>[(8,Value.int .i64 i)]) (fun i=>St w NoF [rdA a (iv l)]) (fun i=>l.length - i)
 ·exact fun w' hw'=>⟨0,⟨by omega,by simp⟩,⟨rfl,trivial⟩,hw'⟩
 intro i g ⟨hi,heq⟩
 by_cases hlt : i < l.length
 ·obtain ⟨ba,oa,rfl⟩ := hr.form (fun e=>by have := congrArg List.length e;simp at this;subst this;simp at hlt)
  repeat'(first|refine gz ?_|(apply idxX;(iterate 2 exact rfl);(iterate 2(first|omega));exact rfl)|(apply LR.ev;(·apply Ev.load_rd;(·exact rfl);(·repeat (first | exact mH _ _ ));(·exact iv_at (i := i) (by simp) (by omega)));(·exact rfl))|(apply addX;(iterate 2 exact rfl);(iterate 2(first|omega));exact rfl)|(refine gs ?_ ?_;all_goals(intro hc;try simp only[hcs]at hc;try exact abz)))
  ·(apply ret1;(·exact rfl);intro w' hS)
   refine ⟨congrArg (Value.int .i64) ?_,hS.toKeep⟩
   rw [heq,orL_hit hlt hc]
  ·apply At.again (i + 1) ⟨by omega,by rw [heq];exact orL_skip hlt hc⟩
   ·exact outZ
   ·exact ⟨rfl,trivial⟩
   ·exact fun w' hw'=>hw'
   ·omega
 ·have hie : i = l.length := by omega
  subst hie
  repeat'(first|refine gz ?_|(refine gs ?_ ?_;all_goals(intro hc;try simp only[hcs]at hc;try exact abz)))
  (apply ret1;(·exact rfl);intro w' hS)
  refine ⟨congrArg (Value.int .i64) ?_,hS.toKeep⟩
  rw [heq]
  simp [orL]
theorem q78 (s r s' r' : Int) (w : World) : CallsTo Tryz.prog 54 [.agg [.int .i64 s,.int .i64 r].toArray,.agg [.int .i64 s',.int .i64 r'].toArray] w fun v w'=>v = .int .i64 (ringsI s r s' r') ∧ Grew w w' := by
 refine go_in (n := 17) (St.refl _ NoF) Tryz.func54 rfl rfl ?_
 repeat'(first|(apply CW.reg_heldC)|refine gz ?_|refine gy fun _=>?_)
 all_goals (
  apply DW.quiet [0,1,2,3,5,6,7,8]
  ·decide +kernel
  ·exact stZ
  repeat'(first|refine gq ?_|apply QL.nil)
  all_goals (show DW _ _ _ _ _ _ _ _))
 all_goals (
  apply DW.loud 4
  ·exact rfl
  ·decide +kernel
  repeat'(first|refine gw ?_|(apply kq;(·exact rfl);(·intro w1 h1;exact CallsTo.q (q103 _ _ w1) h1))|fail)
  all_goals (refine ats ?_))
 all_goals (
  apply DW.loud 9
  ·exact rfl
  ·decide +kernel
  repeat'(first|refine gw ?_|(apply kq;(·exact rfl);(·intro w1 h1;exact CallsTo.q (q103 _ _ w1) h1))|fail)
  all_goals (refine ats ?_))
 all_goals (
  apply DW.loud 10
  ·exact rfl
  ·decide +kernel
  repeat'(first|refine gw ?_|refine gy fun _=>?_)
  all_goals (refine ats ?_))
 all_goals (
  apply DW.loud 11
  ·exact rfl
  ·decide +kernel
  repeat'(first|refine gw ?_|(apply kq;(·exact rfl);(·intro w1 h1;exact CallsTo.q (q102 (some ⟨_,0,none⟩) 2 [cmpI s s',cmpI r r'] w1 (h1.rd_of_blk memZ) (by simp)) h1)))
  all_goals (refine ats ?_))
 all_goals (
  apply DW.quiet [12]
  ·decide +kernel
  ·exact stZ
  repeat'(first|refine gq ?_|apply QL.nil)
  all_goals (show DW _ _ _ _ _ _ _ _))
 all_goals (first | (apply DW.done_thn;(·decide +kernel)) |fail)
 repeat'(first|refine gz ?_)
 (apply ret1;(·exact rfl);intro w' hS)
 exact ⟨rfl,hS.toKeep⟩
theorem cell_atC {w0 w : World} {F : Nat → Prop} {L : List Asrt} {b : Nat} {cs : List Value} {E : TypeId} {fr : Nat × Nat} {q i : Nat} {v : Value} (h : St w0 F L w) (hm : Asrt.own b (.cells cs.toArray E fr) ∈ L) (hq : q = i) (hv : cs[i]? = some v) : w.cell? ⟨b,q,none⟩ = some v := by
 subst hq
 rw [cell_own (show w.heap[b]? = some (.cells cs.toArray E fr) from h.holds _ hm)]
 simpa using hv
theorem q77 (s r : Int) (w : World) : CallsTo Tryz.prog 340 [.agg [.int .i64 s,.int .i64 r].toArray] w fun v w'=>v = .bool (liveR s r) ∧ Grew w w' := by
 refine go_in (n := 11) (St.refl _ NoF) Tryz.func340 rfl rfl ?_
 repeat'(first|refine gz ?_|refine gy fun _=>?_|(apply kq;(·exact rfl);(·intro w1 h1;exact CallsTo.q (c81 _ _ w1) h1))|(refine gs ?_ ?_;all_goals(intro hc;try simp only[hcs]at hc;try exact abz)))
 all_goals (
  (apply ret1;(·exact rfl);intro w' hS)
  refine ⟨congrArg Value.bool ?_,hS.toKeep⟩
  unfold liveR
  first
   | exact decide_eq_decide.2 ⟨fun h=>⟨hc,h⟩,fun h=>h.2⟩
   | exact (decide_eq_false (fun h=>h.1 hc)).symm)
def Cfg.cells (c : Cfg) : List Value := [.int .i64 c.rs,.int .i64 c.rr,.int .i64 c.os,.int .i64 c.or_,.int .i64 c.mem,.bool c.trans,.int .i64 c.stamp]
def Cfg.val (c : Cfg) : Value := .agg c.cells.toArray
structure OldC where
 cfg : Cfg
 done : Int
 safe : Int
def OldC.cells (o : OldC) : List Value := o.cfg.cells ++ [.int .i64 o.done,.int .i64 o.safe]
def OldC.val (o : OldC) : Value := .agg o.cells.toArray
def inI (x : Int) : Prop := -9223372036854775808 ≤ x ∧ x ≤ 9223372036854775807
def mayC (o : OldC) (kin : Int) (nx : Cfg) : Bool :=
 crewOk o.cfg.mem && crewOk nx.mem && crewOk kin && (liveR o.cfg.rs o.cfg.rr && liveR nx.rs nx.rr && decide (0 < ringsI nx.rs nx.rr o.cfg.rs o.cfg.rr)) && decide (0 ≤ o.done) && !decide (kin = 0) && withinC kin o.cfg.mem && withinC kin nx.mem
set_option maxHeartbeats 2000000 in
theorem q43 (o : OldC) (kin : Int) (nx : Cfg) (w : World) (h1 : inI o.cfg.mem) (h2 : inI nx.mem) (h3 : inI kin) : CallsTo Tryz.prog 298 [o.val,.int .i64 kin,nx.val] w fun v w'=>v = .bool (mayC o kin nx) ∧ Grew w w' := by
 refine go_in (n := 69) (St.refl _ NoF) Tryz.func298 rfl rfl ?_
 repeat'(first|(apply kB;(iterate 2 exact rfl);intro _)|(apply Go.Hb.kK;(iterate 4 exact rfl);intro bs)|refine gz ?_)
 rename_i b3 b5
 obtain ⟨l,hl⟩ : ∃ l : List Int,[o.cfg.mem,nx.mem,kin] = l := ⟨_,rfl⟩
 have hl3 : l.length = 3 := by rw [← hl];rfl
 have hlI : ∀ x ∈ l,inI x := fun x hx=>by
  rw [← hl] at hx
  simp only [List.mem_cons,List.not_mem_nil,or_false] at hx
  rcases hx with rfl | rfl | rfl
  ·exact h1
  ·exact h2
  ·exact h3
 have hcrew : ∀ b : Bool,(l.all crewOk = b) → (crewOk o.cfg.mem && crewOk nx.mem && crewOk kin) = b := fun b hb=>by
  rw [← hb,← hl]
  simp [Bool.and_assoc]
 apply CW.loop [6,8,18,19,20,21,22,23,24,25] (fun i : Nat=>i ≤ 3 ∧ ∀ x ∈ l.take i,crewOk x = true) (fun i : Nat=>[(18,Value.int .i64 (i : Int))]) (fun _=>St w NoF [.own bs (.cells (iv l).toArray 3 (0,0)),.own b5 (.cells nx.cells.toArray 74 (0,0)),.own b3 (.cells o.cells.toArray 266 (0,0))]) (fun i=>3 - i)
 ·intro w' hw'
  subst hl
  exact ⟨0,⟨by omega,by simp⟩,⟨rfl,trivial⟩,hw'⟩
 intro i g ⟨hi,hall⟩
 by_cases hlt : i < 3
 ·have hi3 : i < l.length := by omega
  have hx := hlI l[i] (List.getElem_mem hi3)
  repeat'(first|refine gz ?_|(apply idxX;(iterate 2 exact rfl);(iterate 2(first|omega));exact rfl)|(apply addX;(iterate 2 exact rfl);(iterate 2(first|omega));exact rfl)|(apply LR.ev;(·apply Ev.load;(·exact rfl);(·intro w' hw';exact cell_atC (b := bs) (cs := iv l) (i := i) hw' memZ (by omega) (iv_at (i := i) rfl hi3)));(·exact rfl))|(apply kq;(·exact rfl);(·intro w1 h1;show CallsTo Tryz.prog 73 [.int .i64 l[i]] w1 _;exact CallsTo.q (q61 l[i] w1 hx) h1))|(refine gs ?_ ?_;all_goals(intro hc;try simp only[hcs]at hc;try exact abz)))
  ·(apply ret1;(·exact rfl);intro w' hS)
   refine ⟨congrArg Value.bool ?_,hS.toKeep⟩
   have hno : crewOk l[i] = false := by
    cases hx2 : crewOk l[i] with
    | false=>rfl
    | true=>exfalso;rename_i hc;rw [hx2] at hc;revert hc;decide
   have hf : l.all crewOk = false := by
    rw [List.all_eq_false]
    exact ⟨_,List.getElem_mem hi3,by rw [hno];simp⟩
   unfold mayC
   rw [hcrew false hf]
   rfl
  ·have hyes : crewOk l[i] = true := by
    cases hx2 : crewOk l[i] with
    | true=>rfl
    | false=>exfalso;rename_i hc;rw [hx2] at hc;revert hc;decide
   refine At.again (i + 1) ⟨by omega,fun x hxm=>?_⟩ ?_ ⟨rfl,trivial⟩ (fun w' hw'=>hw') (by omega)
   ·rw [take_snocI hi3] at hxm
    rcases List.mem_append.1 hxm with hxm | hxm
    ·exact hall x hxm
    ·rw [List.mem_singleton.1 hxm];exact hyes
   ·exact outZ
 ·have hie : i = 3 := by omega
  subst hie
  have hallT : l.all crewOk = true := by
   rw [List.all_eq_true]
   intro x hx
   exact hall x (by rw [List.take_of_length_le (by omega)];exact hx)
  have hm : mayC o kin nx = ((liveR o.cfg.rs o.cfg.rr && liveR nx.rs nx.rr && decide (0 < ringsI nx.rs nx.rr o.cfg.rs o.cfg.rr)) && decide (0 ≤ o.done) && !decide (kin = 0) && withinC kin o.cfg.mem && withinC kin nx.mem) := by
   unfold mayC
   rw [hcrew true hallT]
   simp
  have hkk : crewOk kin = true := by
   have := List.all_eq_true.1 hallT kin (by rw [← hl];simp)
   exact this
  have hw1 := andNot_within (b := o.cfg.mem) hkk
  have hw2 := andNot_within (b := nx.mem) hkk
  rw [hm]
  clear hm hcrew
  repeat'(first|refine gz ?_|(apply kq;(·exact rfl);(·intro w1 h1;first | exact CallsTo.q (q77 o.cfg.rs o.cfg.rr w1) h1 | exact CallsTo.q (q77 nx.rs nx.rr w1) h1 | exact CallsTo.q (q78 nx.rs nx.rr o.cfg.rs o.cfg.rr w1) h1))|(refine gs ?_ ?_;all_goals(intro hc;try simp only[hcs]at hc;try exact abz)))
  all_goals (
   (apply ret1;(·exact rfl);intro w' hS)
   refine ⟨congrArg Value.bool ?_,hS.toKeep⟩
   clear hS hall hlI hallT hl h1 h2 h3 hkk
   rw [Bool.eq_iff_iff]
   simp only [Bool.and_eq_true,Bool.not_eq_true',decide_eq_true_eq,decide_eq_false_iff_not,← hw1,← hw2]
   first
    | (simp_all;done)
    | (constructor
       ·intro hq
        exact absurd hq (by simp)
       ·intro hq
        exfalso
        obtain ⟨⟨⟨⟨⟨hq1,hq2⟩,hq3⟩,hq4⟩,hq5⟩,hq6⟩ := hq
        omega))
structure EvA where
 kind : Int
 cfg : Cfg
 x : DaA
def EvA.row (e : EvA) : List Value := .int .i64 e.kind :: (e.cfg.cells ++ e.x.row)
theorem EvA.row_len (e : EvA) : e.row.length = 26 := rfl
def EvA.e (e : EvA) : EvD := ⟨e.kind,e.cfg,e.x.d⟩
def EvA.body (e : EvA) : Asrt := e.x.body
theorem EvA.dep (e : EvA) : e.body.dep := osl.dep _ _ _ _ _
theorem EvA.ex (e : EvA) : e.body.excl = true := rfl
abbrev bunE : List EvA → Asrt := bun EvA.body
abbrev eS (a : Option Addr) (c : Nat) (l : List EvA) : Asrt := osl (.slice a l.length c) 76 26 l.length (l.flatMap EvA.row)
theorem eS_snoc (a : Option Addr) (c : Nat) (l : List EvA) (x : EvA) : osl (.slice a (l.length + 1) c) 76 26 (l.length + 1) (l.flatMap EvA.row ++ x.row) = eS a c (l ++ [x]) := by simp [eS]
theorem ev_one (e : EvA) : e.row.all Value.oneCell' = true := by simp [EvA.row,Cfg.cells,DaA.row,Dat.cells,Msg.cells,Value.oneCell']
def zeroA : DaA := ⟨zeroDat,none,0⟩
def cfgA (c : Cfg) : EvA := ⟨1,c,zeroA⟩
def msgA (x : DaA) : EvA := ⟨2,zeroCfg,x⟩
def tellA (x : DaA) : List EvA := if x.d.msg.kind = 5 then [] else [msgA x]
theorem tellA_e (x : DaA) : (tellA x).map EvA.e = tellD x.d := by
 unfold tellA tellD
 split <;> rfl
abbrev tB (b : Nat) (a : Option Addr) (c n : Nat) : Asrt := .own b (.cells [.slice a n c].toArray 303 (0,0))
def tO (b : Nat) (a : Option Addr) (c : Nat) (l : List EvA) : Asrt := both (tB b a c l.length) (eS a c l)
theorem tO_dep (b : Nat) (a : Option Addr) (c : Nat) (l : List EvA) : (tO b a c l).dep := both_dep (Asrt.dep_own _ _) (osl.dep _ _ _ _ _)
theorem tO_turn {b : Nat} {a : Option Addr} {c : Nat} {l : List EvA} {w : World} (h : (tO b a c l).holds w) : St w (tO b a c l).foot [tB b a c l.length,eS a c l] w :=
 (St.one h (both_live h) (tO_dep _ _ _ _)).part (Asrt.dep_own _ _) (osl.dep _ _ _ _ _)
set_option maxHeartbeats 1000000 in
theorem q45 (b : Nat) (a : Option Addr) (c : Nat) (l : List EvA) (g : Cfg) (w : World) (h : (tO b a c l).holds w) (hl : l.length ≤ 100000) :
  CallsTo Tryz.prog 299 [.pointer (some ⟨b,0,none⟩),g.val] w fun v w'=>∃ a' c',v = .tuple #[] ∧ Step (tO b a c l) (tO b a' c' (l ++ [cfgA g])) w w' := by
 refine go_in (n := 13) (tO_turn h) Tryz.func299 rfl rfl ?_
 repeat'(first|(apply kB;(iterate 2 exact rfl);intro b3)|(apply CW.reg_sink 9 (St w (tO b a c l).foot [.own b3 (.cells g.cells.toArray 74 (0,0)),tB b a c l.length]);(·exact rfl);(·decide +kernel))|refine gz ?_)
 generalize hF : (tO b a c l).foot = F at *
 all_goals (
  apply DW.quiet [0,1,2,3,4,5]
  ·decide +kernel
  ·exact stZ
  repeat'(first|refine gq ?_|apply QL.nil)
  all_goals (show DW _ _ _ _ _ _ _ _))
 all_goals (
  apply DW.loud 6
  ·exact rfl
  ·decide +kernel
  repeat'(first|refine gw ?_|refine gy fun _=>?_)
  all_goals (refine ats ?_))
 all_goals (
  apply DW.loud 7
  ·exact rfl
  ·decide +kernel
  repeat'(first|refine gw ?_|(apply LR.append (xs := l.flatMap EvA.row) (news := (cfgA g).row) (m := 1);(·exact rfl);(·exact rfl);(·intro a' c';exact selZ);(·exact fun w' hw'=>hw'.rd_of_blk (mH _ _));(·exact fun hx=>by cases hx);(·exact rfl);(·exact ev_one _);(·omega);(·unfold maxLen;omega);(·exact rfl);(intro a4 c4)))
  all_goals (refine ats ?_))
 all_goals (
  apply DW.quiet [8]
  ·decide +kernel
  ·exact stZ
  repeat'(first|refine gq ?_|apply QL.nil)
  all_goals (show DW _ _ _ _ _ _ _ _))
 all_goals (apply DW.done;(·decide +kernel))
 all_goals apply At.sink
 repeat'(first|refine gz ?_)
 apply end0
 ·exact rfl
 intro w' hS
 subst hF
 have h1 : St w (tO b a c l).foot [tB b a4 c4 (l ++ [cfgA g]).length,eS a4 c4 (l ++ [cfgA g])] w' := by
  rw [show (l ++ [cfgA g]).length = l.length + 1 by simp]
  have h2 : St w (tO b a c l).foot [tB b a4 c4 (l.length + 1),osl (.slice a4 (l.length + 1) c4) 76 26 (l.length + 1) (l.flatMap EvA.row ++ (cfgA g).row)] w' := hS.sub subN
  rw [eS_snoc] at h2
  exact h2
 exact ⟨a4,c4,rfl,(h1.join rfl rfl).step rfl⟩
set_option maxHeartbeats 1000000 in
theorem q46 (b : Nat) (a : Option Addr) (c : Nat) (l : List EvA) (x : DaA) (w : World) (h : (tO b a c l).holds w) (hl : l.length ≤ 100000) :
  CallsTo Tryz.prog 300 [.pointer (some ⟨b,0,none⟩),x.d.val x.a x.c] w fun v w'=>∃ a' c',v = .tuple #[] ∧ Step (tO b a c l) (tO b a' c' (l ++ tellA x)) w w' := by
 refine go_in (n := 17) (tO_turn h) Tryz.func300 rfl rfl ?_
 by_cases hk : x.d.msg.kind = 5
 ·repeat'(first|(apply kB;(iterate 2 exact rfl);intro b3)|refine gz ?_|(refine gs ?_ ?_;all_goals(intro hc;try simp only[hcs]at hc;try exact abz)))
  apply end0
  ·exact rfl
  intro w' hS
  have e : l ++ tellA x = l := by unfold tellA;rw [if_pos hk,List.append_nil]
  rw [e]
  exact ⟨a,c,rfl,((hS.sub (L' := [tB b a c l.length,eS a c l]) subN).join rfl rfl).step rfl⟩
 ·have e : tellA x = [msgA x] := by unfold tellA;rw [if_neg hk]
  rw [e]
  repeat'(first|(apply kB;(iterate 2 exact rfl);intro b3)|(apply CW.reg_sink 9 (St w (tO b a c l).foot [.own b3 (.cells x.row.toArray 52 (0,0)),tB b a c l.length]);(·exact rfl);(·decide +kernel))|refine gz ?_|(refine gs ?_ ?_;all_goals(intro hc;try simp only[hcs]at hc;try exact abz)))
  generalize hF : (tO b a c l).foot = F at *
  all_goals (
   apply DW.quiet [0,1,2,3,4,5]
   ·decide +kernel
   ·exact stZ
   repeat'(first|refine gq ?_|apply QL.nil)
   all_goals (show DW _ _ _ _ _ _ _ _))
  all_goals (
   apply DW.loud 6
   ·exact rfl
   ·decide +kernel
   repeat'(first|refine gw ?_|refine gy fun _=>?_)
   all_goals (refine ats ?_))
  all_goals (
   apply DW.loud 7
   ·exact rfl
   ·decide +kernel
   repeat'(first|refine gw ?_|(apply LR.append (xs := l.flatMap EvA.row) (news := (msgA x).row) (m := 1);(·exact rfl);(·exact rfl);(·intro a' c';exact selZ);(·exact fun w' hw'=>hw'.rd_of_blk (mH _ _));(·exact fun hx=>by cases hx);(·exact rfl);(·exact ev_one _);(·omega);(·unfold maxLen;omega);(·exact rfl);(intro a4 c4)))
   all_goals (refine ats ?_))
  all_goals (
   apply DW.quiet [8]
   ·decide +kernel
   ·exact stZ
   repeat'(first|refine gq ?_|apply QL.nil)
   all_goals (show DW _ _ _ _ _ _ _ _))
  all_goals (apply DW.done;(·decide +kernel))
  all_goals apply At.sink
  repeat'(first|refine gz ?_)
  apply end0
  ·exact rfl
  intro w' hS
  subst hF
  have h1 : St w (tO b a c l).foot [tB b a4 c4 (l ++ [msgA x]).length,eS a4 c4 (l ++ [msgA x])] w' := by
   rw [show (l ++ [msgA x]).length = l.length + 1 by simp]
   have h2 : St w (tO b a c l).foot [tB b a4 c4 (l.length + 1),osl (.slice a4 (l.length + 1) c4) 76 26 (l.length + 1) (l.flatMap EvA.row ++ (msgA x).row)] w' := hS.sub subN
   rw [eS_snoc] at h2
   exact h2
  exact ⟨a4,c4,rfl,(h1.join rfl rfl).step rfl⟩
def trC (o : OldC) (kin : Int) (nx : Cfg) : Cfg := ⟨nx.rs,nx.rr,o.cfg.rs,o.cfg.rr,kin,true,0⟩
def nxC (nx : Cfg) : Cfg := ⟨nx.rs,nx.rr,0,0,nx.mem,false,nx.stamp⟩
def eO (a : Option Addr) (c : Nat) (l : List EvA) : Asrt := both (eS a c l) (bunE l)
theorem eO_dep (a : Option Addr) (c : Nat) (l : List EvA) : (eO a c l).dep := both_dep (osl.dep _ _ _ _ _) (bun_dep EvA.dep l)
theorem cfgA_e (g : Cfg) : (cfgA g).e = cfgE g := rfl
theorem tellA_len (x : DaA) : (tellA x).length ≤ 1 := by unfold tellA;split <;> simp
section
variable {w0 w : World} {F : Nat → Prop} {R : List Asrt} {l : List EvA} {x : DaA} {r : List DaA} {g : Cfg}
theorem e_cfg (h : St w0 F (bunE l :: R) w) : St w0 F (bunE (l ++ [cfgA g]) :: R) w := by
 have h1 : St w0 F ((cfgA g).body :: bunE l :: R) w := h.nilsl 5 1
 exact h1.bun_snoc EvA.dep EvA.ex
theorem e_0 (h : St w0 F (bunD (x :: r) :: bunE l :: R) w) : St w0 F (bunE l :: bunD r :: R) w :=
 front ((h.bun_head DaA.dep).tail1) 1 rfl rfl
theorem e_t (h : St w0 F (bunD (x :: r) :: bunE l :: R) w) : St w0 F (bunE (l ++ tellA x) :: bunD r :: R) w := by
 unfold tellA
 split
 ·rw [List.append_nil];exact e_0 h
 ·have h1 : St w0 F ((msgA x).body :: bunD r :: bunE l :: R) w := h.bun_head DaA.dep
  have h2 : St w0 F ((msgA x).body :: bunE l :: bunD r :: R) w := front (front h1 2 rfl rfl) 1 rfl rfl
  exact h2.bun_snoc EvA.dep EvA.ex
theorem e_c (h : St w0 F (bunD (x :: r) :: bunE l :: R) w) : St w0 F (bunE (l ++ [cfgA g]) :: bunD r :: R) w := e_cfg (e_0 h)
theorem e_ct (h : St w0 F (bunD (x :: r) :: bunE l :: R) w) : St w0 F (bunE ((l ++ [cfgA g]) ++ tellA x) :: bunD r :: R) w := by
 have h1 : St w0 F (bunE (l ++ [cfgA g]) :: bunD (x :: r) :: R) w := e_cfg (front h 1 rfl rfl)
 exact e_t (front h1 1 rfl rfl)
end
theorem prog_inv {X : List EvD} {s kin at_ : Int} {t : EvD} {p g : Bool} {d : Dat} {r : List Dat} {TT : List EvD} (hinv : X ++ progT s kin t at_ p g (d :: r) = TT) (cut tl : Bool)
  (hcut : (!p && ((g || !decide (d.seq = at_ + 1)) || (d.msg.safe && decide (s < d.seq)))) = cut) (htl : (!(g || !decide (d.seq = at_ + 1)) || hasC kin d.sender) = tl) :
  X ++ ((if cut then [t] else []) ++ ((if tl then tellD d else []) ++ progT s kin t d.seq (p || cut) (g || !decide (d.seq = at_ + 1)) r)) = TT := by
 rw [← hinv,progT]
 simp only [hcut,htl,List.append_assoc]
structure Kst where
 k : Nat
 l : List EvA
 a : Option Addr
 c : Nat
 at_ : Int
 p : Bool
 g : Bool
structure MsA where
 m : Msg
 a : Option Addr
 c : Nat
def MsA.row (x : MsA) : List Value := x.m.cells x.a x.c
theorem MsA.row_len (x : MsA) : x.row.length = 13 := rfl
def MsA.body (x : MsA) : Asrt := osl (.slice x.a x.m.body.length x.c) 5 1 x.m.body.length (bv x.m.body)
theorem MsA.dep (x : MsA) : x.body.dep := osl.dep _ _ _ _ _
theorem MsA.ex (x : MsA) : x.body.excl = true := rfl
abbrev bunM : List MsA → Asrt := bun MsA.body
abbrev gB (b : Nat) (a : Option Addr) (c n : Nat) : Asrt := .own b (.cells [.bool true,.slice a n c].toArray 275 (0,0))
abbrev odM (a : Option Addr) (c : Nat) (l : List MsA) : Asrt := odl (.slice a l.length c) 50 13 l.length (l.flatMap MsA.row)
theorem odM_snoc (a : Option Addr) (c : Nat) (l : List MsA) (x : MsA) : odl (.slice a (l.length + 1) c) 50 13 (l.length + 1) (l.flatMap MsA.row ++ x.row) = odM a c (l ++ [x]) := by simp [odM]
def gsO (a : Option Addr) (c : Nat) (l : List MsA) : Asrt := both (odM a c l) (bunM l)
theorem gsO_dep (a : Option Addr) (c : Nat) (l : List MsA) : (gsO a c l).dep := both_dep (odl.dep _ _ _ _ _) (bun_dep MsA.dep l)
def gO (b : Nat) (a : Option Addr) (c : Nat) (L : List MsA) : Asrt := both (gB b a c L.length) (gsO a c L)
theorem gO_dep (b : Nat) (a : Option Addr) (c : Nat) (L : List MsA) : (gO b a c L).dep := both_dep (Asrt.dep_own _ _) (gsO_dep a c L)
section
variable {w0 w : World} {F : Nat → Prop} {R : List Asrt} {b : Nat} {a : Option Addr} {c : Nat} {L : List MsA}
theorem gsO_open (h : St w0 F (gsO a c L :: R) w) : St w0 F (odM a c L :: bunM L :: R) w := h.part (odl.dep _ _ _ _ _) (bun_dep MsA.dep L)
theorem gsO_shut (h : St w0 F (odM a c L :: bunM L :: R) w) : St w0 F (gsO a c L :: R) w := h.join rfl rfl
theorem gO_open (h : St w0 F (gO b a c L :: R) w) : St w0 F (gB b a c L.length :: odM a c L :: bunM L :: R) w := by
 have h1 := h.part (Asrt.dep_own _ _) (gsO_dep a c L)
 have h2 := gsO_open h1.swap
 exact h2.perm (((List.Perm.swap (gB b a c L.length) (bunM L) R).cons (odM a c L)).trans (List.Perm.swap (gB b a c L.length) (odM a c L) (bunM L :: R)))
theorem gO_shut (h : St w0 F (gB b a c L.length :: odM a c L :: bunM L :: R) w) : St w0 F (gO b a c L :: R) w := by
 have h1 : St w0 F (odM a c L :: bunM L :: gB b a c L.length :: R) w := h.perm ((List.Perm.swap (odM a c L) (gB b a c L.length) (bunM L :: R)).trans ((List.Perm.swap (bunM L) (gB b a c L.length) R).cons (odM a c L)))
 exact (gsO_shut h1).swap.join rfl rfl
end
theorem getT_mem {D : List Dat} {s : Int} (h : hasD D s = true) : getT D s ∈ D := by
 rw [← fnd_has] at h
 obtain ⟨d,hd⟩ := Option.isSome_iff_exists.1 h
 unfold getT
 rw [hd]
 unfold fndD at hd
 exact List.mem_of_find?_eq_some hd
theorem abv_mem {D : List Dat} {q : Int} {d : Dat} (h : d ∈ abvT D q) : d ∈ D := by
 unfold abvT abvS at h
 obtain ⟨s,hs,rfl⟩ := List.mem_map.1 h
 exact getT_mem (mem_sqs.1 (List.mem_filter.1 hs).1)
def sendL (ds : List Dat) : List Msg := ds.filterMap fun d=>if (old d).2 = 0 then some (old d).1 else none
theorem sendL_snoc (ds : List Dat) (d : Dat) : sendL (ds ++ [d]) = sendL ds ++ if (old d).2 = 0 then [(old d).1] else [] := by
 unfold sendL
 rw [List.filterMap_append]
 congr 1
 by_cases h : (old d).2 = 0 <;> simp [h]
def BytD (D : List Dat) : Prop := ∀ d ∈ D,Byt d.msg.body
theorem g40 (b : Nat) (a : Option Addr) (c n : Nat) (w : World) (h : Rd w (some ⟨b,0,none⟩) [.bool true,.slice a n c]) : CallsTo Tryz.prog 181 [.pointer (some ⟨b,0,none⟩)] w fun v w'=>v = .int .i64 (n : Int) ∧ Grew w w' := by
 refine go_in (n := 10) (St.rd1 h) Tryz.func181 rfl rfl ?_
 repeat'(first|refine gz ?_)
 (apply ret1;(·exact rfl);intro w' hS)
 exact ⟨rfl,hS.toKeep⟩
structure Rgs where
 k : Nat
 a : Option Addr
 c : Nat
 ms : List MsA
set_option maxHeartbeats 4000000 in
theorem g39 (bw bm : Nat) (es : List DaA) (aru high low : Int) (w : World) (h : (wO bw bm es aru high).holds w) (hD : WOk (dats es)) (hl : es.length ≤ 100000) (hB : BytD (dats es)) :
  CallsTo Tryz.prog 194 [.pointer (some ⟨bw,0,none⟩),.int .i64 low] w fun v w'=>∃ b a c ms,v = .tuple [.pointer (some ⟨b,0,none⟩),.int .i64 0].toArray ∧ ms.map MsA.m = sendL (abvT (dats es) low) ∧ New1 (gO b a c ms) w w' := by
 refine go_in (n := 42) (wO_in h) Tryz.func194 rfl rfl ?_
 repeat'(first|(apply kB;(iterate 2 exact rfl);intro b)|refine gz ?_)
 apply LR.call
 ·exact rfl
 intro w1 h1
 refine (t34 bw bm es aru high low w1 (w_out h1 memZ) hD hl).mono ?_
 rintro v w2 ⟨a1,c1,o,rfl,ho,hn⟩
 have hr1 : Rd w2 a1 (o.flatMap DaA.row) := ownsRow_rd hn.holds.1
 refine LR.back ((h1.got hn (dO_dep _ _ _)).part (osl.dep _ _ _ _ _) (bun_dep DaA.dep o)) ?_
 clear hn h1
 repeat'(first|refine gz ?_)
 have hBo : BytD (dats o) := fun d hd=>by rw [ho] at hd;exact hB d (abv_mem hd)
 have hLo : ∀ x ∈ o,x.d.msg.body.length ≤ 140737488351232 := fun x hx=>hD.len _ (abv_mem (q := low) (by rw [← ho];exact List.mem_map_of_mem hx))
 have hlo : o.length ≤ 100000 := by
  have h1 : (dats o).length ≤ (dats es).length := by rw [ho];exact Nat.le_trans (abvS_len _ _ _) (by rw [sqs_len];exact Nat.le_refl _)
  simp only [dats,List.length_map] at h1
  omega
 rw [← ho]
 apply CW.loop [8,9,10,19,20,21,22,23,24,25,26,27,28,29,30,31,32,33,34,35,36,37,38,39,40] (fun s : Rgs=>s.k ≤ o.length ∧ s.ms.length ≤ s.k ∧ s.ms.map MsA.m = sendL ((dats o).take s.k)) (fun s=>[(19,.int .i64 (s.k : Int))])
  (fun s=>St w NoF [gB b s.a s.c s.ms.length,odM s.a s.c s.ms,bunM s.ms,dS a1 c1 o,bunD o,wR bw bm es aru high]) (fun s=>o.length - s.k)
 ·intro w' hw'
  refine ⟨⟨0,none,0,[]⟩,⟨by simp,by simp,rfl⟩,⟨rfl,trivial⟩,?_⟩
  have h1 := ((hw'.bun_nil MsA.dep).nilsl 50 13).osl_odl (sH _ _ _)
  exact front (L' := [gB b none 0 0,odM none 0 [],bunM [],dS a1 c1 o,bunD o,wR bw bm es aru high]) h1 4 rfl rfl
 rintro ⟨k,a,c,ms⟩ g' ⟨hk,hmk,hms⟩
 simp only at hk hmk hms ⊢
 by_cases hlt : k < o.length
 ·obtain ⟨x,hx⟩ : ∃ x,x = o[k] := ⟨_,rfl⟩
  have hxo : x ∈ o := by rw [hx];exact List.getElem_mem hlt
  have hxl := hLo x hxo
  have hxb : Byt x.d.msg.body := hBo x.d (List.mem_map_of_mem hxo)
  have hsn := sendL_snoc ((dats o).take k) x.d
  have htk : (dats o).take (k + 1) = (dats o).take k ++ [x.d] := by
   rw [List.take_succ_eq_append_getElem (by simpa [dats] using hlt)]
   simp [dats,hx]
  rw [← htk,← hms] at hsn
  have hof : (o.flatMap DaA.row) ≠ [] := rows_ne DaA.row_len (by omega) hlt
  obtain ⟨ba,oa,rfl⟩ := hr1.form hof
  repeat'(first|(apply kA;(·exact rfl);intro b9)|refine gx ?_|(apply idxX;(iterate 2 exact rfl);(iterate 2(first|omega));exact rfl)|(apply addX;(iterate 2 exact rfl);(iterate 2(first|omega));exact rfl)|(apply LR.ev;(·apply Ev.load_agg_at (cs := x.row);(·exact rfl);(·exact rfl);(·intro w' hw';rw [hx];exact rd_row DaA.row_len (ownsRow_rd (hw'.holds (dS (some ⟨ba,oa,none⟩) c1 o) memZ)) hlt (by simp)));(·exact rfl))|(apply LR.call;(·exact rfl);(intro w1 h1;refine CallsTo.mono (show CallsTo Tryz.prog 253 [x.d.val x.a x.c] w1 _ from c32 x.d x.a x.c w1 (ownsRow_rd (h1.holds (bunD o) memZ |>.1 x hxo)) (body_nz (h1.holds (bunD o) memZ |>.1 x hxo)) (by omega) hxb) ?_;rintro v w2 ⟨a2,c2,rfl,hn⟩;refine LR.back (h1.newSl hn) ?_;clear hn h1))|(refine gs ?_ ?_;all_goals(intro hc;try simp only[hcs]at hc;try exact abz)))
  ·apply CW.reg_sink 10 (St w NoF [.own b9 (.cells ((old x.d).1.cells a2 c2).toArray 50 (0,0)),gB b a c ms.length])
   ·exact rfl
   ·decide +kernel
   all_goals (
    apply DW.quiet [0,1,2,3,4,5]
    ·decide +kernel
    ·exact stZ
    repeat'(first|refine gq ?_|apply QL.nil)
    all_goals (show DW _ _ _ _ _ _ _ _))
   all_goals (
    apply DW.loud 6
    ·exact rfl
    ·decide +kernel
    repeat'(first|refine gw ?_|refine gy fun _=>?_)
    all_goals (refine ats ?_))
   all_goals (
    apply DW.loud 7
    ·exact rfl
    ·decide +kernel
    repeat'(first|(apply LR.append_odl (a := a) (k := ms.length) (c := c) (xs := ms.flatMap MsA.row) (news := MsA.row ⟨(old x.d).1,a2,c2⟩) (m := 1);(·exact rfl);(·exact rfl);(·intro a' c';exact selZ);(·intro w' hw';exact hw'.rd_of_blk (mH _ _));(·intro hx;cases hx);(·exact rfl);(·simp [MsA.row,Msg.cells,Value.oneCell']);(·omega);(·unfold maxLen;omega);(·exact rfl);(intro ay cy;apply kM)))
    all_goals (refine ats ?_))
   all_goals (
    apply DW.quiet [8,9]
    ·decide +kernel
    ·exact stZ
    repeat'(first|refine gq ?_|apply QL.nil)
    all_goals (show DW _ _ _ _ _ _ _ _))
   all_goals (apply DW.done;(·decide +kernel))
   all_goals apply At.sink
   repeat'(first|refine gz ?_|(apply addX;(iterate 2 exact rfl);(iterate 2(first|omega));exact rfl))
   rw [if_pos (by assumption)] at hsn
   refine At.again (⟨k + 1,ay,cy,ms ++ [⟨(old x.d).1,a2,c2⟩]⟩ : Rgs) ⟨by simp only;omega,by simp;omega,by rw [hsn,List.map_append];rfl⟩ ?_ ⟨rfl,trivial⟩ ?_ (by simp only;omega)
   ·exact outZ
   ·intro w' hw'
    obtain ⟨y,hy⟩ : ∃ y : MsA,y = ⟨(old x.d).1,a2,c2⟩ := ⟨_,rfl⟩
    have h1 : St w NoF [y.body,gB b ay cy (ms.length + 1),odl (.slice ay (ms.length + 1) cy) 50 13 (ms.length + 1) (ms.flatMap MsA.row ++ y.row),bunM ms,dS (some ⟨ba,oa,none⟩) c1 o,bunD o,wR bw bm es aru high] w' := by
     rw [hy];exact hw'.sub subN
    have h2 : St w NoF [bunM ms,y.body,gB b ay cy (ms.length + 1),odl (.slice ay (ms.length + 1) cy) 50 13 (ms.length + 1) (ms.flatMap MsA.row ++ y.row),dS (some ⟨ba,oa,none⟩) c1 o,bunD o,wR bw bm es aru high] w' := front h1 3 rfl rfl
    have h3 : St w NoF [bunM (ms ++ [y]),gB b ay cy (ms.length + 1),odl (.slice ay (ms.length + 1) cy) 50 13 (ms.length + 1) (ms.flatMap MsA.row ++ y.row),dS (some ⟨ba,oa,none⟩) c1 o,bunD o,wR bw bm es aru high] w' := h2.swap.bun_snoc MsA.dep MsA.ex
    have h4 : St w NoF [odl (.slice ay (ms.length + 1) cy) 50 13 (ms.length + 1) (ms.flatMap MsA.row ++ y.row),bunM (ms ++ [y]),gB b ay cy (ms.length + 1),dS (some ⟨ba,oa,none⟩) c1 o,bunD o,wR bw bm es aru high] w' := front h3 2 rfl rfl
    have h5 : St w NoF [gB b ay cy (ms.length + 1),odl (.slice ay (ms.length + 1) cy) 50 13 (ms.length + 1) (ms.flatMap MsA.row ++ y.row),bunM (ms ++ [y]),dS (some ⟨ba,oa,none⟩) c1 o,bunD o,wR bw bm es aru high] w' := front h4 2 rfl rfl
    rw [odM_snoc,show gB b ay cy (ms.length + 1) = gB b ay cy (ms ++ [y]).length by simp] at h5
    rw [← hy]
    exact h5
  ·rw [if_neg (by assumption),List.append_nil] at hsn
   refine At.again (⟨k + 1,a,c,ms⟩ : Rgs) ⟨by simp only;omega,by simp only;omega,hsn.symm⟩ ?_ ⟨rfl,trivial⟩ (fun w' hw'=>hw'.sub subN) (by simp only;omega)
   exact outZ
 ·have hke : k = o.length := by omega
  subst hke
  rw [List.take_of_length_le (by simp [dats])] at hms
  repeat'(first|refine gz ?_|(refine gs ?_ ?_;all_goals(intro hc;try simp only[hcs]at hc;try exact abz)))
  (apply ret2;(·exact rfl);intro w' hS)
  refine ⟨b,a,c,ms,rfl,hms,St.new1 (gO_shut hS) rfl⟩
theorem body_nzM {x : MsA} {w : World} (h : x.body.holds w) (e : x.a = none) : x.c = 0 := by
 have h : w.ownsRow 0 5 1 (.slice x.a x.m.body.length x.c) x.m.body.length (bv x.m.body) := h
 rcases h.2 with ⟨he,_⟩ | ⟨g,cap,cur,he,_⟩
 ·simp only [Value.slice.injEq] at he
  exact he.2.2
 ·simp only [Value.slice.injEq] at he
  rw [he.1] at e
  cases e
theorem g41e (b : Nat) (a : Option Addr) (c : Nat) (w : World) (h : Rd w (some ⟨b,0,none⟩) [.bool true,.slice a 0 c]) : CallsTo Tryz.prog 306 [.pointer (some ⟨b,0,none⟩)] w fun v w'=>v = .tuple [zeroMsg.val none 0,.int .i64 8].toArray ∧ Grew w w' := by
 refine go_in (n := 43) (St.rd1 h) Tryz.func306 rfl rfl ?_
 repeat'(first|refine gz ?_|refine gy fun _=>?_)
 (apply ret2c;(·exact rfl);(·exact inferInstance);(·exact rfl);(·exact memY);(·exact rfl);intro w' hS)
 exact ⟨rfl,hS.toKeep⟩
set_option maxHeartbeats 1000000 in
theorem g41 (b : Nat) (a : Option Addr) (c : Nat) (x : MsA) (L : List MsA) (w : World) (h : (gO b a c (x :: L)).holds w) (hm : x.m.body.length ≤ 140737488355328) :
  CallsTo Tryz.prog 306 [.pointer (some ⟨b,0,none⟩)] w fun v w'=>∃ a1 c1 a2 c2,v = .tuple [x.m.val a2 c2,.int .i64 0].toArray ∧ St w (gO b a c (x :: L)).foot [gO b a1 c1 L,MsA.body ⟨x.m,a2,c2⟩] w' := by
 have hS1 := gO_open (St.one h (both_live h) (gO_dep b a c (x :: L)))
 generalize hF : (gO b a c (x :: L)).foot = F at *
 obtain ⟨by_,oy,rfl⟩ := (ownsAt_rd hS1.g1).form (by simp [MsA.row,Msg.cells])
 have hl : (x :: L).length = L.length + 1 := rfl
 refine go_in (n := 43) hS1 Tryz.func306 rfl rfl ?_
 repeat'(first|refine gz ?_|refine gy fun _=>?_|(apply idxX;(iterate 2 exact rfl);(iterate 2(first|omega));exact rfl)|(apply LR.ev;(·apply Ev.slice_lo;(·exact rfl);(·exact rfl);(·first | omega );(·first | omega ));(·exact rfl))|(apply LR.ev;(·apply Ev.load_agg_at (cs := x.row);(·exact rfl);(·exact rfl);(·intro w' hw';exact rd_row (l := x :: L) (i := 0) MsA.row_len (ownsAt_rd (hw'.holds (odM (some ⟨by_,oy,none⟩) c (x :: L)) memZ)) (by simp) (by simp)));(·exact rfl))|fail)
 apply LR.call
 ·exact rfl
 intro w1 h1
 have hb1 : (x.body).holds w1 := (h1.holds (bunM (x :: L)) memZ).1 x List.mem_cons_self
 refine (c86 x.a x.c x.m.body w1 (ownsRow_rd hb1) (body_nzM hb1) hm).mono ?_
 rintro v w2 ⟨a2,c2,rfl,hn⟩
 refine LR.back (h1.newSl hn) ?_
 clear hn h1
 repeat'(first|refine gz ?_)
 (apply ret2c;(·exact rfl);(·exact inferInstance);(·exact rfl);(·exact memY);(·exact rfl);intro w' hS)
 refine ⟨subA (some ⟨by_,oy,none⟩) c 1 13,c - 1,a2,c2,rfl,?_⟩
 obtain ⟨y,hy⟩ : ∃ y : MsA,y = ⟨x.m,a2,c2⟩ := ⟨_,rfl⟩
 have h1 : St w F [y.body,gB b (subA (some ⟨by_,oy,none⟩) c 1 13) (c - 1) L.length,odM (some ⟨by_,oy,none⟩) c (x :: L),bunM (x :: L)] w' := by
  rw [hy];exact hS.sub subN
 have h2 := h1.odl_drop (l := 1) (E := 50) (sz := 13) (xs := (x :: L).flatMap MsA.row) (a := some ⟨by_,oy,none⟩) (c := c) (k := (x :: L).length) selZ (by simp)
 have h3 : St w F [y.body,gB b (subA (some ⟨by_,oy,none⟩) c 1 13) (c - 1) L.length,odM (subA (some ⟨by_,oy,none⟩) c 1 13) (c - 1) L,bunM (x :: L)] w' := h2
 have h4 : St w F [bunM (x :: L),y.body,gB b (subA (some ⟨by_,oy,none⟩) c 1 13) (c - 1) L.length,odM (subA (some ⟨by_,oy,none⟩) c 1 13) (c - 1) L] w' := front h3 3 rfl rfl
 have h5 := (St.bun_head MsA.dep h4).tail1
 have h6 : St w F [odM (subA (some ⟨by_,oy,none⟩) c 1 13) (c - 1) L,bunM L,y.body,gB b (subA (some ⟨by_,oy,none⟩) c 1 13) (c - 1) L.length] w' := front h5 3 rfl rfl
 have h7 : St w F [gB b (subA (some ⟨by_,oy,none⟩) c 1 13) (c - 1) L.length,odM (subA (some ⟨by_,oy,none⟩) c 1 13) (c - 1) L,bunM L,y.body] w' := front h6 3 rfl rfl
 rw [← hy]
 exact gO_shut h7
def tkB (R1 R2 : Int) (D : List Dat) (m : Msg) : Bool := decide ((inner m).2 = 0 ∧ (inner m).1.rseq = R1 ∧ (inner m).1.rrep = R2)
def tkNew (R1 R2 : Int) (D : List Dat) (m : Msg) : Bool := tkB R1 R2 D m && wpNew D (inner m).1
def tkE (R1 R2 : Int) (D : List Dat) (m : Msg) : Int := if tkB R1 R2 D m then wpE (inner m).1 else (inner m).2
def tkD (R1 R2 : Int) (D : List Dat) (m : Msg) : List Dat := if tkB R1 R2 D m then wpD D (inner m).1 else D
def tkH (R1 R2 : Int) (D : List Dat) (high : Int) (m : Msg) : Int := if tkB R1 R2 D m then wpH D high (inner m).1 else high
set_option maxHeartbeats 1000000 in
theorem g42 (bw bm : Nat) (es : List DaA) (aru high R1 R2 : Int) (m : Msg) (a : Option Addr) (c : Nat) (w : World) (h : (wO bw bm es aru high).holds w) (hD : WOk (dats es)) (hA : IsAru (dats es) aru)
  (hr : Rd w a (bv m.body)) (hz : a = none → c = 0) (hd : ∀ k,rdFoot a (bv m.body) k → ¬ (wO bw bm es aru high).foot k) (hl : m.body.length ≤ 140737488355328) (hb : Byt m.body) (hi : (inner m).1.msg.body.length ≤ 140737488351232) :
  CallsTo Tryz.prog 125 [.pointer (some ⟨bw,0,none⟩),.agg [.int .i64 R1,.int .i64 R2].toArray,m.val a c] w fun v w'=>∃ es' aru',v = .tuple [.bool (tkNew R1 R2 (dats es) m),.int .i64 (tkE R1 R2 (dats es) m)].toArray ∧ dats es' = tkD R1 R2 (dats es) m ∧ IsAru (tkD R1 R2 (dats es) m) aru' ∧ Step (wO bw bm es aru high) (wO bw bm es' aru' (tkH R1 R2 (dats es) high m)) w w' := by
 refine go_in (n := 31) ((St.one h (both_live h) (wO_dep _ _ _ _ _)).addRd hr hd) Tryz.func125 rfl rfl ?_
 repeat'(first|refine gz ?_|refine gy fun _=>?_|(apply LR.call;(·exact rfl);(intro w1 h1;refine CallsTo.mono (show CallsTo Tryz.prog 175 [m.val a c] w1 _ from c33 m a c w1 (h1.rd_of memZ) hz hl hb) ?_;rintro v w2 ⟨a2,c2,rfl,hn⟩;refine LR.back (h1.newSl hn) ?_;clear hn h1))|(refine gs ?_ ?_;all_goals(intro hc;try simp only[hcs]at hc;try exact abz)))
 ·have e : tkB R1 R2 (dats es) m = false := by unfold tkB;exact decide_eq_false (fun h=>hc h.1)
  (apply ret2;(·exact rfl);intro w' hS)
  unfold tkNew tkE tkD tkH
  rw [e]
  exact ⟨es,aru,rfl,rfl,hA,(hS.sub (L' := [wO bw bm es aru high]) subN).step rfl⟩
 ·rename (inner m).2 = 0=>h0
  have e : tkB R1 R2 (dats es) m = false := by unfold tkB;exact decide_eq_false (fun h=>by first | exact hc h.2 )
  (apply ret2;(·exact rfl);intro w' hS)
  unfold tkNew tkE tkD tkH
  rw [e]
  refine ⟨es,aru,?_,rfl,hA,(hS.sub (L' := [wO bw bm es aru high]) subN).step rfl⟩
  show Value.tuple [.bool false,.int .i64 0].toArray = .tuple [.bool false,.int .i64 (inner m).2].toArray
  rw [h0]
 ·have e : tkB R1 R2 (dats es) m = true := by unfold tkB;exact decide_eq_true ⟨by assumption,hc⟩
  unfold tkNew tkE tkD tkH
  rw [e]
  apply LR.call
  ·exact rfl
  intro w1 h1
  have hz2 : a2 = none → c2 = 0 := body_nz (x := ⟨(inner m).1,a2,c2⟩) (h1.holds _ memZ)
  refine CallsTo.mono (show CallsTo Tryz.prog 123 [.pointer (some ⟨bw,0,none⟩),(inner m).1.val a2 c2] w1 _ from t29 bw bm es aru high (inner m).1 a2 c2 w1 (h1.holds _ memZ) hD hA (h1.rd_of_own memZ) hz2 (fun k hk=>St.apart (x := osl (.slice a2 (inner m).1.msg.body.length c2) 5 1 (inner m).1.msg.body.length (bv (inner m).1.msg.body)) (h1.sub (L' := [osl (.slice a2 (inner m).1.msg.body.length c2) 5 1 (inner m).1.msg.body.length (bv (inner m).1.msg.body),wO bw bm es aru high]) subN) memZ rfl k (St.osl_foot hk)) hi) ?_
  rintro v w2 ⟨es1,ar1,rfl,he1,ha1,hst⟩
  refine LR.back (h1.did selZ rfl hst (wO_dep _ _ _ _ _)) ?_
  clear hst h1
  repeat'(first|refine gz ?_)
  (apply ret2;(·exact rfl);intro w' hS)
  exact ⟨es1,ar1,rfl,he1,ha1,(hS.sub (L' := [wO bw bm es1 ar1 (wpH (dats es) high (inner m).1)]) subN).step rfl⟩
end Go.Proofs.YtohbcfokihplbaaGreatDoor
namespace Go.Hb
section
variable {P : Program} {f : Frm} {T Tn T' T'' : TypeId} {s x y : Operand} {v : Value} {w0 : World} {F : Nat → Prop} {L : List Asrt} {C : World → Prop}
variable {n : Nat} {ops rest : List Oper} {Q : Post} {p : String} {af : Array Edge} {d : Nat}
theorem Ev.cap {E : TypeId} {sz by_ l c : Nat} {a : Option Addr} [h : SliceOf P T E sz by_] (hx : f.ev x = .slice a l c) : Ev P C f (.call ⟨.builtin .cap,[x].toArray,[T].toArray⟩) T' (.int .i64 c) := fun w _ d p af g=>by
 simp [execOp,resolve,invoke,builtin,Builtin.cap_,hx,run_underlying h.und,goInt]
theorem run_grow {E : TypeId} {sz by_ : Nat} (h : SliceOf P T E sz by_) (htn : P.underlying Tn = some (.int .i64)) (w : World) (ty : TypeId) {k c m : Nat} {a : Option Addr} {xs : List Value} (hown : w.ownsRow 0 E sz (.slice a k c) k xs)
  (hm : 0 < m) (hbytes : (c + m) * by_ ≤ 140737488355328) (hmax : c + m ≤ maxLen) :
  ∃ c' w',(Builtin.append_ #[T,Tn] ty #[.slice a c c,.int .i64 (m : Int)]).run P w = .ok (.slice (some ⟨w.heap.size,0,none⟩) (c + m) c') w' ∧ k ≤ c' ∧ w'.ownsRow 0 E sz (.slice (some ⟨w.heap.size,0,none⟩) k c') k xs ∧ w.grownBy w' none ∧ w.heap.size < w'.heap.size := by
 have hinf := h.inf
 obtain ⟨z,hz,hzs⟩ := h.zero
 cases hi : P.info? E with
 | none=>simp [hi] at hinf
 | some inf=>
  simp only [hi,Option.map_some,Option.some.injEq,Prod.mk.injEq] at hinf
  simp only [hi,Option.bind_some] at hz
  obtain ⟨rfl,rfl⟩ := hinf
  obtain ⟨cs,hcl,hkc,htake,hold⟩ : ∃ cs : List Value,cs.length = c * inf.size ∧ k ≤ c ∧ cs.take (k * inf.size) = xs ∧ (Builtin.firstCells inf.size c (.slice a c c)).run P w.drew = .ok cs.toArray w.drew := by
   rcases hown.2 with ⟨hv,rfl⟩ | ⟨g,cap,cur,hv,_,hg,hnc,hcm,hcs,htake⟩
   ·simp only [Value.slice.injEq] at hv
    obtain ⟨rfl,_,rfl⟩ := hv
    have hx0 : xs = [] := List.eq_nil_of_length_eq_zero (by simpa using hown.1)
    exact ⟨[],by simp,Nat.le_refl _,by simp [hx0],run_firstCells_none w.drew inf.size 0 0 0⟩
   ·simp only [Value.slice.injEq] at hv
    obtain ⟨rfl,_,rfl⟩ := hv
    refine ⟨cur.toList,by simpa using hcs,hnc,htake,?_⟩
    refine run_firstCells_some w.drew inf.size c ⟨g,0,none⟩ c c cur.toList (by simpa using hcs) fun j v hj=>?_
    rw [addr_add,Nat.zero_add]
    rw [cell_own (show (w.drew).heap[g]? = some (.cells cur E (0,0)) from hg)]
    simpa using hj
  have hfit := growslice_fits (need := c + m) (old := c) (bytes := inf.bytes) (by omega) hbytes
  have hmb : m * inf.bytes ≤ 281474976710656 := by
   have h1 : m * inf.bytes ≤ (c + m) * inf.bytes := Nat.mul_le_mul_right _ (by omega)
   omega
  have hr := Lib.run_append_grow_zeros (P := P) w T Tn ty E inf z .i64 .i64 h.und htn hi hz a c c cs hold m hm h.pos (by omega) (by unfold maxLen at hmax;omega) hmb hfit
  have hge := grownCap_ge w (c + m) c E
  have hcm : grownCap w (c + m) c E ≤ maxLen := grownCap_le_maxLen w (c + m) c E hmax
  refine ⟨_,_,hr,by omega,⟨hown.1,.inr ⟨w.heap.size,_,_,rfl,Nat.zero_le _,heap_alloc_new w.drew _,by omega,hcm,?_,?_⟩⟩,⟨rfl,rfl,rfl,by simp,fun k hk _=>by first | exact heap_alloc_old w.drew _ hk | exact heap_alloc_old w.drew _ k hk⟩,by simp⟩
  ·simp only [Array.size_append,List.size_toArray,size_zeroCells,hzs,hcl,← Nat.add_mul]
   congr 1
   omega
  ·simp only [Array.toList_append,List.append_assoc]
   rw [List.take_append_of_le_length (by rw [hcl];exact Nat.mul_le_mul_right _ hkc)]
   exact htake
theorem LR.grow {E : TypeId} {sz by_ k c m : Nat} {a : Option Addr} {xs : List Value} {L' : Nat → Nat → List Asrt} [h : SliceOf P T E sz by_] [hn : IntT P Tn .i64]
  (hs : f.ev s = .slice a c c) (hx : f.ev x = .int .i64 (m : Int)) (hsel : ∀ b' c',Sel L (osl (.slice a k c) E sz k xs) (osl (.slice (some ⟨b',0,none⟩) k c') E sz k xs) (L' b' c'))
  (hm : 0 < m) (hbytes : (c + m) * by_ ≤ 140737488355328) (hmax : c + m ≤ maxLen) (hd : Nat.blt d n = true)
  (kk : ∀ b' c',k ≤ c' → LR false P n ops rest Q (upd f d (.slice (some ⟨b',0,none⟩) (c + m) c')) (St w0 F (L' b' c'))) :
  LR false P n ops (⟨some d,.call ⟨.builtin .append,[s,x].toArray,[T,Tn].toArray⟩,T',p,af,none⟩ :: rest) Q f (St w0 F L) := by
 intro w hw b hb
 refine wpList_plain rfl fun K hK=>?_
 have hown : w.ownsRow 0 E sz (.slice a k c) k xs := hw.holds _ (hsel 0 0).mem
 obtain ⟨c',w',hr,hkc,ho,hg,hnew⟩ := run_grow (P := P) h hn.und w T' hown hm hbytes hmax
 have hr' : (execOp f.ev ⟨some d,.call ⟨.builtin .append,[s,x].toArray,[T,Tn].toArray⟩,T',p,af,none⟩).run P w = .ok (.value (.slice (some ⟨w.heap.size,0,none⟩) (c + m) c')) w' := by
  simp only [execOp,resolve,invoke,builtin,Sem.run_bind,Sem.run_pure,Result.andThen_ok,List.map_toArray,List.map_cons,List.map_nil,hs,hx,hr]
 rw [← hb.eval] at hr'
 simp only [Oper.wp,hr',Oper.upon_value]
 refine hK _ _ (kk _ c' hkc w' ?_ _ (hb.put _ hd))
 refine hw.turn (hsel w.heap.size c') rfl (keep_of_grown hg fun k hk=>by cases hk) ho (fun k hk=>?_) (osl.dep _ _ _ _ _)
 simp only [osl,Asrt.foot,Value.ownBlock,Option.some.injEq] at hk
 exact .inr ⟨by omega,by omega⟩
end
end Go.Hb
namespace Go.Proofs.YtohbcfokihplbaaGreatDoor
open Go.Hb
attribute [local irreducible] LR CW At Ev thn blk finK noG again CallsTo DW QL dnext TW DP
set_option maxRecDepth 100000
theorem subA_own {a : Option Addr} {c sz : Nat} (h : a = none ∨ ∃ b,a = some ⟨b,0,none⟩) : subA a c 0 sz = a := by
 rcases h with rfl | ⟨b,rfl⟩
 ·unfold subA;split <;> rfl
 ·exact subA_zero
theorem Ev.slice_hi0 {P : Program} {C : World → Prop} {f : Frm} {T T' : TypeId} {x y : Operand} {E : TypeId} {sz by_ k c : Nat} {q : IntKind} {a : Option Addr} {j : Nat} {v : Int} [h : SliceOf P T E sz by_] (ha : subA a c 0 sz = a) (hv : v = (j : Int)) (h1 : j ≤ c) (hx : f.ev x = .slice a k c) (hy : f.ev y = .int q v) :
  Ev P C f (.slice T x none (some y) none) T' (.slice a j c) := by
 subst hv
 have hh := Ev.slice_hi (P := P) (C := C) (T := T) (T' := T') hx hy (by omega) (by omega)
 rw [ha,Int.toNat_natCast] at hh
 exact hh
theorem p88 (n l m : Int) (w : World) : CallsTo Tryz.prog 119 [.int .i64 n,.int .i64 l,.int .i64 m] w fun v w'=>v = .bool (decide (l ≤ n ∧ n ≤ m)) ∧ Grew w w' := by
 refine go_in (n := 15) (St.refl _ NoF) Tryz.func119 rfl rfl ?_
 repeat'(first|refine gz ?_|(refine gs ?_ ?_;all_goals(intro hc;try simp only[hcs]at hc;try exact abz)))
 all_goals (
  (apply ret1;(·exact rfl);intro w' hS)
  refine ⟨congrArg Value.bool ?_,hS.toKeep⟩
  rw [Bool.eq_iff_iff]
  simp only [decide_eq_true_eq,Bool.false_eq_true,false_iff,iff_false]
  omega)
def nodeB (n : Int) : Bool := decide (1 ≤ n ∧ n ≤ 8)
theorem p59 (n : Int) (w : World) : CallsTo Tryz.prog 71 [.int .i64 n] w fun v w'=>v = .bool (nodeB n) ∧ Grew w w' := by
 refine go_in (n := 5) (St.refl _ NoF) Tryz.func71 rfl rfl ?_
 repeat'(first|refine gz ?_|(apply kq;(·exact rfl);(·intro w1 h1;exact CallsTo.q (p88 _ _ _ w1) h1))|fail)
 (apply ret1;(·exact rfl);intro w' hS)
 exact ⟨rfl,hS.toKeep⟩
theorem p64 (s r : Int) (w : World) : CallsTo Tryz.prog 76 [.agg [.int .i64 s,.int .i64 r].toArray] w fun v w'=>v = .bool (liveR s r) ∧ Grew w w' := by
 refine go_in (n := 11) (St.refl _ NoF) Tryz.func76 rfl rfl ?_
 repeat'(first|refine gz ?_|refine gy fun _=>?_|(apply kq;(·exact rfl);(·intro w1 h1;exact CallsTo.q (c81 _ _ w1) h1))|(refine gs ?_ ?_;all_goals(intro hc;try simp only[hcs]at hc;try exact abz)))
 all_goals (
  (apply ret1;(·exact rfl);intro w' hS)
  refine ⟨congrArg Value.bool ?_,hS.toKeep⟩
  unfold liveR
  simp_all)
theorem numB_dec (x : Int) : decide (0 ≤ x ∧ x ≤ 9007199254740991) = numB x := by unfold numB;simp
set_option maxHeartbeats 1000000 in
theorem p62 (a : Option Addr) (c : Nat) (l : List Int) (w : World) (hr : Rd w a (iv l)) (hm : l.length ≤ 1000) : CallsTo Tryz.prog 74 [.slice a l.length c] w fun v w'=>v = .bool (l.all numB) ∧ Grew w w' := by
 refine go_in (n := 15) (St.rd1 hr) Tryz.func74 rfl rfl ?_
 repeat'(first|refine gz ?_)
 apply CW.loop [2,4,7,8,9,10,11,12,13,14] (fun i : Nat=>i ≤ l.length ∧ l.all numB = (l.drop i).all numB) (fun i : Nat=>[(7,Value.int .i64 i)]) (fun i=>St w NoF [rdA a (iv l)]) (fun i=>l.length - i)
 ·exact fun w' hw'=>⟨0,⟨by omega,by simp⟩,⟨rfl,trivial⟩,hw'⟩
 intro i g ⟨hi,heq⟩
 by_cases hlt : i < l.length
 ·obtain ⟨ba,oa,rfl⟩ := hr.form (fun e=>by have := congrArg List.length e;simp only [iv_length,List.length_nil] at this;omega)
  have hd : (l.drop i).all numB = (numB l[i] && (l.drop (i + 1)).all numB) := by rw [List.drop_eq_getElem_cons hlt,List.all_cons]
  cases hn : numB l[i]
  ·repeat'(first|refine gz ?_|(apply idxX;(iterate 2 exact rfl);(iterate 2(first|omega));exact rfl)|(apply LR.ev;(·apply Ev.load_rd;(·exact rfl);(·repeat (first | exact mH _ _ ));(·exact iv_at (i := i) (by simp) (by omega)));(·exact rfl))|(apply kq;(·exact rfl);(·intro w1 h1;have hq := CallsTo.q (p88 l[i] 0 9007199254740991 w1) h1;rw [numB_dec,hn] at hq;exact hq))|(refine gs ?_ ?_;all_goals(intro hc;try simp only[hcs]at hc;try exact abz)))
   (apply ret1;(·exact rfl);intro w' hS)
   refine ⟨congrArg Value.bool ?_,hS.toKeep⟩
   rw [heq,hd,hn]
   rfl
  ·repeat'(first|refine gz ?_|(apply idxX;(iterate 2 exact rfl);(iterate 2(first|omega));exact rfl)|(apply LR.ev;(·apply Ev.load_rd;(·exact rfl);(·repeat (first | exact mH _ _ ));(·exact iv_at (i := i) (by simp) (by omega)));(·exact rfl))|(apply addX;(iterate 2 exact rfl);(iterate 2(first|omega));exact rfl)|(apply kq;(·exact rfl);(·intro w1 h1;have hq := CallsTo.q (p88 l[i] 0 9007199254740991 w1) h1;rw [numB_dec,hn] at hq;exact hq))|(refine gs ?_ ?_;all_goals(intro hc;try simp only[hcs]at hc;try exact abz)))
   refine At.again (i + 1) ⟨by omega,by rw [heq,hd,hn];rfl⟩ ?_ ⟨rfl,trivial⟩ (fun w' hw'=>hw') (by omega)
   exact outZ
 ·have hie : i = l.length := by omega
  subst hie
  repeat'(first|refine gz ?_|(refine gs ?_ ?_;all_goals(intro hc;try simp only[hcs]at hc;try exact abz)))
  (apply ret1;(·exact rfl);intro w' hS)
  refine ⟨congrArg Value.bool ?_,hS.toKeep⟩
  rw [heq]
  simp
def mayD (d : Dat) : Bool := liveR d.rseq d.rrep && decide (0 < d.seq) && [d.seq,d.stamp].all numB && nodeB d.sender && decide (check d.msg = 0)
set_option maxHeartbeats 2000000 in
theorem p58 (d : Dat) (a : Option Addr) (c : Nat) (w : World) (hr : Rd w a (bv d.msg.body)) (hz : a = none → c = 0) (hm : d.msg.body.length ≤ 140737488355328) (hb : Byt d.msg.body) :
  CallsTo Tryz.prog 70 [d.val a c] w fun v w'=>v = .bool (mayD d) ∧ Grew w w' := by
 refine go_in (n := 30) (St.rd1 hr) Tryz.func70 rfl rfl ?_
 repeat'(first|(apply kB;(iterate 2 exact rfl);intro bd)|(apply Go.Hb.kK;(iterate 4 exact rfl);intro bs)|refine gz ?_|(apply kq;(·exact rfl);(·intro w1 h1;first | exact CallsTo.q (p64 d.rseq d.rrep w1) h1 | exact CallsTo.q (p59 d.sender w1) h1 | exact CallsTo.q (p62 (some ⟨bs,0,none⟩) 2 [d.seq,d.stamp] w1 (h1.rd_of_blk memZ) (by simp)) h1 | exact CallsTo.q (show CallsTo Tryz.prog 88 [d.msg.val a c] w1 _ from d17 d.msg a c w1 (h1.rd_of memZ) hz hm hb) h1))|(refine gs ?_ ?_;all_goals(intro hc;try simp only[hcs]at hc;try exact abz)))
 all_goals (
  (apply ret1;(·exact rfl);intro w' hS)
  refine ⟨congrArg Value.bool ?_,hS.toKeep⟩
  unfold mayD
  simp_all
  try (intros;omega))
end Go.Proofs.YtohbcfokihplbaaGreatDoor
namespace Go.Hb
inductive Jn (J : List Nat) : Frm → Frm → Prop
 | base (f : Frm) : Jn J f f
 | upd {f' f : Frm} {d : Nat} {v : Value} (h : Jn J f' f) (hd : J.contains d = true) : Jn J (Hb.upd f' d v) f
theorem Jn.same {J : List Nat} {f' f : Frm} (h : Jn J f' f) : ∀ t,J.contains t = false → f' t = f t := by
 induction h with
 | base f=>exact fun t _=>rfl
 | @upd f' f d v h hd ih=>
  intro t ht
  rw [upd_ne _ _ _ _ (fun e=>by subst e;rw [hd] at ht;cases ht)]
  exact ih t ht
section
variable {P : Program} {n : Nat} {ops : List Oper} {S : World → Prop} {K : Frm → Prop} {f : Frm}
theorem QL.cut {K1 : Frm → Prop} {r2 : List Nat} (h2 : ∀ f',K1 f' → QL P n ops S K r2 f') : ∀ {r1 : List Nat} {f : Frm},QL P n ops S K1 r1 f → QL P n ops S K (r1 ++ r2) f
 | [],f,h=>h2 f h
 | i :: r,f,h=>by
  obtain ⟨o,v,h1,h3,h4,h5⟩ := h
  exact ⟨o,v,h1,h3,h4,QL.cut h2 h5⟩
theorem QL.join (J : List Nat) (d : Nat) (v : Value) (r1 r2 : List Nat) (h1 : QL P n ops S (fun f'=>f' d = v ∧ Jn J f' f) r1 f) (h2 : ∀ g,QL P n ops S K r2 (Hb.upd (mix J g f) d v)) : QL P n ops S K (r1 ++ r2) f := by
 refine QL.cut (fun f' hf=>?_) h1
 have e : f' = Hb.upd (mix J f' f) d v := by
  funext t
  by_cases ht : t = d
  ·subst ht;rw [upd_same];exact hf.1
  ·rw [upd_ne _ _ _ _ ht]
   unfold mix
   cases hc : J.contains t with
   | true=>rfl
   | false=>exact hf.2.same t hc
 rw [e]
 exact h2 f'
end
abbrev ORow := Option Nat × List Nat × List Nat
def orow (ops : Array Oper) (o : Oper) : ORow := (o.dst,o.looksAt ops,(o.after.toList.filter fun e=>Region.binds .any e).map fun e=>e.on)
def tabOf (ops : List Oper) : List ORow := ops.map (orow ops.toArray)
def apartT (x y : ORow) : Bool :=
 (match x.1 with
   | some d=>!y.2.1.contains d && y.1 != some d
   | none=>true) &&
 (match y.1 with
   | some d=>!x.2.1.contains d
   | none=>true)
def statGo : Nat → Nat → List ORow → Bool
 | 0,_,_=>true
 | _ + 1,_,[]=>false
 | k + 1,i,r :: rest=>(r.2.2.all fun e=>Nat.blt e i) && (rest.all fun s=>s.2.2.contains i || apartT r s) && statGo k (i + 1) rest
theorem apart_of {ops : Array Oper} {x y : Oper} (h : apartT (orow ops x) (orow ops y) = true) : x.apart ops y = true := h
theorem headB_of {ops : List Oper} {D : List Nat} : ∀ (k i : Nat),(∀ x ∈ D,i + k ≤ x) → i + k ≤ ops.length → statGo k i ((tabOf ops).drop i) = true → headB ops.toArray (lst ops (D ++ List.range i)) (List.range' i k) = true
 | 0,i,_,_,_=>rfl
 | k + 1,i,hD,hl,h=>by
  have hi : i < ops.length := by omega
  have hit : i < (tabOf ops).length := by unfold tabOf;rw [List.length_map];exact hi
  rw [List.drop_eq_getElem_cons hit] at h
  simp only [statGo,Bool.and_eq_true] at h
  obtain ⟨⟨h1,h2⟩,h3⟩ := h
  have hrow : (tabOf ops)[i] = orow ops.toArray ops[i] := List.getElem_map (orow ops.toArray)
  rw [hrow] at h1 h2
  have ho : ops.toArray[i]? = some ops[i] := by simp [hi]
  rw [List.range'_succ]
  simp only [headB,Bool.and_eq_true]
  refine ⟨⟨?_,?_⟩,?_⟩
  ·have : i ∈ Region.ready .any ops.toArray (lst ops (D ++ List.range i)) := by
    rw [mem_ready]
    refine ⟨?_,ops[i],ho,fun e he hb=>?_⟩
    ·rw [lst_getD _ hi]
     have h9 : i ∉ D := fun hx=>by have := hD i hx;omega
     simp [h9]
    ·have h4 := List.all_eq_true.1 h1 e.on (List.mem_map.2 ⟨e,List.mem_filter.2 ⟨by simpa using he,hb⟩,rfl⟩)
     have h5 : e.on < i := by simpa using h4
     rw [lst_getD _ (by omega)]
     simp [h5]
   simpa using this
  ·unfold Region.free
   rw [ho]
   simp only [List.all_eq_true,List.mem_range]
   intro j hj
   have hj : j < ops.length := by simpa using hj
   rcases Nat.lt_trichotomy j i with hlt | rfl | hgt
   ·have : (lst ops (D ++ List.range i)).getD j true = true := by
     rw [lst_getD _ hj]
     simp [hlt]
    rw [this]
    simp
   ·simp
   ·have hoj : ops.toArray[j]? = some ops[j] := by simp [hj]
    have hm : orow ops.toArray ops[j] ∈ (tabOf ops).drop (i + 1) := by
     refine List.mem_iff_getElem?.2 ⟨j - (i + 1),?_⟩
     rw [List.getElem?_drop,show i + 1 + (j - (i + 1)) = j by omega]
     unfold tabOf
     rw [List.getElem?_map,List.getElem?_eq_getElem hj]
     rfl
    have h4 := List.all_eq_true.1 h2 _ hm
    rw [hoj]
    rw [Bool.or_eq_true] at h4
    rw [Bool.or_eq_true]
    right
    simp only [Bool.or_eq_true]
    rcases h4 with h4 | h4
    ·left
     have h5 : i ∈ (orow ops.toArray ops[j]).2.2 := by simpa using h4
     obtain ⟨e,he,hon⟩ := List.mem_map.1 h5
     obtain ⟨he1,he2⟩ := List.mem_filter.1 he
     refine Array.any_eq_true'.2 ⟨e,by simpa using he1,?_⟩
     simp [he2,hon]
    ·right
     exact apart_of h4
  ·have e : (lst ops (D ++ List.range i)).setIfInBounds i true = lst ops (D ++ List.range (i + 1)) := by rw [List.range_succ,← List.append_assoc,lst_snoc]
   rw [e]
   exact headB_of k (i + 1) (fun x hx=>by have := hD x hx;omega) (by omega) h3
section
variable {P : Program} {n : Nat} {ops : List Oper} {Q : Post} {f : Frm} {C S : World → Prop}
theorem DW.quietR (D : List Nat) (k : Nat) (H : List Nat) (tab : List ORow) (ht : tabOf ops = tab) (hB : statGo k 0 tab = true) (hN : (Region.noSelect ops.toArray && Nat.ble (D.length + k) ops.length && D.all fun x=>Nat.ble k x) = true) (hH : H = List.range k) (hS : ∀ w,C w → S w)
  (h : QL P n ops S (fun f'=>DW P n ops Q (D ++ H) S f' C) H f) : DW P n ops Q D S f C := by
 subst ht
 simp only [Bool.and_eq_true] at hN
 have hk := Nat.le_of_ble_eq_true hN.1.2
 subst hH
 refine DW.quiet_aux _ D f C ?_ hN.1.1 (by rw [List.length_range];exact hk) hS h
 have := headB_of (ops := ops) (D := D) k 0 (fun x hx=>by have := List.all_eq_true.1 hN.2 x hx;rw [Nat.zero_add];exact Nat.le_of_ble_eq_true this) (by omega) (by simpa using hB)
 rw [List.range_eq_range']
 simpa using this
end
end Go.Hb
namespace Go.Proofs.YtohbcfokihplbaaGreatDoor
open Go.Hb
attribute [local irreducible] LR CW At Ev thn blk finK noG again CallsTo DW QL dnext TW DP
set_option maxRecDepth 100000
structure Tkn where
 r1 : Int
 r2 : Int
 hop : Int
 seq : Int
 aru : Int
 low : Int
 stamp : Int
 idle : Int
 ask : List Int
def Tkn.cells (t : Tkn) (a : Option Addr) (c : Nat) : List Value := [.int .i64 t.r1,.int .i64 t.r2,.int .i64 t.hop,.int .i64 t.seq,.int .i64 t.aru,.int .i64 t.low,.int .i64 t.stamp,.int .i64 t.idle,.slice a t.ask.length c]
def Tkn.val (t : Tkn) (a : Option Addr) (c : Nat) : Value := .agg (t.cells a c).toArray
structure Ent where
 node : Int
 o1 : Int
 o2 : Int
 aru : Int
 high : Int
 clock : Int
def Ent.nums (e : Ent) : List Int := [e.node,e.o1,e.o2,e.aru,e.high,e.clock]
def Ent.cells (e : Ent) : List Value := [.int .i64 e.node,.int .i64 e.o1,.int .i64 e.o2,.int .i64 e.aru,.int .i64 e.high,.int .i64 e.clock]
theorem Ent.cells_len (e : Ent) : e.cells.length = 6 := rfl
structure Cmt where
 r1 : Int
 r2 : Int
 mem : Int
 hop : Int
 ents : List Ent
def Cmt.cells (x : Cmt) (a : Option Addr) (c : Nat) : List Value := [.int .i64 x.r1,.int .i64 x.r2,.int .i64 x.mem,.int .i64 x.hop,.slice a x.ents.length c]
def Cmt.val (x : Cmt) (a : Option Addr) (c : Nat) : Value := .agg (x.cells a c).toArray
structure Pkt where
 kind : Int
 to : Int
 d : Dat
 t : Tkn
 j1 : Int
 j2 : Int
 j3 : Int
 c : Cmt
 b1 : Int
 b2 : Int
 b3 : Int
structure PAd where
 da : Option Addr
 dc : Nat
 ta : Option Addr
 tc : Nat
 ca : Option Addr
 cc : Nat
def Pkt.cells (p : Pkt) (A : PAd) : List Value :=
 [.int .i64 p.kind,.int .i64 p.to] ++ (p.d.cells A.da A.dc ++ (p.t.cells A.ta A.tc ++ ([.int .i64 p.j1,.int .i64 p.j2,.int .i64 p.j3] ++ (p.c.cells A.ca A.cc ++ [.int .i64 p.b1,.int .i64 p.b2,.int .i64 p.b3]))))
def Pkt.val (p : Pkt) (A : PAd) : Value := .agg (p.cells A).toArray
def dataS (d : Dat) : Bool := !decide ([d.rseq,d.rrep] = [0,0]) || !decide (d.seq = 0) || !decide (d.sender = 0) || !decide (d.stamp = 0) || !decide (d.msg.kind = 0) || !decide (d.msg.origin = 0) || !decide (d.msg.life = 0) || !decide (d.msg.id = 0) || !decide (d.msg.part = 0) || !decide (d.msg.parts = 0) || !decide (d.msg.groups = 0) || d.msg.safe || !decide ([d.msg.stamp,d.msg.rseq,d.msg.rrep,d.msg.kseq] = [0,0,0,0]) || decide (0 < d.msg.body.length)
def tokS (t : Tkn) : Bool := !decide ([t.r1,t.r2] = [0,0]) || !decide (t.hop = 0) || !decide (t.seq = 0) || !decide (t.aru = 0) || !decide (t.low = 0) || !decide (t.stamp = 0) || !decide (t.idle = 0) || decide (0 < t.ask.length)
def comS (x : Cmt) : Bool := !decide ([x.r1,x.r2] = [0,0]) || !decide (x.mem = 0) || !decide (x.hop = 0) || decide (0 < x.ents.length)
def joinS (p : Pkt) : Bool := !decide ([p.j1,p.j2,p.j3] = [0,0,0])
def beaS (p : Pkt) : Bool := !decide ([p.b1,p.b2,p.b3] = [0,0,0])
def tab57 : List ORow := [(some 16,[3],[]),(some 17,[16],[0]),(some 18,[],[]),(some 19,[17,18],[1,2]),(some 20,[19],[3]),(some 21,[3,20],[4]),(some 22,[21,20],[5,4]),(some 23,[22,20],[6,4]),(some 24,[20,23],[4,7]),(some 25,[24],[8,4]),(some 26,[3,25],[9]),(some 27,[26,25],[10,9]),(some 28,[27,25],[11,9]),(some 29,[25,28],[9,12]),(some 30,[29],[13,9]),(some 31,[3,30],[14]),(some 32,[31,30],[15,14]),(some 33,[32,30],[16,14]),(some 34,[30,33],[14,17]),(some 35,[34],[18,14]),(some 36,[4,35],[19]),(some 37,[36,35],[20,19]),(some 38,[37,35],[21,19]),(some 39,[35,38],[19,22]),(some 40,[39],[23,19]),(some 41,[4,40],[24]),(some 42,[41,40],[25,24]),(some 43,[42,40],[26,24]),(some 44,[40,43],[24,27]),(some 45,[44],[28,24]),(some 46,[4,45],[29]),(some 47,[46,45],[30,29]),(some 48,[47,45],[31,29]),(some 49,[45,48],[29,32]),(some 50,[49],[33,29]),(some 51,[4,50],[34]),(some 52,[51,50],[35,34]),(some 53,[52,50],[36,34]),(some 54,[50,53],[34,37]),(some 55,[54],[38,34]),(some 56,[4,55],[39]),(some 57,[56,55],[40,39]),(some 58,[57,55],[41,39]),(some 59,[55,58],[39,42]),(some 60,[59],[43,39]),(some 61,[4,60],[44]),(some 62,[61,60],[45,44]),(some 63,[62,60],[46,44]),(some 64,[60,63],[44,47]),(some 65,[64],[48,44]),(some 66,[4,65],[49]),(some 67,[66,65],[50,49]),(some 68,[67,65],[51,49]),(some 69,[65,68],[49,52]),(some 70,[69],[53,49]),(some 71,[4,70],[54]),(some 72,[71,70],[55,54]),(some 73,[70,72],[54,56]),(some 74,[73],[57,54]),(some 75,[4,74],[58]),(some 76,[75,74],[59,58]),(some 77,[74],[58]),(some 78,[76,77,74],[60,61,58]),(some 79,[74,78],[58,62]),(some 80,[79],[63,58]),(some 81,[4,80],[64]),(some 82,[81,80],[65,64]),(some 83,[82,80],[66,64]),(some 84,[83,80],[67,64]),(some 85,[80,84],[64,68]),(some 86,[5],[]),(some 87,[86],[70]),(some 88,[],[]),(some 89,[87,88],[71,72]),(some 90,[89],[73,64]),(some 91,[5,90],[74]),(some 92,[91,90],[75,74]),(some 93,[92,90],[76,74]),(some 94,[90,93],[74,77]),(some 95,[94],[78,74]),(some 96,[5,95],[79]),(some 97,[96,95],[80,79]),(some 98,[97,95],[81,79]),(some 99,[95,98],[79,82]),(some 100,[99],[83,79]),(some 101,[5,100],[84]),(some 102,[101,100],[85,84]),(some 103,[102,100],[86,84]),(some 104,[100,103],[84,87]),(some 105,[104],[88,84]),(some 106,[5,105],[89]),(some 107,[106,105],[90,89]),(some 108,[107,105],[91,89]),(some 109,[105,108],[89,92]),(some 110,[109],[93,89]),(some 111,[5,110],[94]),(some 112,[111,110],[95,94]),(some 113,[112,110],[96,94]),(some 114,[110,113],[94,97]),(some 115,[114],[98,94]),(some 116,[5,115],[99]),(some 117,[116,115],[100,99]),(some 118,[117,115],[101,99]),(some 119,[115,118],[99,102]),(some 120,[119],[103,99]),(some 121,[5,120],[104]),(some 122,[121,120],[105,104]),(some 123,[122,120],[106,104]),(some 124,[123,120],[107,104]),(some 125,[120,124],[104,108]),(some 126,[1],[]),(some 127,[126],[110]),(some 128,[],[]),(some 129,[127,128],[111,112]),(some 130,[6],[]),(some 131,[130],[114]),(some 132,[],[]),(some 133,[131,132],[115,116]),(some 134,[133],[117,104]),(some 135,[6,134],[118]),(some 136,[135,134],[119,118]),(some 137,[136,134],[120,118]),(some 138,[134,137],[118,121]),(some 139,[138],[122,118]),(some 140,[6,139],[123]),(some 141,[140,139],[124,123]),(some 142,[141,139],[125,123]),(some 143,[139,142],[123,126]),(some 144,[143],[127,123]),(some 145,[6,144],[128]),(some 146,[145,144],[129,128]),(some 147,[146,144],[130,128]),(some 148,[147,144],[131,128]),(some 149,[144,148],[128,132]),(some 150,[1],[]),(some 151,[150],[134]),(some 152,[],[]),(some 153,[151,152],[135,136]),(some 154,[85,125,129,149,153],[69,109,113,133,137]),(none,[2,154],[138,128,0,1,2,3,4,5,6,7,8,9,10,11,12,13,14,15,16,17,18,19,20,21,22,23,24,25,26,27,28,29,30,31,32,33,34,35,36,37,38,39,40,41,42,43,44,45,46,47,48,49,50,51,52,53,54,55,56,57,58,59,60,61,62,63,64,65,66,67,68,69,70,71,72,73,74,75,76,77,78,79,80,81,82,83,84,85,86,87,88,89,90,91,92,93,94,95,96,97,98,99,100,101,102,103,104,105,106,107,108,109,110,111,112,113,114,115,116,117,118,119,120,121,122,123,124,125,126,127,128,129,130,131,132,133,134,135,136,137,138])]
def shapeV (p : Pkt) : List Value := [.bool (dataS p.d),.bool (tokS p.t),.bool (joinS p),.bool (comS p.c),.bool (beaS p)]
set_option maxHeartbeats 8000000 in
theorem p57 (p : Pkt) (A : PAd) (w : World) : CallsTo Tryz.prog 69 [p.val A] w fun v w'=>v = .agg (shapeV p).toArray ∧ Grew w w' := by
 refine go_in (n := 155) (St.refl _ NoF) Tryz.func69 rfl rfl ?_
 repeat'(first|(apply kB;(iterate 2 exact rfl);intro b1)|(apply CW.reg_heldC)|refine gz ?_|refine gy fun _=>?_)
 all_goals (
  apply DW.quiet [0,1,2,3,4,5,6,7,8]
  ·decide +kernel
  ·exact stZ
  repeat'(first|refine gq ?_|apply QL.nil)
  all_goals (show DW _ _ _ _ _ _ _ _))
 apply DP.begin []
 refine DP.more (PI.lr 12 6 [] (fun b=>.pointer (some ⟨b,0,none⟩)) (fun b=>[.own b (.cells [.int .i64 0,.int .i64 0,.int .i64 0,.int .i64 0,.slice none 0 0].toArray 59 (0,0))]) rfl (fun b x hx=>by simp only [List.mem_singleton] at hx;subst hx;rfl) ?_) ?_
 ·intro h w2
  apply kA
  ·exact rfl
  intro b
  apply kM
  exact At.made rfl
 refine DP.more (PI.lr 11 5 [] (fun b=>.pointer (some ⟨b,0,none⟩)) (fun b=>[.own b (.cells [.int .i64 0,.int .i64 0,.int .i64 0,.int .i64 0,.int .i64 0,.int .i64 0,.int .i64 0,.int .i64 0,.slice none 0 0].toArray 54 (0,0))]) rfl (fun b x hx=>by simp only [List.mem_singleton] at hx;subst hx;rfl) ?_) ?_
 ·intro h w2
  apply kA
  ·exact rfl
  intro b
  apply kM
  exact At.made rfl
 refine DP.more (PI.lr 10 4 [] (fun b=>.pointer (some ⟨b,0,none⟩)) (fun b=>[.own b (.cells [.int .i64 0,.int .i64 0,.int .i64 0,.int .i64 0,.int .i64 0,.int .i64 0,.int .i64 0,.bool false,.int .i64 0,.int .i64 0,.int .i64 0,.int .i64 0,.slice none 0 0].toArray 50 (0,0))]) rfl (fun b x hx=>by simp only [List.mem_singleton] at hx;subst hx;rfl) ?_) ?_
 ·intro h w2
  apply kA
  ·exact rfl
  intro b
  apply kM
  exact At.made rfl
 refine DP.more (PI.lr 9 3 [] (fun b=>.pointer (some ⟨b,0,none⟩)) (fun b=>[.own b (.cells [.int .i64 0,.int .i64 0,.int .i64 0,.int .i64 0,.int .i64 0,.int .i64 0,.int .i64 0,.int .i64 0,.int .i64 0,.int .i64 0,.int .i64 0,.int .i64 0,.bool false,.int .i64 0,.int .i64 0,.int .i64 0,.int .i64 0,.slice none 0 0].toArray 52 (0,0))]) rfl (fun b x hx=>by simp only [List.mem_singleton] at hx;subst hx;rfl) ?_) ?_
 ·intro h w2
  apply kA
  ·exact rfl
  intro b
  apply kM
  exact At.made rfl
 refine DP.take 9 3 (fun b=>.pointer (some ⟨b,0,none⟩)) (fun b=>[.own b (.cells [.int .i64 0,.int .i64 0,.int .i64 0,.int .i64 0,.int .i64 0,.int .i64 0,.int .i64 0,.int .i64 0,.int .i64 0,.int .i64 0,.int .i64 0,.int .i64 0,.bool false,.int .i64 0,.int .i64 0,.int .i64 0,.int .i64 0,.slice none 0 0].toArray 52 (0,0))]) [10,11,12] [3,4,5,6] [[],[],[],[]] rfl rfl rfl rfl rfl rfl rfl (by decide +kernel) ⟨trivial,fun _ _ _=>trivial,⟨trivial,fun _ _ _=>trivial,⟨trivial,fun _ _ _=>trivial,⟨trivial,fun _ _ _=>trivial,trivial⟩⟩⟩⟩ (fun A w' hA=>St.sub hA (by simp only [List.cons_append,List.nil_append];repeat (first | exact List.sublist_append_left _ _ ))) (fun bp3=>?_)
 refine DP.take 10 4 (fun b=>.pointer (some ⟨b,0,none⟩)) (fun b=>[.own b (.cells [.int .i64 0,.int .i64 0,.int .i64 0,.int .i64 0,.int .i64 0,.int .i64 0,.int .i64 0,.bool false,.int .i64 0,.int .i64 0,.int .i64 0,.int .i64 0,.slice none 0 0].toArray 50 (0,0))]) [11,12] [4,5,6] [[],[],[]] rfl rfl rfl rfl rfl rfl rfl (by decide +kernel) ⟨trivial,fun _ _ _=>trivial,⟨trivial,fun _ _ _=>trivial,⟨trivial,fun _ _ _=>trivial,trivial⟩⟩⟩ (fun A w' hA=>St.sub hA (by simp only [List.cons_append,List.nil_append];repeat (first | exact List.sublist_append_left _ _ | apply List.Sublist.cons))) (fun bp4=>?_)
 refine DP.take 11 5 (fun b=>.pointer (some ⟨b,0,none⟩)) (fun b=>[.own b (.cells [.int .i64 0,.int .i64 0,.int .i64 0,.int .i64 0,.int .i64 0,.int .i64 0,.int .i64 0,.int .i64 0,.slice none 0 0].toArray 54 (0,0))]) [12] [5,6] [[],[]] rfl rfl rfl rfl rfl rfl rfl (by decide +kernel) ⟨trivial,fun _ _ _=>trivial,⟨trivial,fun _ _ _=>trivial,trivial⟩⟩ (fun A w' hA=>St.sub hA (by simp only [List.cons_append,List.nil_append];repeat (first | exact List.sublist_append_left _ _ | apply List.Sublist.cons))) (fun bp5=>?_)
 refine DP.take 12 6 (fun b=>.pointer (some ⟨b,0,none⟩)) (fun b=>[.own b (.cells [.int .i64 0,.int .i64 0,.int .i64 0,.int .i64 0,.slice none 0 0].toArray 59 (0,0))]) [] [6] [[]] rfl rfl rfl rfl rfl rfl rfl (by decide +kernel) ⟨trivial,fun _ _ _=>trivial,trivial⟩ (fun A w' hA=>St.sub hA (by simp only [List.cons_append,List.nil_append];repeat (first | exact List.sublist_append_left _ _ | apply List.Sublist.cons))) (fun bp6=>?_)
 refine DP.nil ?_
 refine DW.castL (by simp only [List.cons_append,List.nil_append];exact rfl) ?_
 all_goals (
  apply DW.loud 13
  ·exact rfl
  ·decide +kernel
  repeat'(first|refine gw ?_)
  all_goals (refine ats ?_))
 all_goals (
  apply DW.loud 14
  ·exact rfl
  ·decide +kernel
  repeat'(first|refine gw ?_)
  all_goals (refine ats ?_))
 all_goals (
  apply DW.loud 15
  ·exact rfl
  ·decide +kernel
  repeat'(first|refine gw ?_)
  all_goals (refine ats ?_))
 all_goals (
  apply DW.loud 16
  ·exact rfl
  ·decide +kernel
  repeat'(first|refine gw ?_)
  all_goals (refine ats ?_))
 all_goals (first | (apply DW.done_thn;(·decide +kernel)) |fail)
 repeat'(first|(apply CW.reg_sinkC 139;(·exact rfl);(·decide +kernel))|refine gz ?_)
 refine DW.quietR [139] 139 [0,1,2,3,4,5,6,7,8,9,10,11,12,13,14,15,16,17,18,19,20,21,22,23,24,25,26,27,28,29,30,31,32,33,34,35,36,37,38,39,40,41,42,43,44,45,46,47,48,49,50,51,52,53,54,55,56,57,58,59,60,61,62,63,64,65,66,67,68,69,70,71,72,73,74,75,76,77,78,79,80,81,82,83,84,85,86,87,88,89,90,91,92,93,94,95,96,97,98,99,100,101,102,103,104,105,106,107,108,109,110,111,112,113,114,115,116,117,118,119,120,121,122,123,124,125,126,127,128,129,130,131,132,133,134,135,136,137,138] tab57 (by kernel_rfl) (by decide +kernel) (by decide +kernel) (by rfl) (fun _ h=>h) ?_
 refine QL.join [16,17,18,19,20,21,22,23,24,25,26,27,28,29,30,31,32,33,34,35,36,37,38,39,40,41,42,43,44,45,46,47,48,49,50,51,52,53,54,55,56,57,58,59,60,61,62,63,64,65,66,67,68,69,70,71,72,73,74,75,76,77,78,79,80,81,82,83,84,85] 85 (.bool (dataS p.d)) [0,1,2,3,4,5,6,7,8,9,10,11,12,13,14,15,16,17,18,19,20,21,22,23,24,25,26,27,28,29,30,31,32,33,34,35,36,37,38,39,40,41,42,43,44,45,46,47,48,49,50,51,52,53,54,55,56,57,58,59,60,61,62,63,64,65,66,67,68,69] [70,71,72,73,74,75,76,77,78,79,80,81,82,83,84,85,86,87,88,89,90,91,92,93,94,95,96,97,98,99,100,101,102,103,104,105,106,107,108,109,110,111,112,113,114,115,116,117,118,119,120,121,122,123,124,125,126,127,128,129,130,131,132,133,134,135,136,137,138] ?_ (fun g85=>?_)
 ·repeat'(first|refine gq ?_|(refine us' ?_ ?_;all_goals(intro hc;try simp only[hcs]at hc;try exact abz))|apply QL.nil)
  all_goals (refine ⟨?_,by repeat (first | exact Jn.base _ | (apply Jn.upd;case hd=>exact rfl))⟩)
  all_goals (show Value.bool _ = Value.bool _;refine congrArg Value.bool ?_;simp_all [dataS,tokS,comS,joinS];try omega)
 refine QL.join [86,87,88,89,90,91,92,93,94,95,96,97,98,99,100,101,102,103,104,105,106,107,108,109,110,111,112,113,114,115,116,117,118,119,120,121,122,123,124,125] 125 (.bool (tokS p.t)) [70,71,72,73,74,75,76,77,78,79,80,81,82,83,84,85,86,87,88,89,90,91,92,93,94,95,96,97,98,99,100,101,102,103,104,105,106,107,108,109] [110,111,112,113,114,115,116,117,118,119,120,121,122,123,124,125,126,127,128,129,130,131,132,133,134,135,136,137,138] ?_ (fun g125=>?_)
 ·repeat'(first|refine gq ?_|(refine us' ?_ ?_;all_goals(intro hc;try simp only[hcs]at hc;try exact abz))|apply QL.nil)
  all_goals (refine ⟨?_,by repeat (first | exact Jn.base _ | (apply Jn.upd;case hd=>exact rfl))⟩)
  all_goals (show Value.bool _ = Value.bool _;refine congrArg Value.bool ?_;simp_all [dataS,tokS,comS,joinS];try omega)
 refine QL.join [126,127,128,129] 129 (.bool (joinS p)) [110,111,112,113] [114,115,116,117,118,119,120,121,122,123,124,125,126,127,128,129,130,131,132,133,134,135,136,137,138] ?_ (fun g129=>?_)
 ·repeat'(first|refine gq ?_|apply QL.nil)
  all_goals (refine ⟨?_,by repeat (first | exact Jn.base _ | (apply Jn.upd;case hd=>exact rfl))⟩)
  all_goals (show Value.bool _ = Value.bool _;refine congrArg Value.bool ?_;simp_all [dataS,tokS,comS,joinS];try omega)
 refine QL.join [130,131,132,133,134,135,136,137,138,139,140,141,142,143,144,145,146,147,148,149] 149 (.bool (comS p.c)) [114,115,116,117,118,119,120,121,122,123,124,125,126,127,128,129,130,131,132,133] [134,135,136,137,138] ?_ (fun g149=>?_)
 ·repeat'(first|refine gq ?_|(refine us' ?_ ?_;all_goals(intro hc;try simp only[hcs]at hc;try exact abz))|apply QL.nil)
  all_goals (refine ⟨?_,by repeat (first | exact Jn.base _ | (apply Jn.upd;case hd=>exact rfl))⟩)
  all_goals (show Value.bool _ = Value.bool _;refine congrArg Value.bool ?_;simp_all [dataS,tokS,comS,joinS];try omega)
 repeat'(first|refine gq ?_|apply QL.nil)
 all_goals (show DW _ _ _ _ _ _ _ _)
 apply DW.done
 ·decide +kernel
 apply At.sink
 repeat'(first|refine gz ?_)
 (apply ret1c;(·exact rfl);(·exact inferInstance);(·exact rfl);(·exact memY);(·exact rfl);intro w' hS)
 exact ⟨rfl,hS.toKeep⟩
def askOk (seq : Int) : Int → List Int → Bool
 | _,[]=>true
 | last,x :: r=>decide (last + 1 ≤ x ∧ x ≤ seq) && askOk seq x r
theorem askOk_cons (seq last x : Int) (r : List Int) : askOk seq last (x :: r) = (decide (last + 1 ≤ x ∧ x ≤ seq) && askOk seq x r) := rfl
def tokHead (t : Tkn) : Bool := liveR t.r1 t.r2 && !decide (t.hop < 1) && [t.hop,t.seq,t.aru,t.stamp,t.idle].all numB && !decide (t.seq < t.aru) && decide (0 ≤ t.low ∧ t.low ≤ 8) && !decide (16 < t.ask.length)
def mayT (t : Tkn) : Bool := tokHead t && askOk t.seq 0 t.ask
set_option maxHeartbeats 4000000 in
theorem p60 (t : Tkn) (a : Option Addr) (c : Nat) (w : World) (hr : Rd w a (iv t.ask)) : CallsTo Tryz.prog 72 [t.val a c] w fun v w'=>v = .bool (mayT t) ∧ Grew w w' := by
 refine go_in (n := 65) (St.rd1 hr) Tryz.func72 rfl rfl ?_
 cases hth : tokHead t
 ·repeat'(first|(apply kB;(iterate 2 exact rfl);intro b1)|(apply Go.Hb.kK;(iterate 4 exact rfl);intro bs)|refine gz ?_|(apply kq;(·exact rfl);(·intro w1 h1;first | exact CallsTo.q (p64 t.r1 t.r2 w1) h1 | exact CallsTo.q (p88 t.low 0 8 w1) h1 | exact CallsTo.q (p62 (some ⟨bs,0,none⟩) 5 [t.hop,t.seq,t.aru,t.stamp,t.idle] w1 (h1.rd_of_blk memZ) (by simp)) h1))|(refine gs ?_ ?_;all_goals(intro hc;try simp only[hcs]at hc;try exact abz)))
  all_goals try (exfalso;unfold tokHead at hth;simp_all;(try omega);done)
  all_goals (
   (apply ret1;(·exact rfl);intro w' hS)
   refine ⟨congrArg Value.bool ?_,hS.toKeep⟩
   unfold mayT
   rw [hth]
   rfl)
 ·have hseq : 0 ≤ t.seq ∧ t.seq ≤ 9007199254740991 := by
   unfold tokHead at hth
   simp only [Bool.and_eq_true,List.all_cons] at hth
   have := hth.1.1.1.2.2.1
   unfold numB at this
   simpa using this
  have hlen : t.ask.length ≤ 16 := by
   unfold tokHead at hth
   simp only [Bool.and_eq_true,Bool.not_eq_true',decide_eq_false_iff_not] at hth
   omega
  have hmt : mayT t = askOk t.seq 0 t.ask := by unfold mayT;rw [hth];rfl
  rw [hmt]
  repeat'(first|(apply kB;(iterate 2 exact rfl);intro b1)|(apply Go.Hb.kK;(iterate 4 exact rfl);intro bs)|refine gz ?_|(apply kq;(·exact rfl);(·intro w1 h1;first | exact CallsTo.q (p64 t.r1 t.r2 w1) h1 | exact CallsTo.q (p88 t.low 0 8 w1) h1 | exact CallsTo.q (p62 (some ⟨bs,0,none⟩) 5 [t.hop,t.seq,t.aru,t.stamp,t.idle] w1 (h1.rd_of_blk memZ) (by simp)) h1))|(refine gs ?_ ?_;all_goals(intro hc;try simp only[hcs]at hc;try exact abz)))
  all_goals try (exfalso;unfold tokHead at hth;simp_all;(try omega);done)
  apply CW.loop [2,3,5,52,53,54,55,56,57,58,59,60,61,62,63,64] (fun s : Nat × Int=>s.1 ≤ t.ask.length ∧ 0 ≤ s.2 ∧ s.2 ≤ t.seq ∧ askOk t.seq 0 t.ask = askOk t.seq s.2 (t.ask.drop s.1)) (fun s=>[(52,Value.int .i64 (s.1 : Int)),(3,Value.int .i64 s.2)])
   (fun _=>St w NoF [.own b1 (.cells (t.cells a c).toArray 54 (0,0)),rdA a (iv t.ask)]) (fun s=>t.ask.length - s.1)
  ·intro w' hw'
   exact ⟨(0,0),⟨by simp,by simp,by simp only;omega,by simp⟩,⟨rfl,rfl,trivial⟩,hw'.sub subN⟩
  rintro ⟨i,last⟩ g1 ⟨hi,hl0,hls,heq⟩
  simp only at hi hl0 hls heq ⊢
  by_cases hlt : i < t.ask.length
  ·obtain ⟨bg,og,rfl⟩ := hr.form (fun e=>by have h2 := congrArg List.length e;simp only [iv_length,List.length_nil] at h2;omega)
   rw [List.drop_eq_getElem_cons hlt] at heq
   rw [askOk_cons] at heq
   cases hw1 : decide (last + 1 ≤ t.ask[i] ∧ t.ask[i] ≤ t.seq)
   ·rw [hw1,Bool.false_and] at heq
    repeat'(first|refine gz ?_|(apply idxX;(iterate 2 exact rfl);(iterate 2(first|omega));exact rfl)|(apply LR.ev;(·apply Ev.load_rd;(·exact rfl);(·repeat (first | exact mH _ _ | apply mT));(·exact iv_at (i := i) (by simp) hlt));(·exact rfl))|(apply addX;(iterate 2 exact rfl);(iterate 2(first|omega));exact rfl)|(apply kq;(·exact rfl);(·intro w1 h1;have hq := CallsTo.q (p88 t.ask[i] (last + 1) t.seq w1) h1;rw [hw1] at hq;exact hq))|(refine gs ?_ ?_;all_goals(intro hc;try simp only[hcs]at hc;try exact abz)))
    (apply ret1;(·exact rfl);intro w' hS)
    exact ⟨congrArg Value.bool heq.symm,hS.toKeep⟩
   ·rw [hw1,Bool.true_and] at heq
    rw [decide_eq_true_eq] at hw1
    repeat'(first|refine gz ?_|(apply idxX;(iterate 2 exact rfl);(iterate 2(first|omega));exact rfl)|(apply LR.ev;(·apply Ev.load_rd;(·exact rfl);(·repeat (first | exact mH _ _ | apply mT));(·exact iv_at (i := i) (by simp) hlt));(·exact rfl))|(apply addX;(iterate 2 exact rfl);(iterate 2(first|omega));exact rfl)|(apply kq;(·exact rfl);(·intro w1 h1;have hq := CallsTo.q (p88 t.ask[i] (last + 1) t.seq w1) h1;rw [decide_eq_true hw1] at hq;exact hq))|(refine gs ?_ ?_;all_goals(intro hc;try simp only[hcs]at hc;try exact abz)))
    refine At.again (i + 1,t.ask[i]) ⟨by simp only;omega,by simp only;omega,by simp only;omega,heq⟩ ?_ ⟨rfl,rfl,trivial⟩ (fun w' hw'=>hw') (by simp only;omega)
    exact outZ
  ·have hie : i = t.ask.length := by omega
   subst hie
   rw [List.drop_length] at heq
   repeat'(first|refine gz ?_|(refine gs ?_ ?_;all_goals(intro hc;try simp only[hcs]at hc;try exact abz)))
   (apply ret1;(·exact rfl);intro w' hS)
   exact ⟨congrArg Value.bool heq.symm,hS.toKeep⟩
def crewN (c : Int) (k : Nat) : List Int := ((List.range k).map fun i : Nat=>(i : Int)).filter (hasC c)
theorem crewN_succ (c : Int) (k : Nat) : crewN c (k + 1) = crewN c k ++ if hasC c (k : Int) then [(k : Int)] else [] := by
 unfold crewN
 rw [List.range_succ,List.map_append,List.filter_append]
 congr 1
 by_cases h : hasC c (k : Int) = true <;> simp [h]
theorem crewN_len (c : Int) (k : Nat) : (crewN c k).length ≤ k := by
 unfold crewN
 refine Nat.le_trans (List.length_filter_le _ _) ?_
 simp
theorem crewN_9 (c : Int) : crewN c 9 = crewL c := by
 unfold crewN crewL crewTo
 rw [List.range_succ_eq_map,List.map_cons,List.filter_cons,show hasC c ((0 : Nat) : Int) = false from rfl,List.map_map]
 rfl
set_option maxHeartbeats 1000000 in
theorem p97 (c : Int) (w : World) : CallsTo Tryz.prog 120 [.int .i64 c] w fun v w'=>∃ a' c',v = .slice a' (crewL c).length c' ∧ NewSl w w' (.slice a' (crewL c).length c') 3 1 (crewL c).length (iv (crewL c)) := by
 refine go_in (n := 17) (St.refl _ NoF) Tryz.func120 rfl rfl ?_
 repeat'(first|refine gz ?_)
 apply CW.loop [3,4,5,6,7,8,9,10,11,12,13,14,15] (fun s : Cst=>s.k ≤ 9) (fun s=>[(3,.slice s.a (crewN c s.k).length s.c),(5,.int .i64 (s.k : Int))])
  (fun s=>St w NoF [ilK s.a s.c (crewN c s.k)]) (fun s=>9 - s.k)
 ·exact fun w' hw'=>⟨⟨0,none,0⟩,by simp,⟨rfl,rfl,trivial⟩,hw'.nilsl 3 1⟩
 rintro ⟨k,a2,c2⟩ g hk
 simp only at hk ⊢
 have hsu := crewN_succ c k
 have hle := crewN_len c k
 by_cases hlt : k < 9
 ·cases hx : hasC c (k : Int)
  ·rw [hx] at hsu
   simp only [Bool.false_eq_true,if_false,List.append_nil] at hsu
   repeat'(first|refine gz ?_|(apply kq;(·exact rfl);(·intro w1 h1;have hq := CallsTo.q (q23 c (k : Int) w1) h1;rw [hx] at hq;exact hq))|(apply addX;(iterate 2 exact rfl);(iterate 2(first|omega));exact rfl)|(refine gs ?_ ?_;all_goals(intro hc;try simp only[hcs]at hc;try exact abz)))
   refine At.again (⟨k + 1,a2,c2⟩ : Cst) (by simp only;omega) ?_ ⟨?_,rfl,trivial⟩ ?_ (by simp only;omega)
   ·exact outZ
   ·simp only
    rw [hsu]
    rfl
   ·intro w' hw'
    simp only
    rw [hsu]
    exact hw'.sub subN
  ·rw [hx] at hsu
   simp only [if_true] at hsu
   generalize crewN c k = L at hsu hle ⊢
   repeat'(first|(apply Go.Hb.kK;(iterate 4 exact rfl);intro bs)|refine gz ?_|(apply kq;(·exact rfl);(·intro w1 h1;have hq := CallsTo.q (q23 c (k : Int) w1) h1;rw [hx] at hq;exact hq))|(apply addX;(iterate 2 exact rfl);(iterate 2(first|omega));exact rfl)|(apply LR.append (xs := iv L) (news := [Value.int .i64 (k : Int)]) (m := 1);(·exact rfl);(·exact rfl);(·intro a' c';exact selZ);(·exact fun w' hw'=>hw'.rd_of_blk (mH _ _));(·exact fun hx=>by cases hx);(·exact rfl);(·exact rfl);(·omega);(·unfold maxLen;omega);(·exact rfl);(intro a3 c3))|(refine gs ?_ ?_;all_goals(intro hc;try simp only[hcs]at hc;try exact abz)))
   refine At.again (⟨k + 1,a3,c3⟩ : Cst) (by simp only;omega) ?_ ⟨?_,rfl,trivial⟩ ?_ (by simp only;omega)
   ·exact outZ
   ·simp only
    rw [hsu]
    simp only [List.length_append,List.length_cons,List.length_nil]
    rfl
   ·intro w' hw'
    simp only
    rw [hsu]
    have e : ilK a3 c3 (L ++ [(k : Int)]) = osl (.slice a3 (L.length + 1) c3) 3 1 (L.length + 1) (iv L ++ [Value.int .i64 (k : Int)]) := by simp [ilK,iv]
    rw [e]
    exact hw'.sub subN
 ·have hke : k = 9 := by omega
  subst hke
  rw [crewN_9]
  repeat'(first|refine gz ?_)
  (apply ret1;(·exact rfl);intro w' hS)
  exact ⟨a2,c2,rfl,hS.toNew memZ⟩
end Go.Proofs.YtohbcfokihplbaaGreatDoor
