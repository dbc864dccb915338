/-
  Lists of numbers, tokens and visits as arguments.
-/
import Derived.Test.YthmmmbphknoagaaRTNM2
import Derived.Sort.OwnSortedInts
import Derived.OpenShut

namespace Go.Proofs.Ythmmmbphknoagaa
open Go.Hb
attribute [local irreducible] LR CW At Ev thn blk finK noG again CallsTo
set_option linter.unusedSimpArgs false
set_option linter.unusedVariables false
set_option maxRecDepth 100000

def sortI (l : List Int) : List Int := l.mergeSort fun x y => decide (x ≤ y)
theorem sortI_len (l : List Int) : (sortI l).length = l.length := List.length_mergeSort ..
theorem compact_len (l : List Int) : (Lib.compact l).length ≤ l.length := by
  unfold Lib.compact Lib.compactUpTo
  rw [List.length_map]
  refine Nat.le_trans (List.length_filter_le _ _) ?_
  simp
theorem callsTo_of {P : Program} {g : FuncId} {args : List Value} {w : World} {R : Ending → World → Prop} {K : Value → World → Prop} (h : Calls P g args.toArray w R) (hk : ∀ e w', R e w' → ∃ v, e = .returned v ∧ K v w') : CallsTo P g args w K :=
  by unfold CallsTo; exact Calls.mono h hk
theorem il_stay {w : World} {a : Option Addr} {c : Nat} {l : List Int} (h : w.ownsRow 0 3 1 (.slice a l.length c) l.length (iv l)) : Step (il a c l) (il a c l) w w :=
  ⟨St.refl w _, h, fun _ hk => .inl hk⟩
theorem t53 (a : Option Addr) (c : Nat) (l : List Int) (w : World) (h : w.ownsRow 0 3 1 (.slice a l.length c) l.length (iv l)) (hm : l.length ≤ 140737488355328) :
    CallsTo Try.prog 53 [.slice a l.length c] w fun v w' => v = .tuple #[] ∧ Step (il a c l) (il a c (sortI l)) w w' := by
  by_cases hl : l = []
  · subst hl
    refine callsTo_of (Try.slices_Sort_int_none a c w) ?_
    rintro e w' ⟨rfl, rfl⟩
    exact ⟨_, rfl, rfl, by simpa [sortI] using il_stay h⟩
  · rcases h.2 with ⟨he, hn⟩ | ⟨g, cap, cur, he, hb, hg, h1, h2, h3, h4⟩
    · exact absurd (List.eq_nil_of_length_eq_zero hn) hl
    simp only [Value.slice.injEq, true_and] at he
    obtain ⟨rfl, rfl⟩ := he
    rw [Nat.mul_one] at h4
    refine callsTo_of (Try.slices_Sort_int g 0 c l w (holds_of_blockI hg h4) ((Array.getElem?_eq_some_iff.1 hg).1) (by omega)) ?_
    rintro e w' ⟨rfl, n, os, rfl⟩
    refine ⟨_, rfl, rfl, keep_of_grown (grownBy_sortedI _) (fun k hk => ?_), ?_, fun k hk => .inl hk⟩
    · cases hk; exact rfl
    · have := ownsRow_sortedI (base := 0) (n := n) (os := os) (sortI_len l) (Nat.zero_le _) hg h1 h2 h3
      show World.ownsRow _ _ _ _ _ _ _
      rw [sortI_len]
      exact this
theorem t54 (a : Option Addr) (c : Nat) (l : List Int) (w : World) (h : w.ownsRow 0 3 1 (.slice a l.length c) l.length (iv l)) (hm : l.length ≤ 140737488355328) :
    CallsTo Try.prog 54 [.slice a l.length c] w fun v w' => v = .slice a (Lib.compact l).length c ∧ Step (il a c l) (il a c (Lib.compact l)) w w' := by
  by_cases hl : l = []
  · subst hl
    refine callsTo_of (Try.slices_Compact_int_empty a c w) ?_
    rintro e w' ⟨rfl, rfl⟩
    exact ⟨_, rfl, rfl, il_stay h⟩
  · rcases h.2 with ⟨he, hn⟩ | ⟨g, cap, cur, he, hb, hg, h1, h2, h3, h4⟩
    · exact absurd (List.eq_nil_of_length_eq_zero hn) hl
    simp only [Value.slice.injEq, true_and] at he
    obtain ⟨rfl, rfl⟩ := he
    rw [Nat.mul_one] at h4
    refine callsTo_of (Try.slices_Compact_int g 0 c l w (holds_of_blockI hg h4) (by omega) h1) ?_
    rintro e w' ⟨rfl, n, rfl⟩
    have hk := grownBy_sortedI (w := w) (g := g) (n := n) (os := #[]) (Lib.compact l ++ List.replicate (l.length - (Lib.compact l).length) 0).toArray
    rw [Go.Sort.grow_empty] at hk
    refine ⟨_, rfl, rfl, keep_of_grown hk (fun k hk => ?_), ?_, fun k hk => .inl hk⟩
    · cases hk; exact rfl
    · have hlc := compact_len l
      have := ownsRow_sortedI (base := 0) (n := n) (os := #[]) (ts := Lib.compact l ++ List.replicate (l.length - (Lib.compact l).length) 0) (ss := l) (by simp; omega) (Nat.zero_le _) hg h1 h2 h3
      rw [Go.Sort.grow_empty] at this
      obtain ⟨k1, k2⟩ := this
      refine ⟨by simp, ?_⟩
      rcases k2 with ⟨he, _⟩ | ⟨g', cap', cur', he, _, hg', j1, j2, j3, j4⟩
      · cases he
      · simp only [Value.slice.injEq, Option.some.injEq, Addr.mk.injEq, and_true, true_and] at he
        obtain ⟨rfl, rfl⟩ := he
        refine .inr ⟨g, c, cur', rfl, Nat.zero_le _, hg', by omega, j2, j3, ?_⟩
        have e := congrArg (List.take ((Lib.compact l).length * 1)) j4
        rw [List.take_take, Nat.min_eq_left (by omega)] at e
        rw [e]
        simp [iv]
/-- l[:k:k] -/
theorem Ev.slice_cut {P : Program} {f : Frm} {T T' E : TypeId} {x y z : Operand} {C : World → Prop} {sz by_ k c j : Nat} {a : Option Addr} [h : SliceOf P T E sz by_] (hx : f.ev x = .slice a k c) (hy : f.ev y = .int .i64 (j : Int)) (hz : f.ev z = .int .i64 (j : Int)) (h2 : j ≤ c) :
    Ev P C f (.slice T x none (some y) (some z)) T' (.slice (subA a j 0 sz) j j) := by
  unfold Ev
  intro w _ d p af g
  simp [execOp, hx, hy, hz, Instr.sliceAt, Instr.slice, Instr.sliceBounds, Instr.sliceBound, asIntOf, run_underlying h.und, size_of_slice h, h2, subA]
theorem ownsAt_cut {w : World} {E : TypeId} {sz k c l : Nat} {a : Option Addr} {xs : List Value} (h : ownsAt w E sz (.slice a k c) k xs) (hl : l ≤ k) : ownsAt w E sz (.slice a l l) l (xs.take (l * sz)) := by
  have hm : l * sz ≤ k * sz := Nat.mul_le_mul_right _ hl
  refine ⟨by rw [List.length_take, h.1]; omega, ?_⟩
  rcases h.2 with ⟨he, hn⟩ | ⟨g, o, cap, cur, he, hg, h1, h2, h3, h4⟩
  · simp only [Value.slice.injEq] at he
    obtain ⟨rfl, _, rfl⟩ := he
    have : l = 0 := by omega
    subst this
    exact .inl ⟨rfl, rfl⟩
  · simp only [Value.slice.injEq] at he
    obtain ⟨rfl, _, rfl⟩ := he
    have hm2 : l * sz ≤ c * sz := Nat.mul_le_mul_right _ (by omega)
    refine .inr ⟨g, o, l, cur, rfl, hg, by omega, by omega, by omega, ?_⟩
    rw [← h4, List.take_take, Nat.min_eq_left hm]
theorem ownsAt_sub0 {w : World} {E : TypeId} {sz n c j : Nat} {a : Option Addr} {xs : List Value} (h : ownsAt w E sz (.slice a n c) n xs) : subA a j 0 sz = a := by
  rcases h.2 with ⟨he, hn⟩ | ⟨g, o, cap, cur, he, _⟩
  · simp only [Value.slice.injEq] at he
    obtain ⟨rfl, _, rfl⟩ := he
    simp [subA]
  · simp only [Value.slice.injEq] at he
    obtain ⟨rfl, _, rfl⟩ := he
    exact subA_zero
/-- A new slice that may be a piece of its block. -/
structure NewOd (w w' : World) (v : Value) (E : TypeId) (sz n : Nat) (xs : List Value) : Prop where
  grew : Grew w w'
  own : ownsAt w' E sz v n xs
  new : ∀ k, v.ownBlock = some k → w.heap.size ≤ k ∧ k < w'.heap.size
theorem St.newOd {w0 w w' : World} {F : Nat → Prop} {L : List Asrt} {v : Value} {E : TypeId} {sz n : Nat} {xs : List Value} (h : St w0 F L w) (hn : NewOd w w' v E sz n xs) : St w0 F (odl v E sz n xs :: L) w' :=
  h.push hn.grew hn.own (fun k hk => hn.new k hk) (odl.dep _ _ _ _ _)
end Go.Proofs.Ythmmmbphknoagaa

namespace Go.Proofs.Ythmmmbphknoagaa
open Go.Hb
attribute [local irreducible] LR CW At Ev thn blk finK noG again CallsTo
set_option linter.unusedSimpArgs false
set_option linter.unusedVariables false
set_option maxRecDepth 100000

def gapsQ (q : Int) (g : List Int) : List Int := g.filter (fun x => withinB x 1 q)
def askV (t : Tk) (g : List Int) : List Int := (Lib.compact (sortI (t.ask ++ gapsQ t.seq g))).take 16
def aruV (t : Tk) (node aru : Int) : Int × Int := if aru < t.aru ∨ t.low = node ∨ t.low = 0 then (if t.seq < aru then t.seq else aru, if (if t.seq < aru then t.seq else aru) = t.seq then 0 else node) else (t.aru, t.low)
def mayV (t : Tk) (node aru : Int) : Bool := tokB t && !decide (t.hop = 9007199254740991) && withinB node 1 8 && decide (0 ≤ aru)
def visitT (t : Tk) (node aru : Int) (g : List Int) : Tk :=
  if mayV t node aru then ⟨t.r1, t.r2, t.hop + 1, t.seq, (aruV t node aru).1, (aruV t node aru).2, t.stamp, t.idle, askV t g⟩ else noTk
theorem tok_bd {t : Tk} (h : tokE t = 0) : 1 ≤ t.hop ∧ t.hop ≤ 9007199254740991 ∧ 0 ≤ t.seq ∧ t.seq ≤ 9007199254740991 ∧ 0 ≤ t.aru ∧ t.aru ≤ t.seq ∧ 0 ≤ t.low ∧ t.low ≤ 8 ∧ t.ask.length ≤ 16 := by
  unfold tokE at h
  split at h
  · rename_i hb
    unfold tokB Tk.headB withinB at hb
    simp only [Bool.and_eq_true, decide_eq_true_eq] at hb
    omega
  · cases h
theorem tok_b {t : Tk} (h : tokE t = 0) : tokB t = true := by
  unfold tokE at h
  split at h
  · assumption
  · cases h
theorem tok_nb {t : Tk} (h : ¬tokE t = 0) : tokB t = false := by
  unfold tokE at h
  split at h
  · exact absurd rfl h
  · rename_i hb; simpa using hb
def vis1 (t : Tk) (node aru : Int) : Tk := ⟨t.r1, t.r2, t.hop + 1, t.seq, (aruV t node aru).1, (aruV t node aru).2, t.stamp, t.idle, t.ask⟩
theorem gapsQ_succ {q : Int} {g : List Int} {i : Nat} (h : i < g.length) : gapsQ q (g.take (i + 1)) = gapsQ q (g.take i) ++ (if withinB g[i] 1 q then [g[i]] else []) := by
  unfold gapsQ
  rw [List.take_add_one, List.getElem?_eq_getElem h, Option.toList_some, List.filter_append]
  simp [List.filter_cons]
theorem gaps_yes {t : Tk} {g : List Int} {i : Nat} (h : i < g.length) (hy : withinB g[i] 1 t.seq = true) : t.ask ++ gapsQ t.seq (g.take (i + 1)) = (t.ask ++ gapsQ t.seq (g.take i)) ++ [g[i]] := by
  rw [gapsQ_succ h, if_pos hy, List.append_assoc]
theorem gaps_no {t : Tk} {g : List Int} {i : Nat} (h : i < g.length) (hy : withinB g[i] 1 t.seq = false) : t.ask ++ gapsQ t.seq (g.take (i + 1)) = t.ask ++ gapsQ t.seq (g.take i) := by
  rw [gapsQ_succ h, if_neg (by simp [hy]), List.append_nil]
theorem il_snoc (a : Option Addr) (c : Nat) (l : List Int) (x : Int) : osl (.slice a (l.length + 1) c) 3 1 (l.length + 1) (iv l ++ [.int .i64 x]) = il a c (l ++ [x]) := by simp [il, iv]
theorem ownsAt_lt {w : World} {E : TypeId} {sz n k : Nat} {v : Value} {xs : List Value} (h : ownsAt w E sz v n xs) (hk : v.ownBlock = some k) : k < w.heap.size := by
  rcases h.2 with ⟨rfl, _⟩ | ⟨g, o, cap, cur, rfl, hg, _⟩
  · cases hk
  · cases hk; exact (Array.getElem?_eq_some_iff.1 hg).1
theorem ownsRow_cap {w : World} {base E sz n c : Nat} {a : Option Addr} {xs : List Value} (h : w.ownsRow base E sz (.slice a n c) n xs) : n ≤ c := by
  rcases h.2 with ⟨he, hn⟩ | ⟨g, cap, cur, he, _, _, h1, _⟩
  · omega
  · simp only [Value.slice.injEq] at he
    obtain ⟨_, _, rfl⟩ := he
    exact h1
theorem aruV_a {t : Tk} {node aru : Int} (h : aru < t.aru ∨ t.low = node ∨ t.low = 0) (h2 : (if t.seq < aru then t.seq else aru) = t.seq) : aruV t node aru = (if t.seq < aru then t.seq else aru, 0) := by
  unfold aruV
  rw [if_pos h, if_pos h2]
theorem aruV_b {t : Tk} {node aru : Int} (h : aru < t.aru ∨ t.low = node ∨ t.low = 0) (h2 : ¬(if t.seq < aru then t.seq else aru) = t.seq) : aruV t node aru = (if t.seq < aru then t.seq else aru, node) := by
  unfold aruV
  rw [if_pos h, if_neg h2]
theorem aruV_c {t : Tk} {node aru : Int} (h : ¬(aru < t.aru ∨ t.low = node ∨ t.low = 0)) : aruV t node aru = (t.aru, t.low) := by
  unfold aruV
  rw [if_neg h]
theorem gapsQ_len (q : Int) (g : List Int) : (gapsQ q g).length ≤ g.length := List.length_filter_le _ _
set_option maxHeartbeats 1000000 in
theorem t14 (t : Tk) (a : Option Addr) (c : Nat) (node aru : Int) (ag : Option Addr) (cg : Nat) (g : List Int) (w : World) (hr : Rd w a (iv t.ask)) (hz : a = none → c = 0) (hm : t.ask.length ≤ 17592186043904) (hrg : Rd w ag (iv g)) (hmg : g.length ≤ 17592186043904) :
    CallsTo Try.prog 14 [t.val a c, .int .i64 node, .int .i64 aru, .slice ag g.length cg] w fun v w' => ∃ a' c', v = (visitT t node aru g).val a' c' ∧ NewOd w w' (.slice a' (visitT t node aru g).ask.length c') 3 1 (visitT t node aru g).ask.length (iv (visitT t node aru g).ask) := by
  refine go_in (n := 94) (St.rd2 hr hrg) Try.func14 rfl rfl ?_
  repeat'(first|(apply kB;(iterate 2 exact rfl);intro b0)|(apply kA;exact rfl;intro b8)|(apply kp;iterate 2 exact rfl)|apply jJ|(apply jE;exact rfl)|(apply jp;exact rfl)|(apply jc;kernel_rfl)|((first|apply kf|apply kn|apply ke|apply kx|apply kc|apply kb);iterate 2 exact rfl)|((first|apply kz|apply ky);(·exact rfl);(·repeat(first|exact iO|exact iR rfl|apply iT));iterate 2 exact rfl)|(apply kg;iterate 2 exact rfl)|(apply kG;iterate 3 exact rfl)|(apply kB;(iterate 2 exact rfl);intro _)|(apply kA;exact rfl;intro _)|(apply Go.Hb.kK;(iterate 4 exact rfl);intro _)|(apply kU;(iterate 2 exact rfl);(·repeat(first|exact sH _ _ _|apply sT));(first|exact nfL_eq rfl|exact rfl);exact rfl)|((first|apply kh|apply kl);(iterate 2 exact rfl);(first|decide|omega);exact rfl)|(apply kq; (· exact rfl); (· intro w1 h1; exact CallsTo.q (t16 t a c w1 (h1.rd_of (by (repeat (first | exact mH _ _ | apply mT)))) (by omega)) h1))|(apply kq;(·exact rfl);(·intro w1 h1;exact CallsTo.q (t51 _ _ _ w1) h1))|(apply addX;(iterate 2 exact rfl);(have := tok_bd (by assumption); omega);(have := tok_bd (by assumption); omega);exact rfl)|(apply LR.ev; (· apply Ev.min2; (· exact rfl); (· exact rfl)); (· exact rfl))|((first|(apply kR;iterate 2 exact rfl)|(apply kQ;exact rfl));all_goals(intro hc;try simp only[hcs]at hc;try(exfalso;first|contradiction|omega))))
  all_goals (
    first
    | ((apply ret1c; (· exact rfl); (· exact inferInstance); (· exact rfl); (· (repeat (first | exact List.Mem.head _ | apply List.Mem.tail))); (· exact rfl); intro w' hS)
       have e : visitT t node aru g = noTk := by unfold visitT mayV; rw [if_neg]; first | (rw [tok_nb (by assumption)]; simp; done) | (simp_all; done) | (simp_all; omega)
       rw [e]
       exact ⟨none, 0, rfl, hS.toKeep, ⟨rfl, .inl ⟨rfl, rfl⟩⟩, fun k hk => by cases hk⟩)
    | skip)
  all_goals (try (exfalso; have hbd := tok_bd (by assumption); omega))
  all_goals (
    have hE : tokE t = 0 := by assumption
    have hbd := tok_bd hE
    refine LR.sub (D := St w NoF [.own b8 (.cells (noTk.cells none 0).toArray 26 (0, 0)), .own b0 (.cells ((vis1 t node aru).cells a c).toArray 26 (0, 0)), rdA a (iv t.ask), rdA ag (iv g)]) ?_ ?_
    · intro w' h
      show St w NoF [.own b8 (.cells (noTk.cells none 0).toArray 26 (0, 0)), .own b0 (.cells #[.int .i64 t.r1, .int .i64 t.r2, .int .i64 (t.hop + 1), .int .i64 t.seq, .int .i64 (aruV t node aru).1, .int .i64 (aruV t node aru).2, .int .i64 t.stamp, .int .i64 t.idle, .slice a t.ask.length c] 26 (0, 0)), rdA a (iv t.ask), rdA ag (iv g)] w'
      first
      | (refine (fun (e : aruV t node aru = (if t.seq < aru then t.seq else aru, 0)) => ?_) (aruV_a ?_ ?_)
         · rw [e]; exact h
         · simp_all
         · assumption)
      | (refine (fun (e : aruV t node aru = (if t.seq < aru then t.seq else aru, node)) => ?_) (aruV_b ?_ ?_)
         · rw [e]; exact h
         · simp_all
         · assumption)
      | (refine (fun (e : aruV t node aru = (t.aru, t.low)) => ?_) (aruV_c ?_)
         · rw [e]; exact h
         · simp_all))
  all_goals (
    apply LR.call
    · exact rfl
    intro w1 h1
    refine (t52 a c t.ask w1 (h1.rd_of (by (repeat (first | exact mH _ _ | apply mT)))) hz hm).mono ?_
    rintro v w2 ⟨a1, c1, rfl, hn⟩
    refine LR.back (h1.newSl hn) ?_
    clear hn h1
    repeat'(first|(apply kp;iterate 2 exact rfl)|apply jJ|(apply jE;exact rfl)|(apply jp;exact rfl)|(apply jc;kernel_rfl)|((first|apply kf|apply kn|apply ke|apply kx|apply kc|apply kb);iterate 2 exact rfl)|((first|apply kz|apply ky);(·exact rfl);(·repeat(first|exact iO|exact iR rfl|apply iT));iterate 2 exact rfl)|(apply kg;iterate 2 exact rfl)|(apply kG;iterate 3 exact rfl)|(apply kB;(iterate 2 exact rfl);intro _)|(apply kA;exact rfl;intro _)|(apply Go.Hb.kK;(iterate 4 exact rfl);intro _)|(apply kU;(iterate 2 exact rfl);(·repeat(first|exact sH _ _ _|apply sT));(first|exact nfL_eq rfl|exact rfl);exact rfl)|((first|apply kh|apply kl);(iterate 2 exact rfl);(first|decide|omega);exact rfl)|((first|(apply kR;iterate 2 exact rfl)|(apply kQ;exact rfl));all_goals(intro hc;try simp only[hcs]at hc;try(exfalso;first|contradiction|omega))))
    apply CW.loop [9, 11, 67, 68, 69, 70, 71, 72, 73, 74, 75, 76, 77, 78, 79] (fun s : Nat × Option Addr × Nat => s.1 ≤ g.length) (fun s => [(9, .slice s.2.1 (t.ask ++ gapsQ t.seq (g.take s.1)).length s.2.2), (67, .int .i64 (s.1 : Int))])
      (fun s => St w NoF [il s.2.1 s.2.2 (t.ask ++ gapsQ t.seq (g.take s.1)), .own b8 (.cells (noTk.cells none 0).toArray 26 (0, 0)), .own b0 (.cells ((vis1 t node aru).cells a c).toArray 26 (0, 0)), rdA a (iv t.ask), rdA ag (iv g)]) (fun s => g.length - s.1)
    · intro w' hw'
      refine ⟨(0, a1, c1), by omega, ⟨?_, rfl, trivial⟩, ?_⟩
      · simp [gapsQ]
        rfl
      · simpa [gapsQ, il] using hw'
    rintro ⟨i, a2, c2⟩ g' hi
    simp only at hi ⊢
    have hk : (t.ask ++ gapsQ t.seq (g.take i)).length ≤ 16 + g.length := by
      have h1 := gapsQ_len t.seq (g.take i)
      rw [List.length_append]
      rw [List.length_take] at h1
      omega
    by_cases hlt : i < g.length
    · obtain ⟨bg, og, rfl⟩ := hrg.form (fun e => by have := congrArg List.length e; simp at this; subst this; simp at hlt)
      repeat'(first|(apply kp;iterate 2 exact rfl)|apply jJ|(apply jE;exact rfl)|(apply jp;exact rfl)|(apply jc;kernel_rfl)|((first|apply kf|apply kn|apply ke|apply kx|apply kc|apply kb);iterate 2 exact rfl)|((first|apply kz|apply ky);(·exact rfl);(·repeat(first|exact iO|exact iR rfl|apply iT));iterate 2 exact rfl)|(apply kg;iterate 2 exact rfl)|(apply kG;iterate 3 exact rfl)|(apply kB;(iterate 2 exact rfl);intro _)|(apply kA;exact rfl;intro _)|(apply Go.Hb.kK;(iterate 4 exact rfl);intro _)|(apply kU;(iterate 2 exact rfl);(·repeat(first|exact sH _ _ _|apply sT));(first|exact nfL_eq rfl|exact rfl);exact rfl)|((first|apply kh|apply kl);(iterate 2 exact rfl);(first|decide|omega);exact rfl)|(apply idxX;(iterate 2 exact rfl);(iterate 2(first|omega|(dsimp only;omega)));exact rfl)|(apply LR.ev; (· apply Ev.load_rd; (· exact rfl); (· repeat (first | exact mH _ _ | apply mT)); (· exact iv_at (i := i) (by simp) (by omega))); (· exact rfl))|(apply addX;(iterate 2 exact rfl);(iterate 2(first|omega|(dsimp only;omega)));exact rfl)|(apply kq;(·exact rfl);(·intro w1 h1;exact CallsTo.q (t51 _ _ _ w1) h1))|(apply LR.append (xs := iv (t.ask ++ gapsQ t.seq (g.take i))) (news := [Value.int .i64 g[i]]) (m := 1); (· exact rfl); (· exact rfl); (· intro a' c'; (repeat (first | exact sH _ _ _ | apply sT))); (· exact fun w' hw' => hw'.rd_of_blk (mH _ _)); (· exact fun hx => by cases hx); (· exact rfl); (· exact rfl); (· omega); (· unfold maxLen; omega); (· exact rfl); (intro a3 c3))|((first|(apply kR;iterate 2 exact rfl)|(apply kQ;exact rfl));all_goals(intro hc;try simp only[hcs]at hc;try(exfalso;first|contradiction|omega))))
      · refine At.again (i + 1, a3, c3) (by simp; omega) ?_ ⟨?_, ?_, trivial⟩ ?_ (by simp; omega)
        · (repeat (first | exact Out.refl _ _ | exact Out.mix | (apply Out.upd; (· exact rfl)) | (apply Out.updL; (· exact rfl)) | (apply Out.mixs; (· exact rfl))))
        · rw [gaps_yes hlt (by assumption)]
          refine congrArg (fun k => Value.slice a3 k c3) ?_
          simp only [List.length_append, List.length_cons, List.length_nil]
        · rfl
        · intro w' hw'
          rw [il_snoc] at hw'
          rw [gaps_yes hlt (by assumption)]
          exact hw'.sub (by (repeat (first | exact List.Sublist.refl _ | apply List.Sublist.cons_cons | apply List.Sublist.cons)))
      · refine At.again (i + 1, a2, c2) (by simp; omega) ?_ ⟨?_, ?_, trivial⟩ ?_ (by simp; omega)
        · (repeat (first | exact Out.refl _ _ | exact Out.mix | (apply Out.upd; (· exact rfl)) | (apply Out.updL; (· exact rfl)) | (apply Out.mixs; (· exact rfl))))
        · rw [gaps_no hlt (by assumption)]
          rfl
        · rfl
        · intro w' hw'
          rw [gaps_no hlt (by assumption)]
          exact hw'
    · have hie : i = g.length := by omega
      subst hie
      rw [List.take_length] at hk ⊢
      generalize hL : t.ask ++ gapsQ t.seq g = L at hk ⊢
      repeat'(first|(apply kp;iterate 2 exact rfl)|apply jJ|(apply jE;exact rfl)|(apply jp;exact rfl)|(apply jc;kernel_rfl)|((first|apply kf|apply kn|apply ke|apply kx|apply kc|apply kb);iterate 2 exact rfl)|((first|apply kz|apply ky);(·exact rfl);(·repeat(first|exact iO|exact iR rfl|apply iT));iterate 2 exact rfl)|(apply kg;iterate 2 exact rfl)|(apply kG;iterate 3 exact rfl)|(apply kB;(iterate 2 exact rfl);intro _)|(apply kA;exact rfl;intro _)|(apply Go.Hb.kK;(iterate 4 exact rfl);intro _)|(apply kU;(iterate 2 exact rfl);(·repeat(first|exact sH _ _ _|apply sT));(first|exact nfL_eq rfl|exact rfl);exact rfl)|((first|apply kh|apply kl);(iterate 2 exact rfl);(first|decide|omega);exact rfl)|((first|(apply kR;iterate 2 exact rfl)|(apply kQ;exact rfl));all_goals(intro hc;try simp only[hcs]at hc;try(exfalso;first|contradiction|omega))))
      apply LR.call
      · exact rfl
      intro w1 h1
      have hcap : L.length ≤ c2 := ownsRow_cap (h1.holds (il a2 c2 L) (by (repeat (first | exact mH _ _ | apply mT))))
      refine (t53 a2 c2 L w1 (h1.holds (il a2 c2 L) (by (repeat (first | exact mH _ _ | apply mT)))) (by omega)).mono ?_
      rintro v w2 ⟨rfl, st⟩
      refine LR.back (h1.did (by (repeat (first | exact sH _ _ _ | apply sT))) rfl st (osl.dep _ _ _ _ _)) ?_
      clear st h1
      repeat'(first|(apply kp;iterate 2 exact rfl)|apply jJ|(apply jE;exact rfl)|(apply jp;exact rfl)|(apply jc;kernel_rfl)|((first|apply kf|apply kn|apply ke|apply kx|apply kc|apply kb);iterate 2 exact rfl)|((first|apply kz|apply ky);(·exact rfl);(·repeat(first|exact iO|exact iR rfl|apply iT));iterate 2 exact rfl)|(apply kg;iterate 2 exact rfl)|(apply kG;iterate 3 exact rfl)|(apply kB;(iterate 2 exact rfl);intro _)|(apply kA;exact rfl;intro _)|(apply Go.Hb.kK;(iterate 4 exact rfl);intro _)|(apply kU;(iterate 2 exact rfl);(·repeat(first|exact sH _ _ _|apply sT));(first|exact nfL_eq rfl|exact rfl);exact rfl)|((first|apply kh|apply kl);(iterate 2 exact rfl);(first|decide|omega);exact rfl)|((first|(apply kR;iterate 2 exact rfl)|(apply kQ;exact rfl));all_goals(intro hc;try simp only[hcs]at hc;try(exfalso;first|contradiction|omega))))
      apply LR.call
      · exact rfl
      intro w1 h1
      refine CallsTo.mono (show CallsTo Try.prog 54 [.slice a2 L.length c2] w1 (fun v w' => v = .slice a2 (Lib.compact (sortI L)).length c2 ∧ Step (il a2 c2 (sortI L)) (il a2 c2 (Lib.compact (sortI L))) w1 w') from ?_) ?_
      · rw [← sortI_len L]
        exact t54 a2 c2 (sortI L) w1 (h1.holds (il a2 c2 (sortI L)) (by (repeat (first | exact mH _ _ | apply mT)))) (by rw [sortI_len]; omega)
      rintro v w2 ⟨rfl, st⟩
      refine LR.back (h1.did (by (repeat (first | exact sH _ _ _ | apply sT))) rfl st (osl.dep _ _ _ _ _)) ?_
      clear st h1
      have hA : askV t g = (Lib.compact (sortI L)).take 16 := by unfold askV; rw [hL]
      have hKc : (Lib.compact (sortI L)).length ≤ c2 := by have := compact_len (sortI L); rw [sortI_len] at this; omega
      generalize hK : Lib.compact (sortI L) = K at hA hKc ⊢
      repeat'(first|(apply kp;iterate 2 exact rfl)|apply jJ|(apply jE;exact rfl)|(apply jp;exact rfl)|(apply jc;kernel_rfl)|((first|apply kf|apply kn|apply ke|apply kx|apply kc|apply kb);iterate 2 exact rfl)|((first|apply kz|apply ky);(·exact rfl);(·repeat(first|exact iO|exact iR rfl|apply iT));iterate 2 exact rfl)|(apply kg;iterate 2 exact rfl)|(apply kG;iterate 3 exact rfl)|(apply kB;(iterate 2 exact rfl);intro _)|(apply kA;exact rfl;intro _)|(apply Go.Hb.kK;(iterate 4 exact rfl);intro _)|(apply kU;(iterate 2 exact rfl);(·repeat(first|exact sH _ _ _|apply sT));(first|exact nfL_eq rfl|exact rfl);exact rfl)|((first|apply kh|apply kl);(iterate 2 exact rfl);(first|decide|omega);exact rfl)|((first|(apply kR;iterate 2 exact rfl)|(apply kQ;exact rfl));all_goals(intro hc;try simp only[hcs]at hc;try(exfalso;first|contradiction|omega))))
      apply LR.ev
      · apply minQ (a := K.length) (b := 16) (q := min 16 K.length)
        · rfl
        · exact rfl
        · exact rfl
      · exact rfl
      repeat'(first|(apply kp;iterate 2 exact rfl)|apply jJ|(apply jE;exact rfl)|(apply jp;exact rfl)|(apply jc;kernel_rfl)|((first|apply kf|apply kn|apply ke|apply kx|apply kc|apply kb);iterate 2 exact rfl)|((first|apply kz|apply ky);(·exact rfl);(·repeat(first|exact iO|exact iR rfl|apply iT));iterate 2 exact rfl)|(apply kg;iterate 2 exact rfl)|(apply kG;iterate 3 exact rfl)|(apply kB;(iterate 2 exact rfl);intro _)|(apply kA;exact rfl;intro _)|(apply Go.Hb.kK;(iterate 4 exact rfl);intro _)|(apply kU;(iterate 2 exact rfl);(·repeat(first|exact sH _ _ _|apply sT));(first|exact nfL_eq rfl|exact rfl);exact rfl)|((first|apply kh|apply kl);(iterate 2 exact rfl);(first|decide|omega);exact rfl)|(apply LR.ev; (· apply minQ (a := K.length) (b := 16) (q := min 16 K.length); (· rfl); (· exact rfl); (· exact rfl)); (· exact rfl))|((first|(apply kR;iterate 2 exact rfl)|(apply kQ;exact rfl));all_goals(intro hc;try simp only[hcs]at hc;try(exfalso;first|contradiction|omega))))
      apply LR.ev
      · apply Ev.slice_cut (j := min 16 K.length)
        · exact rfl
        · exact rfl
        · exact rfl
        · omega
      · exact rfl
      repeat'(first|(apply kp;iterate 2 exact rfl)|apply jJ|(apply jE;exact rfl)|(apply jp;exact rfl)|(apply jc;kernel_rfl)|((first|apply kf|apply kn|apply ke|apply kx|apply kc|apply kb);iterate 2 exact rfl)|((first|apply kz|apply ky);(·exact rfl);(·repeat(first|exact iO|exact iR rfl|apply iT));iterate 2 exact rfl)|(apply kg;iterate 2 exact rfl)|(apply kG;iterate 3 exact rfl)|(apply kB;(iterate 2 exact rfl);intro _)|(apply kA;exact rfl;intro _)|(apply Go.Hb.kK;(iterate 4 exact rfl);intro _)|(apply kU;(iterate 2 exact rfl);(·repeat(first|exact sH _ _ _|apply sT));(first|exact nfL_eq rfl|exact rfl);exact rfl)|((first|apply kh|apply kl);(iterate 2 exact rfl);(first|decide|omega);exact rfl)|((first|(apply kR;iterate 2 exact rfl)|(apply kQ;exact rfl));all_goals(intro hc;try simp only[hcs]at hc;try(exfalso;first|contradiction|omega))))
      (apply ret1c; (· exact rfl); (· exact inferInstance); (· exact rfl); (· (repeat (first | exact List.Mem.head _ | apply List.Mem.tail))); (· exact rfl); intro w' hS)
      have h1 : ownsAt w' 3 1 (.slice a2 K.length c2) K.length (iv K) := ownsAt_of (hS.holds (il a2 c2 K) (by (repeat (first | exact mH _ _ | apply mT))))
      have h2 := ownsAt_cut (l := min 16 K.length) h1 (by omega)
      have e : visitT t node aru g = { vis1 t node aru with ask := K.take 16 } := by
        unfold visitT
        rw [if_pos ?_, hA]
        · rfl
        · unfold mayV
          rw [tok_b hE]
          simp_all
      rw [e]
      refine ⟨a2, min 16 K.length, ?_, hS.toKeep, ?_, ?_⟩
      · refine congrArg (fun x => Value.agg #[.int .i64 t.r1, .int .i64 t.r2, .int .i64 (t.hop + 1), .int .i64 t.seq, .int .i64 (aruV t node aru).1, .int .i64 (aruV t node aru).2, .int .i64 t.stamp, .int .i64 t.idle, x]) ?_
        rw [ownsAt_sub0 h1, List.length_take]
      · simp only [List.length_take]
        rw [Nat.mul_one] at h2
        have e3 : (iv K).take (min 16 K.length) = iv (K.take 16) := by
          unfold iv
          rw [← List.map_take, ← List.take_eq_take_min]
        rw [e3] at h2
        exact h2
      · intro k hk
        exact ⟨Nat.le_of_not_lt fun hlt => hS.mine (il a2 c2 K) (by (repeat (first | exact mH _ _ | apply mT))) rfl k (by cases a2 with | none => cases hk | some ad => exact hk) hlt, ownsAt_lt h2 (by cases a2 with | none => cases hk | some ad => exact hk)⟩)
end Go.Proofs.Ythmmmbphknoagaa

namespace Go.Proofs.Ythmmmbphknoagaa
open Go.Hb Go.Lib
set_option linter.unusedSimpArgs false
set_option linter.unusedVariables false

theorem comp_asc (d : Array Int) (n : Nat) (hs : ∀ i j, i ≤ j → j < n → d[i]! ≤ d[j]!) : ∀ m, m ≤ n → (compactUpTo d m).Pairwise (· < ·) ∧ ∀ x, x ∈ compactUpTo d m ↔ ∃ j, j < m ∧ d[j]! = x
  | 0, _ => ⟨by simp [compactUpTo], fun x => by simp [compactUpTo]⟩
  | m + 1, hm => by
    obtain ⟨h1, h2⟩ := comp_asc d n hs m (by omega)
    rw [compactUpTo_succ]
    by_cases hk : keeps d m = true
    · rw [if_pos hk]
      refine ⟨List.pairwise_append.2 ⟨h1, List.pairwise_singleton _ _, fun x hx y hy => ?_⟩, fun x => ?_⟩
      · obtain ⟨j, hj, rfl⟩ := (h2 x).1 hx
        simp only [List.mem_singleton] at hy
        subst hy
        simp only [keeps, decide_eq_true_eq] at hk
        have a1 := hs j (m - 1) (by omega) (by omega)
        have a2 := hs (m - 1) m (by omega) (by omega)
        have : d[m]! ≠ d[m - 1]! := by rcases hk with h0 | h0; omega; exact h0
        omega
      · rw [List.mem_append, h2, List.mem_singleton]
        constructor
        · rintro (⟨j, hj, e⟩ | e)
          · exact ⟨j, by omega, e⟩
          · exact ⟨m, by omega, e.symm⟩
        · rintro ⟨j, hj, e⟩
          by_cases hjm : j = m
          · subst hjm; exact .inr e.symm
          · exact .inl ⟨j, by omega, e⟩
    · rw [if_neg hk, List.append_nil]
      refine ⟨h1, fun x => ?_⟩
      rw [h2]
      constructor
      · rintro ⟨j, hj, e⟩
        exact ⟨j, by omega, e⟩
      · rintro ⟨j, hj, e⟩
        by_cases hjm : j = m
        · subst hjm
          simp only [keeps, decide_eq_true_eq, not_or, Decidable.not_not] at hk
          exact ⟨j - 1, by omega, by rw [← hk.2]; exact e⟩
        · exact ⟨j, by omega, e⟩
theorem sortI_asc (l : List Int) : ∀ i j, i ≤ j → j < (sortI l).length → (sortI l).toArray[i]! ≤ (sortI l).toArray[j]! := by
  intro i j hij hj
  by_cases e : i = j
  · subst e; exact Int.le_refl _
  have hp : (sortI l).Pairwise (fun x y => decide (x ≤ y) = true) := List.pairwise_mergeSort (fun a b c h1 h2 => by simp at *; omega) (fun a b => by simp; omega) l
  have := List.pairwise_iff_getElem.1 hp i j (by omega) hj (by omega)
  simp only [decide_eq_true_eq] at this
  rw [getElem!_pos _ i (by simpa using (by omega : i < (sortI l).length)), getElem!_pos _ j (by simpa using hj)]
  simpa using this
theorem comp_sort_asc (l : List Int) : (Lib.compact (sortI l)).Pairwise (· < ·) :=
  (comp_asc (sortI l).toArray (sortI l).length (sortI_asc l) _ (Nat.le_refl _)).1
theorem comp_sort_mem (l : List Int) (x : Int) : x ∈ Lib.compact (sortI l) ↔ x ∈ l := by
  have h := (comp_asc (sortI l).toArray (sortI l).length (sortI_asc l) _ (Nat.le_refl _)).2 x
  refine h.trans ?_
  have hm : x ∈ sortI l ↔ x ∈ l := (List.mergeSort_perm l _).mem_iff
  rw [← hm, List.mem_iff_getElem]
  constructor
  · rintro ⟨j, hj, e⟩
    refine ⟨j, hj, ?_⟩
    rw [getElem!_pos _ j (by simpa using hj)] at e
    simpa using e
  · rintro ⟨j, hj, e⟩
    refine ⟨j, hj, ?_⟩
    rw [getElem!_pos _ j (by simpa using hj)]
    simpa using e
theorem asc_ext : ∀ {l r : List Int}, l.Pairwise (· < ·) → r.Pairwise (· < ·) → (∀ x, x ∈ l ↔ x ∈ r) → l = r
  | [], [], _, _, _ => rfl
  | [], b :: r, _, _, h => by have := (h b).2 (by simp); simp at this
  | a :: l, [], _, _, h => by have := (h a).1 (by simp); simp at this
  | a :: l, b :: r, hl, hr, h => by
    rw [List.pairwise_cons] at hl hr
    have e : a = b := by
      have h1 := (h a).1 (by simp)
      have h2 := (h b).2 (by simp)
      rcases List.mem_cons.1 h1 with h1 | h1
      · exact h1
      rcases List.mem_cons.1 h2 with h2 | h2
      · exact h2.symm
      have := hr.1 a h1
      have := hl.1 b h2
      omega
    subst e
    congr 1
    refine asc_ext hl.2 hr.2 fun x => ⟨fun hx => ?_, fun hx => ?_⟩
    · rcases List.mem_cons.1 ((h x).1 (by simp [hx])) with e | e
      · subst e; have := hl.1 x hx; omega
      · exact e
    · rcases List.mem_cons.1 ((h x).2 (by simp [hx])) with e | e
      · subst e; have := hr.1 x hx; omega
      · exact e
theorem comp_sort_self {l : List Int} (h : l.Pairwise (· < ·)) : Lib.compact (sortI l) = l := asc_ext (comp_sort_asc l) h (comp_sort_mem l)
theorem askB_iff (q : Int) : ∀ (l : List Int) (z : Int), askB q z l = true ↔ l.Pairwise (· < ·) ∧ ∀ x ∈ l, z + 1 ≤ x ∧ x ≤ q
  | [], z => by simp [askB]
  | y :: l, z => by
    rw [askB, Bool.and_eq_true, askB_iff q l y, List.pairwise_cons]
    unfold withinB
    simp only [Bool.and_eq_true, decide_eq_true_eq]
    constructor
    · rintro ⟨⟨h1, h2⟩, h3, h4⟩
      refine ⟨⟨fun x hx => by have := h4 x hx; omega, h3⟩, fun x hx => ?_⟩
      rcases List.mem_cons.1 hx with rfl | hx
      · exact ⟨h1, h2⟩
      · have := h4 x hx; omega
    · rintro ⟨⟨h1, h2⟩, h3⟩
      have := h3 y (by simp)
      exact ⟨by omega, h2, fun x hx => ⟨by have := h1 x hx; omega, (h3 x (by simp [hx])).2⟩⟩
theorem tokB_ask {t : Tk} (h : tokB t = true) : t.ask.Pairwise (· < ·) ∧ (∀ x ∈ t.ask, 1 ≤ x ∧ x ≤ t.seq) ∧ t.ask.length ≤ 16 := by
  unfold tokB at h
  rw [Bool.and_eq_true, askB_iff] at h
  have h1 := h.1
  unfold Tk.headB at h1
  simp only [Bool.and_eq_true, decide_eq_true_eq] at h1
  exact ⟨h.2.1, fun x hx => by have := h.2.2 x hx; omega, h1.2⟩
theorem askV_nil {t : Tk} (h : tokB t = true) : askV t [] = t.ask := by
  obtain ⟨h1, _, h3⟩ := tokB_ask h
  unfold askV gapsQ
  rw [List.filter_nil, List.append_nil, comp_sort_self h1, List.take_of_length_le h3]
/-- What is asked for: the first sixteen of the strictly rising list of what was asked for and what is lacked. -/
theorem askV_asc (t : Tk) (g : List Int) : (askV t g).Pairwise (· < ·) := (comp_sort_asc _).sublist (List.take_sublist _ _)
theorem askV_mem {t : Tk} {g : List Int} {x : Int} (h : x ∈ askV t g) : x ∈ t.ask ∨ (x ∈ g ∧ withinB x 1 t.seq = true) := by
  have h1 := (comp_sort_mem _ x).1 (List.mem_of_mem_take h)
  rcases List.mem_append.1 h1 with h1 | h1
  · exact .inl h1
  · exact .inr (by simpa [gapsQ] using h1)
theorem askV_len (t : Tk) (g : List Int) : (askV t g).length ≤ 16 := by unfold askV; rw [List.length_take]; omega
theorem askV_all {t : Tk} {g : List Int} {x : Int} (h : x ∈ g) (hw : withinB x 1 t.seq = true) (hl : (askV t g).length < 16) : x ∈ askV t g := by
  unfold askV at hl ⊢
  rw [List.length_take] at hl
  rw [List.take_of_length_le (by omega)]
  exact (comp_sort_mem _ x).2 (List.mem_append.2 (.inr (by simp [gapsQ, h, hw])))
theorem nodup_le : ∀ {l r : List Int}, l.Pairwise (· < ·) → (∀ x ∈ l, x ∈ r) → l.length ≤ r.length
  | [], _, _, _ => by simp
  | a :: l, r, hl, h => by
    rw [List.pairwise_cons] at hl
    have := nodup_le (l := l) (r := r.erase a) hl.2 (fun x hx => (List.mem_erase_of_ne (by have := hl.1 x hx; omega)).2 (h x (by simp [hx])))
    rw [List.length_erase_of_mem (h a (by simp))] at this
    have h0 : 0 < r.length := List.length_pos_of_mem (h a (by simp))
    simp only [List.length_cons]
    omega
theorem askV_ge {t : Tk} (g : List Int) (h : tokB t = true) : t.ask.length ≤ (askV t g).length := by
  obtain ⟨h1, _, h3⟩ := tokB_ask h
  unfold askV
  rw [List.length_take]
  have := nodup_le (r := Lib.compact (sortI (t.ask ++ gapsQ t.seq g))) h1 (fun x hx => (comp_sort_mem _ x).2 (by simp [hx]))
  omega
/-- A token that was one is one behind a visit. -/
theorem tokB_visit {t : Tk} {node aru : Int} {g : List Int} (h : mayV t node aru = true) : tokB (visitT t node aru g) = true ∧ (visitT t node aru g).hop = t.hop + 1 := by
  unfold visitT
  rw [if_pos h]
  unfold mayV at h
  simp only [Bool.and_eq_true, Bool.not_eq_true', decide_eq_false_iff_not, decide_eq_true_eq] at h
  obtain ⟨⟨⟨hb, hh⟩, hn⟩, ha⟩ := h
  refine ⟨?_, rfl⟩
  have hask := tokB_ask hb
  have hb' := hb
  unfold tokB Tk.headB withinB at hb'
  simp only [Bool.and_eq_true, decide_eq_true_eq] at hb'
  unfold withinB at hn
  simp only [Bool.and_eq_true, decide_eq_true_eq] at hn
  unfold tokB
  rw [Bool.and_eq_true, askB_iff]
  refine ⟨?_, askV_asc t g, fun x hx => ?_⟩
  · unfold Tk.headB withinB
    simp only [Bool.and_eq_true, decide_eq_true_eq]
    have hl := askV_len t g
    have h2 : 0 ≤ (aruV t node aru).1 ∧ (aruV t node aru).1 ≤ t.seq ∧ 0 ≤ (aruV t node aru).2 ∧ (aruV t node aru).2 ≤ 8 := by
      unfold aruV
      split
      · dsimp only
        refine ⟨by split <;> omega, by split <;> omega, by split <;> omega, by split <;> omega⟩
      · dsimp only; omega
    refine ⟨⟨⟨⟨⟨⟨⟨hb'.1.1.1.1.1.1.1.1, ?_⟩, ?_⟩, ?_⟩, ?_⟩, ?_⟩, ?_⟩, ?_⟩ <;> first | omega | exact ⟨by omega, by omega⟩
  · rcases askV_mem hx with h1 | ⟨_, h1⟩
    · have := hask.2.1 x h1; exact ⟨by omega, this.2⟩
    · unfold withinB at h1
      simp only [Bool.and_eq_true, decide_eq_true_eq] at h1
      exact ⟨by omega, h1.2⟩
end Go.Proofs.Ythmmmbphknoagaa

namespace Go.Proofs.Ythmmmbphknoagaa
open Go.Hb
attribute [local irreducible] LR CW At Ev thn blk finK noG again CallsTo DW QL dnext
set_option linter.unusedSimpArgs false
set_option linter.unusedVariables false
set_option maxRecDepth 100000

def markedM : Msg := ⟨2, 3, 0, 0, 0, 0, 0, false, 5, 2, 1, 7, []⟩
def textM : Msg := ⟨1, 1, 9, 2, 0, 1, 130, true, 0, 0, 0, 0, [65]⟩
theorem p_marked : pack markedM = ([2, 3, 0, 0, 0, 0, 0, 0, 5, 2, 1, 7, 0], 0) := by kernel_rfl
theorem p_text : pack textM = ([1, 1, 9, 2, 0, 1, 130, 1, 1, 0, 0, 0, 0, 1, 65], 0) := by kernel_rfl
theorem u_text : unpack [1, 1, 9, 2, 0, 1, 130, 1, 1, 0, 0, 0, 0, 1, 65] = (textM, 0) := by kernel_rfl

end Go.Proofs.Ythmmmbphknoagaa

namespace Go.Proofs.Ythmmmbphknoagaa
open Go.Hb Go.ChangeShapes Go.WideShapes
attribute [local irreducible] LR CW At Ev thn blk finK noG again CallsTo DW QL dnext
set_option linter.unusedSimpArgs false
set_option linter.unusedVariables false
set_option maxRecDepth 100000

theorem own_knob : ownKnob Try.prog.godebug = none := by kernel_rfl
theorem kids : Kids Try.prog (· < Try.prog.types.size) := kids_rows (by kernel_rfl) (by kernel_rfl)
theorem full_slices : ∀ t e, t < Try.prog.types.size → Try.prog.underlying t = some (.slice e) → 0 < Try.prog.cellsOf e := slices_full_of _ (by kernel_rfl)

def i64G : World → List Value → Prop := fun _ cs => ∃ n, cs = [.int .i64 n] ∧ i64 n
theorem opn_i64 : Opn Try.prog 3 i64G := (opn_int Try.underlying3).mono fun w cs ⟨n, h1, h2⟩ => ⟨n, h1, bounds_i64 h2⟩
theorem opn_u8 : Opn Try.prog 5 (fun _ cs => ∃ n, cs = [.int .u8 n] ∧ 0 ≤ n ∧ n < 256) := (opn_int Try.underlying5).mono fun w cs ⟨n, h1, h2⟩ => ⟨n, h1, (bounds_u8 h2).1, by have := (bounds_u8 h2).2; omega⟩
theorem opn_ring : Opn Try.prog 23 (fun _ cs => ∃ s r, cs = [.int .i64 s, .int .i64 r] ∧ i64 s ∧ i64 r) := by
  refine (opn_struct Try.underlying23).mono fun w cs ⟨hl, h⟩ => ?_
  have hl : cs.length = 2 := hl
  match cs, hl with
  | [x, y], _ =>
    obtain ⟨a, ha, ha2⟩ := h 0 _ rfl _ opn_i64
    obtain ⟨b, hb, hb2⟩ := h 1 _ rfl _ opn_i64
    have ha : [x] = [Value.int .i64 a] := ha
    have hb : [y] = [Value.int .i64 b] := hb
    exact ⟨a, b, by rw [List.singleton_inj] at ha hb; rw [ha, hb], ha2, hb2⟩
theorem opn_plc : Opn Try.prog 166 (fun _ cs => ∃ p : Plc, cs = p.cells ∧ i64 p.ring ∧ i64 p.seq ∧ i64 p.rep ∧ i64 p.members) := by
  refine (opn_struct Try.underlying166).mono fun w cs ⟨hl, h⟩ => ?_
  have hl : cs.length = 4 := hl
  match cs, hl with
  | [x, y, z, u], _ =>
    obtain ⟨a, ha, ha2⟩ := h 0 _ rfl _ opn_i64
    obtain ⟨b, c, hb, hb2, hc2⟩ := h 1 _ rfl _ opn_ring
    obtain ⟨d, hd, hd2⟩ := h 2 _ rfl _ opn_i64
    have ha : [x] = [Value.int .i64 a] := ha
    have hb : [y, z] = [Value.int .i64 b, .int .i64 c] := hb
    have hd : [u] = [Value.int .i64 d] := hd
    simp only [List.cons.injEq, and_true] at ha hb hd
    exact ⟨⟨a, b, c, d⟩, by rw [ha, hb.1, hb.2, hd]; rfl, ha2, hb2, hc2, hd2⟩
theorem plcs_of : ∀ (css : List (List Value)), (∀ c ∈ css, ∃ p : Plc, c = p.cells ∧ i64 p.ring ∧ i64 p.seq ∧ i64 p.rep ∧ i64 p.members) → ∃ ps : List Plc, css.flatten = pcs ps ∧ ps.length = css.length ∧ plcsI ps
  | [], _ => ⟨[], rfl, rfl, fun p hp => by simp at hp⟩
  | c :: r, h => by
    obtain ⟨p, rfl, hp⟩ := h c List.mem_cons_self
    obtain ⟨ps, h1, h2, h3⟩ := plcs_of r fun c hc => h c (List.mem_cons_of_mem _ hc)
    refine ⟨p :: ps, by rw [List.flatten_cons, h1]; rfl, by simp [h2], fun q hq => ?_⟩
    rcases List.mem_cons.1 hq with rfl | hq
    · exact hp
    · exact h3 q hq
theorem opn_plcs : Opn Try.prog 153 (fun w cs => ∃ (a : Option Addr) (c : Nat) (ps : List Plc), cs = [.slice a ps.length c] ∧ Rd w a (pcs ps) ∧ plcsI ps ∧ (a = none → c = 0) ∧ ps.length ≤ c ∧ ps.length * 32 ≤ 140737488351232) := by
  refine (opn_slice Try.underlying153 (sz := 4) (by_ := 32) (by kernel_rfl) (by omega) (by kernel_rfl) opn_plc).mono ?_
  rintro w cs ⟨a, len, cap, css, rfl, rfl, hg, hr, hz, hc, hm⟩
  obtain ⟨ps, h1, h2, h3⟩ := plcs_of css fun c hc => (hg c hc).1
  rw [h1] at hr
  exact ⟨a, cap, ps, by rw [h2], hr, h3, hz, by omega, by rw [h2]; exact hm⟩
theorem bytes_of : ∀ (css : List (List Value)), (∀ c ∈ css, ∃ n : Int, c = [.int .u8 n] ∧ 0 ≤ n ∧ n < 256) → ∃ l : List Int, css.flatten = bv l ∧ l.length = css.length ∧ Byt l
  | [], _ => ⟨[], rfl, rfl, fun p hp => by simp at hp⟩
  | c :: r, h => by
    obtain ⟨n, rfl, hp⟩ := h c List.mem_cons_self
    obtain ⟨l, h1, h2, h3⟩ := bytes_of r fun c hc => h c (List.mem_cons_of_mem _ hc)
    refine ⟨n :: l, by rw [List.flatten_cons, h1]; rfl, by simp [h2], fun q hq => ?_⟩
    rcases List.mem_cons.1 hq with rfl | hq
    · exact hp
    · exact h3 q hq
theorem opn_bytes : Opn Try.prog 53 (fun w cs => ∃ (a : Option Addr) (c : Nat) (l : List Int), cs = [.slice a l.length c] ∧ Rd w a (bv l) ∧ Byt l ∧ (a = none → c = 0) ∧ l.length ≤ c ∧ l.length ≤ 140737488351232) := by
  refine (opn_slice Try.underlying53 (sz := 1) (by_ := 1) (by kernel_rfl) (by omega) (by kernel_rfl) opn_u8).mono ?_
  rintro w cs ⟨a, len, cap, css, rfl, rfl, hg, hr, hz, hc, hm⟩
  obtain ⟨l, h1, h2, h3⟩ := bytes_of css fun c hc => (hg c hc).1
  rw [h1] at hr
  have hm : css.length * 1 ≤ 140737488351232 := hm
  exact ⟨a, cap, l, by rw [h2], hr, h3, hz, by omega, by omega⟩

theorem charts_len (ps : List Plc) : (charts ps).1.length ≤ 200 := by
  unfold charts
  split
  · simp
  · split
    · simp
    · split
      · simp
      · have := plcsLen ps ps.length (Nat.le_refl _)
        simp only [List.take_length] at this
        unfold plcsBytes
        simp only [List.length_append] at this ⊢; omega

end Go.Proofs.Ythmmmbphknoagaa

namespace Go.Proofs.Ythmmmbphknoagaa
open Go.Hb
attribute [local irreducible] LR CW At Ev thn blk finK noG again CallsTo DW QL dnext
set_option linter.unusedSimpArgs false
set_option linter.unusedVariables false
set_option maxRecDepth 100000

theorem decs_split : ∀ (a b : Nat) (l : List Int), decs (a + b) l = if (decs a l).2.1 ≠ 0 then decs a l else ((decs a l).1 ++ (decs b (decs a l).2.2).1, (decs b (decs a l).2.2).2)
  | 0, b, l => by simp [decs]
  | a + 1, b, l => by
    rw [show a + 1 + b = (a + b) + 1 by omega, decs, decs]
    by_cases h : (dec l).2.2 ≠ 0
    · rw [if_pos h, if_pos h, if_pos (by simpa using h)]
    · rw [if_neg h, if_neg h, decs_split a b]
      dsimp only
      split
      · rfl
      · simp

/-- What is behind the twelve numbers. -/
def endU (ck : Msg → Int) (vs l : List Int) : Msg × Int :=
  if (octs 160 l).2.1 ≠ 0 then (zeroMsg, (octs 160 l).2.1)
  else if 0 < (octs 160 l).2.2.length ∨ ck (msgOf (vs.take 8) (vs.drop 8) (octs 160 l).1) ≠ 0 then (zeroMsg, 4)
  else (msgOf (vs.take 8) (vs.drop 8) (octs 160 l).1, 0)
/-- So many numbers are still to be read. -/
def contU (ck : Msg → Int) : Nat → List Int → List Int → Msg × Int
  | 0, vs, l => endU ck vs l
  | k + 1, vs, l => if (dec l).2.2 ≠ 0 then (zeroMsg, (dec l).2.2) else if k = 4 ∧ 1 < ((dec l).1 : Int) then (zeroMsg, 4) else contU ck k (vs ++ [((dec l).1 : Int)]) (l.drop (dec l).2.1)
theorem contU_add (ck : Msg → Int) (b : Nat) : ∀ (j : Nat) (vs l : List Int), (5 ≤ b ∨ j + b ≤ 4) → contU ck (j + b) vs l = if (decs j l).2.1 ≠ 0 then (zeroMsg, (decs j l).2.1) else contU ck b (vs ++ (decs j l).1) (decs j l).2.2
  | 0, vs, l, _ => by simp [decs]
  | j + 1, vs, l, hb => by
    rw [show j + 1 + b = (j + b) + 1 by omega, contU, decs]
    by_cases h : (dec l).2.2 ≠ 0
    · rw [if_pos h, if_pos h, if_pos (by simpa using h)]
    · rw [if_neg h, if_neg h, if_neg (by omega), contU_add ck b j _ _ (by omega)]
      simp
theorem unpackW_cont (ck : Msg → Int) (l : List Int) : unpackW ck l = contU ck 12 [] l := by
  rw [show (12 : Nat) = 7 + 5 by rfl, contU_add ck 5 7 [] l (by omega)]
  have h8 : decs 8 l = _ := decs_split 7 1 l
  unfold unpackW
  rw [h8]
  by_cases h7 : (decs 7 l).2.1 ≠ 0
  · rw [if_pos h7, if_pos h7, if_pos h7]
  · rw [if_neg h7, if_neg h7]
    have hl7 := (decs_len 7 l).2 (by simpa using h7)
    generalize (decs 7 l).2.2 = r at *
    generalize (decs 7 l).1 = vs at *
    rw [contU]
    by_cases hd : (dec r).2.2 ≠ 0
    · have e1 : decs 1 r = ([], (dec r).2.2, r.drop (dec r).2.1) := by rw [decs, if_pos hd]
      rw [e1, if_pos hd]; dsimp only; rw [if_pos hd]
    · have e1 : decs 1 r = ([((dec r).1 : Int)], 0, r.drop (dec r).2.1) := by rw [decs, if_neg hd]; rfl
      have e7 : (vs ++ [((dec r).1 : Int)]).getD 7 0 = ((dec r).1 : Int) := by simp [List.getD_eq_getElem?_getD, ← hl7]
      have e8 : (vs ++ [((dec r).1 : Int)]).length = 8 := by simp [hl7]
      rw [e1, if_neg hd]
      dsimp only
      generalize (dec r).2.1 = n at *
      generalize ((dec r).1 : Int) = x at *
      simp only [ne_eq, not_true_eq_false, if_false, List.nil_append, true_and]
      rw [e7]
      by_cases h1 : 1 < x
      · rw [if_pos h1, if_pos h1]
      · rw [if_neg h1, if_neg h1]
        have h12 := contU_add ck 0 4 (vs ++ [x]) (r.drop n) (by omega)
        rw [Nat.add_zero] at h12
        rw [h12]
        by_cases h4 : (decs 4 (r.drop n)).2.1 = 0
        rotate_left
        · simp only [h4, not_false_eq_true, if_true, ne_eq]
        · simp only [h4, not_true_eq_false, if_false, ne_eq]
          unfold contU endU
          have e9 : (vs ++ [x] ++ (decs 4 (r.drop n)).1).take 8 = vs ++ [x] := by rw [List.take_append_of_le_length (Nat.le_of_eq e8.symm), List.take_of_length_le (Nat.le_of_eq e8)]
          have e10 : (vs ++ [x] ++ (decs 4 (r.drop n)).1).drop 8 = (decs 4 (r.drop n)).1 := by rw [List.drop_append, e8, List.drop_of_length_le (Nat.le_of_eq e8)]; simp
          rw [e9, e10]

set_option maxHeartbeats 4000000 in
theorem c24 {ck : Msg → Int} (l : List Int) (hck : ∀ (m : Msg) (a : Option Addr) (c : Nat) (w : World), Rd w a (bv m.body) → (a = none → c = 0) → Byt m.body → m.body.length < l.length → CallsTo Try.prog 80 [m.val a c] w fun v w' => v = .int .i64 (ck m) ∧ Grew w w')
    (a : Option Addr) (ca : Nat) (w : World) (hr : Rd w a (bv l)) (hz : a = none → ca = 0) (hm : l.length ≤ 140737488355328) (hb : Byt l) :
    CallsTo Try.prog 123 [.slice a l.length ca] w fun v w' => ∃ a2 c2, v = .tuple [(unpackW ck l).1.val a2 c2, .int .i64 (unpackW ck l).2].toArray ∧ NewSl w w' (.slice a2 (unpackW ck l).1.body.length c2) 5 1 (unpackW ck l).1.body.length (bv (unpackW ck l).1.body) := by
  refine go_in (n := 86) (St.rd1 hr) Try.func123 rfl rfl ?_
  rw [unpackW_cont]
  have nils : ∀ w', Grew w w' → NewSl w w' (.slice none 0 0) 5 1 0 (bv []) := fun w' hg => ⟨hg, World.ownsRow_nil _ _ _ _⟩
  repeat'(first|(apply kp;iterate 2 exact rfl)|apply jJ|(apply jE;exact rfl)|(apply jp;exact rfl)|(apply jc;kernel_rfl)|((first|apply kf|apply kn|apply ke|apply kx|apply kc|apply kb);iterate 2 exact rfl)|((first|apply kz|apply ky);(·exact rfl);(·repeat(first|exact iO|exact iR rfl|apply iT));iterate 2 exact rfl)|(apply kg;iterate 2 exact rfl)|(apply kG;iterate 3 exact rfl)|(apply kB;(iterate 2 exact rfl);intro _)|(apply kA;exact rfl;intro _)|(apply Go.Hb.kK;(iterate 4 exact rfl);intro _)|(apply kU;(iterate 2 exact rfl);(·repeat(first|exact sH _ _ _|apply sT));(first|exact nfL_eq rfl|exact rfl);exact rfl)|((first|apply kh|apply kl);(iterate 2 exact rfl);(first|decide|omega);exact rfl)|(apply LR.call; (· exact rfl); (intro w1 h1; refine (c69 a ca l w1 (h1.rd_of (by (repeat (first | exact mH _ _ | apply mT)))) hz hm).mono ?_; rintro v w2 ⟨br, a1, c1, rfl, hn⟩; refine LR.back (h1.got hn (rrA_dep _ _ _ _ _ _)) ?_; clear hn h1))|((first|(apply kR;iterate 2 exact rfl)|(apply kQ;exact rfl));all_goals(intro hc;try simp only[hcs]at hc;try(exfalso;first|contradiction|omega))))
  rename_i bz ba
  apply CW.loop [3, 6, 7, 8, 14, 15, 16, 17, 18, 19, 20, 21, 22, 23, 24, 25, 26, 27, 28, 29, 30, 31, 32, 33, 34, 35, 36] (fun s : Nat × Option Addr × Nat × List Int × List Int => s.1 ≤ 12 ∧ s.2.2.2.1.length = s.1 ∧ Byt s.2.2.2.2 ∧ s.2.2.2.2.length ≤ l.length ∧ contU ck 12 [] l = contU ck (12 - s.1) s.2.2.2.1 s.2.2.2.2) (fun s => [(6, Value.int .i64 (s.1 : Int))])
    (fun s => St w NoF [.own ba (.cells (iv s.2.2.2.1 ++ zz (12 - s.1)).toArray 169 (0, 0)), rrA 172 [] br s.2.1 s.2.2.1 s.2.2.2.2, .own bz (.cells (zeroMsg.cells none 0).toArray 55 (0, 0))]) (fun s => 12 - s.1)
  · exact fun w' hw' => ⟨(0, a1, c1, [], l), ⟨by simp, rfl, hb, by simp, rfl⟩, ⟨rfl, trivial⟩, hw'.sub (List.Sublist.cons_cons _ (List.Sublist.cons_cons _ (List.Sublist.cons_cons _ (List.nil_sublist _))))⟩
  rintro ⟨i, a3, c3, vs, l3⟩ g ⟨hi, hvs, hb3, hm3, heq⟩
  simp only at hi hvs hb3 hm3 heq ⊢
  rw [heq]
  by_cases hlt : i < 12
  · obtain ⟨q, hq⟩ : ∃ q, 12 - i = q + 1 := ⟨12 - i - 1, by omega⟩
    rw [hq] at heq ⊢
    repeat'(first|(apply kp;iterate 2 exact rfl)|apply jJ|(apply jE;exact rfl)|(apply jp;exact rfl)|(apply jc;kernel_rfl)|((first|apply kf|apply kn|apply ke|apply kx|apply kc|apply kb);iterate 2 exact rfl)|((first|apply kz|apply ky);(·exact rfl);(·repeat(first|exact iO|exact iR rfl|apply iT));iterate 2 exact rfl)|(apply kg;iterate 2 exact rfl)|(apply kG;iterate 3 exact rfl)|(apply kB;(iterate 2 exact rfl);intro _)|(apply kA;exact rfl;intro _)|(apply Go.Hb.kK;(iterate 4 exact rfl);intro _)|(apply kU;(iterate 2 exact rfl);(·repeat(first|exact sH _ _ _|apply sT));(first|exact nfL_eq rfl|exact rfl);exact rfl)|((first|apply kh|apply kl);(iterate 2 exact rfl);(first|decide|omega);exact rfl)|(apply LR.ev; (· apply Ev.indexArr; (· exact rfl); (· exact rfl); (· first | decide | omega | (dsimp only; omega)); (· first | decide | omega | (dsimp only; omega))); (· exact rfl))|(apply LR.call; (· exact rfl); (intro w1 h1; refine (c70 _ _ _ l3 w1 h1.g1 hb3 (by omega)).mono ?_; rintro v w2 ⟨a4, c4, rfl, st⟩; refine LR.back (h1.did (Sel.tail _ (Sel.head _ _ _)) rfl st (rrA_dep _ _ _ _ _ _)) ?_; clear st h1))|((first|(apply kR;iterate 2 exact rfl)|(apply kQ;exact rfl));all_goals(intro hc;try simp only[hcs]at hc;try(exfalso;first|contradiction|omega))))
    · (apply ret2c; (· exact rfl); (· exact inferInstance); (· exact rfl); (· (repeat (first | exact List.Mem.head _ | apply List.Mem.tail))); (· exact rfl); intro w' hS)
      have e : contU ck (q + 1) vs l3 = (zeroMsg, (dec l3).2.2) := by rw [contU, if_pos hc]
      rw [e]
      exact ⟨none, 0, rfl, nils w' hS.toKeep⟩
    · (apply ret2c; (· exact rfl); (· exact inferInstance); (· exact rfl); (· (repeat (first | exact List.Mem.head _ | apply List.Mem.tail))); (· exact rfl); intro w' hS)
      rename (dec l3).2.2 = 0 => hd
      rename ((i : Int) = 7) => hi7
      have e : contU ck (q + 1) vs l3 = (zeroMsg, 4) := by rw [contU, if_neg (by simpa using hd), if_pos ⟨by omega, hc⟩]
      rw [e]
      exact ⟨none, 0, rfl, nils w' hS.toKeep⟩
    all_goals (
      rename (dec l3).2.2 = 0 => hd
      have e : contU ck (q + 1) vs l3 = contU ck q (vs ++ [((dec l3).1 : Int)]) (l3.drop (dec l3).2.1) := by rw [contU, if_neg (by simpa using hd), if_neg (by omega)]
      refine LR.store_obj (v := .int .i64 ((dec l3).1 : Int)) (z' := .own ba (.cells (iv (vs ++ [((dec l3).1 : Int)]) ++ zz q).toArray 169 (0, 0))) rfl rfl (sH _ _ _) rfl ?_ (Asrt.dep_own _ _) ?_
      · have st := Stores.own (P := Try.prog) (T := 3) (m := 1) (b := ba) (o := 0 + (i : Int).toNat * 1) (v := .int .i64 ((dec l3).1 : Int)) (cs := iv vs ++ zz (q + 1)) (vs := [.int .i64 ((dec l3).1 : Int)]) (E := 169) inferInstance rfl rfl rfl (by
          simp [hvs, zz])
        have e2 : zz (q + 1) = .int .i64 0 :: zz q := rfl
        rw [e2, splice_mid _ _ _ _ (by simp [hvs])] at st
        rw [e2]
        simpa [iv] using st
      repeat'(first|(apply kp;iterate 2 exact rfl)|apply jJ|(apply jE;exact rfl)|(apply jp;exact rfl)|(apply jc;kernel_rfl)|((first|apply kf|apply kn|apply ke|apply kx|apply kc|apply kb);iterate 2 exact rfl)|((first|apply kz|apply ky);(·exact rfl);(·repeat(first|exact iO|exact iR rfl|apply iT));iterate 2 exact rfl)|(apply kg;iterate 2 exact rfl)|(apply kG;iterate 3 exact rfl)|(apply kB;(iterate 2 exact rfl);intro _)|(apply kA;exact rfl;intro _)|(apply Go.Hb.kK;(iterate 4 exact rfl);intro _)|(apply kU;(iterate 2 exact rfl);(·repeat(first|exact sH _ _ _|apply sT));(first|exact nfL_eq rfl|exact rfl);exact rfl)|((first|apply kh|apply kl);(iterate 2 exact rfl);(first|decide|omega);exact rfl)|(apply addX;(iterate 2 exact rfl);(iterate 2(first|omega|(dsimp only;omega)));exact rfl)|((first|(apply kR;iterate 2 exact rfl)|(apply kQ;exact rfl));all_goals(intro hc;try simp only[hcs]at hc;try(exfalso;first|contradiction|omega))))
      apply At.again (i + 1, a4, c4, vs ++ [((dec l3).1 : Int)], l3.drop (dec l3).2.1)
      · refine ⟨by show i + 1 ≤ _; omega, by simp [hvs], hb3.drop _, by simp; omega, ?_⟩
        show contU ck (q + 1) vs l3 = _
        rw [e, show 12 - (i + 1) = q by omega]
      · (repeat (first | exact Out.refl _ _ | exact Out.mix | (apply Out.upd; (· exact rfl)) | (apply Out.updL; (· exact rfl)) | (apply Out.mixs; (· exact rfl))))
      · exact ⟨rfl, trivial⟩
      · intro w' hw'
        simp only [show 12 - (i + 1) = q by omega]
        exact hw'
      · show 12 - (i + 1) < 12 - i; omega)
  · have hi12 : i = 12 := by omega
    subst hi12
    obtain ⟨v0, v1, v2, v3, v4, v5, v6, v7, x0, x1, x2, x3, rfl⟩ : ∃ v0 v1 v2 v3 v4 v5 v6 v7 x0 x1 x2 x3, vs = [v0, v1, v2, v3, v4, v5, v6, v7, x0, x1, x2, x3] := by
      match vs, hvs with
      | [a, b, c, d, e, f, g, h, i, j, k, l], _ => exact ⟨a, b, c, d, e, f, g, h, i, j, k, l, rfl⟩
    rw [show 12 - 12 = 0 from rfl, contU]
    have eu : endU ck [v0, v1, v2, v3, v4, v5, v6, v7, x0, x1, x2, x3] l3 = if (octs 160 l3).2.1 ≠ 0 then (zeroMsg, (octs 160 l3).2.1)
        else if 0 < (octs 160 l3).2.2.length ∨ ck (msgOf [v0, v1, v2, v3, v4, v5, v6, v7] [x0, x1, x2, x3] (octs 160 l3).1) ≠ 0 then (zeroMsg, 4)
        else (msgOf [v0, v1, v2, v3, v4, v5, v6, v7] [x0, x1, x2, x3] (octs 160 l3).1, 0) := rfl
    rw [eu]
    repeat'(first|(apply kp;iterate 2 exact rfl)|apply jJ|(apply jE;exact rfl)|(apply jp;exact rfl)|(apply jc;kernel_rfl)|((first|apply kf|apply kn|apply ke|apply kx|apply kc|apply kb);iterate 2 exact rfl)|((first|apply kz|apply ky);(·exact rfl);(·repeat(first|exact iO|exact iR rfl|apply iT));iterate 2 exact rfl)|(apply kg;iterate 2 exact rfl)|(apply kG;iterate 3 exact rfl)|(apply kB;(iterate 2 exact rfl);intro _)|(apply kA;exact rfl;intro _)|(apply Go.Hb.kK;(iterate 4 exact rfl);intro _)|(apply kU;(iterate 2 exact rfl);(·repeat(first|exact sH _ _ _|apply sT));(first|exact nfL_eq rfl|exact rfl);exact rfl)|((first|apply kh|apply kl);(iterate 2 exact rfl);(first|decide|omega);exact rfl)|(apply LR.call; (· exact rfl); (intro w1 h1; refine (c71 br a3 c3 l3 160 w1 h1.g1 hb3 (by omega)).mono ?_; rintro v w2 ⟨a4, c4, a5, c5, rfl, st⟩; refine LR.back (h1.did1 (Sel.tail _ (Sel.head _ _ _)) rfl rfl rfl st) ?_; clear st h1))|(apply LR.ev; (· apply Ev.indexArr; (· exact rfl); (· exact rfl); (· first | decide | omega | (dsimp only; omega)); (· first | decide | omega | (dsimp only; omega))); (· exact rfl))|((first|(apply kR;iterate 2 exact rfl)|(apply kQ;exact rfl));all_goals(intro hc;try simp only[hcs]at hc;try(exfalso;first|contradiction|omega))))
    · (apply ret2c; (· exact rfl); (· exact inferInstance); (· exact rfl); (· (repeat (first | exact List.Mem.head _ | apply List.Mem.tail))); (· exact rfl); intro w' hS)
      rw [if_pos (by assumption)]
      exact ⟨none, 0, rfl, nils w' hS.toKeep⟩
    rename (octs 160 l3).2.1 = 0 => ho
    have hof := octs_facts ho
    repeat'(first|(apply kp;iterate 2 exact rfl)|apply jJ|(apply jE;exact rfl)|(apply jp;exact rfl)|(apply jc;kernel_rfl)|((first|apply kf|apply kn|apply ke|apply kx|apply kc|apply kb);iterate 2 exact rfl)|((first|apply kz|apply ky);(·exact rfl);(·repeat(first|exact iO|exact iR rfl|apply iT));iterate 2 exact rfl)|(apply kg;iterate 2 exact rfl)|(apply kG;iterate 3 exact rfl)|(apply kB;(iterate 2 exact rfl);intro _)|(apply kA;exact rfl;intro _)|(apply Go.Hb.kK;(iterate 4 exact rfl);intro _)|(apply kU;(iterate 2 exact rfl);(·repeat(first|exact sH _ _ _|apply sT));(first|exact nfL_eq rfl|exact rfl);exact rfl)|((first|apply kh|apply kl);(iterate 2 exact rfl);(first|decide|omega);exact rfl)|(apply kq; (· exact rfl); (· intro w1 h1; exact CallsTo.q (c72 br _ _ _ w1 h1.g3) h1))|(apply kq; (· exact rfl); (· intro w1 h1; have hq := CallsTo.q (hck (msgOf [v0, v1, v2, v3, v4, v5, v6, v7] [x0, x1, x2, x3] (octs 160 l3).1) a5 c5 w1 (ownsRow_rd h1.g1) (fun e => (ownsRow_some h1.g1 e).2) (fun b hb' => hb3 b (hof.2 b hb')) (Nat.lt_of_lt_of_le hof.1 hm3)) h1; show CallsTo Try.prog 80 [(msgOf [v0, v1, v2, v3, v4, v5, v6, v7] [x0, x1, x2, x3] (octs 160 l3).1).val a5 c5] w1 _; exact hq))|((first|(apply kR;iterate 2 exact rfl)|(apply kQ;exact rfl));all_goals(intro hc;try simp only[hcs]at hc;try(exfalso;first|contradiction|omega))))
    · (apply ret2c; (· exact rfl); (· exact inferInstance); (· exact rfl); (· (repeat (first | exact List.Mem.head _ | apply List.Mem.tail))); (· exact rfl); intro w' hS)
      rw [if_neg (by simpa using ho), if_pos (.inl (by omega))]
      exact ⟨none, 0, rfl, nils w' hS.toKeep⟩
    · (apply ret2c; (· exact rfl); (· exact inferInstance); (· exact rfl); (· (repeat (first | exact List.Mem.head _ | apply List.Mem.tail))); (· exact rfl); intro w' hS)
      rw [if_neg (by simpa using ho), if_pos (.inr (by assumption))]
      exact ⟨none, 0, rfl, nils w' hS.toKeep⟩
    · rename ck _ = 0 => hck0
      (apply ret2c; (· exact rfl); (· exact inferInstance); (· exact rfl); (· (repeat (first | exact List.Mem.head _ | apply List.Mem.tail))); (· exact rfl); intro w' hS)
      rw [if_neg (by simpa using ho), if_neg (by simp only [not_or, Nat.not_lt]; exact ⟨by omega, by simpa using hck0⟩)]
      exact ⟨a5, c5, rfl, hS.toNew (mT _ (mH _ _))⟩

theorem unp_all2 : ∀ K, UnpC 123 K
  | 0 => fun a ca l w hr hz hm hb hK => c24 (ck := fun _ => 2) l (fun m a c w _ _ _ h => by omega) a ca w hr hz hm hb
  | K + 1 => fun a ca l w hr hz hm hb hK => c24 (ck := checkM (unpackF K)) l (fun m a c w h1 h2 h3 h4 => c18 (unp_all2 K) m a c w h1 h2 (by omega) h3 (fun _ => by omega)) a ca w hr hz hm hb
theorem d24 (a : Option Addr) (ca : Nat) (l : List Int) (w : World) (hr : Rd w a (bv l)) (hz : a = none → ca = 0) (hm : l.length ≤ 140737488355328) (hb : Byt l) :
    CallsTo Try.prog 123 [.slice a l.length ca] w fun v w' => ∃ a2 c2, v = .tuple [(unpack l).1.val a2 c2, .int .i64 (unpack l).2].toArray ∧ NewSl w w' (.slice a2 (unpack l).1.body.length c2) 5 1 (unpack l).1.body.length (bv (unpack l).1.body) :=
  unp_all2 l.length a ca l w hr hz hm hb (Nat.le_refl _)
theorem d18 (m : Msg) (a : Option Addr) (c : Nat) (w : World) (hr : Rd w a (bv m.body)) (hz : a = none → c = 0) (hm : m.body.length ≤ 140737488355328) (hb : Byt m.body) :
    CallsTo Try.prog 80 [m.val a c] w fun v w' => v = .int .i64 (check m) ∧ Grew w w' := by
  have := c18 (unp_all2 m.body.length) m a c w hr hz hm hb (fun _ => Nat.le_refl _)
  rwa [check_of (Nat.le_refl _)] at this
end Go.Proofs.Ythmmmbphknoagaa

namespace Go.Proofs.Ythmmmbphknoagaa
open Go.Hb
attribute [local irreducible] LR CW At Ev thn blk finK noG again CallsTo DW QL dnext
set_option linter.unusedSimpArgs false
set_option linter.unusedVariables false
set_option maxRecDepth 100000

theorem c14 (m : Msg) (a : Option Addr) (c : Nat) (w : World) (hr : Rd w a (bv m.body)) (hz : a = none → c = 0) (hm : m.body.length ≤ 140737488355328) :
    CallsTo Try.prog 59 [m.val a c] w fun v w' => ∃ a2 c2, v = m.val a2 c2 ∧ NewSl w w' (.slice a2 m.body.length c2) 5 1 m.body.length (bv m.body) := by
  refine go_in (n := 10) (St.rd1 hr) Try.func59 rfl rfl ?_
  repeat'(first|(apply kp;iterate 2 exact rfl)|apply jJ|(apply jE;exact rfl)|(apply jp;exact rfl)|(apply jc;kernel_rfl)|((first|apply kf|apply kn|apply ke|apply kx|apply kc|apply kb);iterate 2 exact rfl)|((first|apply kz|apply ky);(·exact rfl);(·repeat(first|exact iO|exact iR rfl|apply iT));iterate 2 exact rfl)|(apply kg;iterate 2 exact rfl)|(apply kG;iterate 3 exact rfl)|(apply kB;(iterate 2 exact rfl);intro _)|(apply kA;exact rfl;intro _)|(apply Go.Hb.kK;(iterate 4 exact rfl);intro _)|(apply kU;(iterate 2 exact rfl);(·repeat(first|exact sH _ _ _|apply sT));(first|exact nfL_eq rfl|exact rfl);exact rfl)|((first|apply kh|apply kl);(iterate 2 exact rfl);(first|decide|omega);exact rfl)|(apply LR.call; (· exact rfl); (intro w1 h1; refine (c22 a c m.body w1 (h1.rd_of (by (repeat (first | exact mH _ _ | apply mT)))) hz hm).mono ?_; rintro v w2 ⟨a2, c2, rfl, hn⟩; refine LR.back (h1.newSl hn) ?_; clear hn h1))|((first|(apply kR;iterate 2 exact rfl)|(apply kQ;exact rfl));all_goals(intro hc;try simp only[hcs]at hc;try(exfalso;first|contradiction|omega))))
  (apply ret1c; (· exact rfl); (· exact inferInstance); (· exact rfl); (· (repeat (first | exact List.Mem.head _ | apply List.Mem.tail))); (· exact rfl); intro w' hS)
  exact ⟨a2, c2, rfl, hS.toNew (mH _ _)⟩
end Go.Proofs.Ythmmmbphknoagaa

namespace Go.Proofs.Ythmmmbphknoagaa
open Go.Hb Go.ChangeShapes Go.WideShapes
attribute [local irreducible] LR CW At Ev thn blk finK noG again CallsTo DW QL dnext
set_option linter.unusedSimpArgs false
set_option linter.unusedVariables false
set_option maxRecDepth 100000

theorem pack_len (m : Msg) : (pack m).1.length ≤ 300 := by
  unfold pack
  split
  · simp
  · rename_i h
    have h1 := (check_ok (by simpa using h)).1
    have := bytesM_len m
    simp only; omega

def MsgI (m : Msg) : Prop := i64 m.kind ∧ i64 m.origin ∧ i64 m.life ∧ i64 m.id ∧ i64 m.part ∧ i64 m.parts ∧ i64 m.groups ∧ i64 m.stamp ∧ i64 m.rseq ∧ i64 m.rrep ∧ i64 m.kseq
theorem opn_bool4 : Opn Try.prog 4 (fun _ cs => ∃ b, cs = [.bool b]) := opn_bool Try.underlying4
theorem opn_key : Opn Try.prog 52 (fun _ cs => ∃ t s r q, cs = [.int .i64 t, .int .i64 s, .int .i64 r, .int .i64 q] ∧ i64 t ∧ i64 s ∧ i64 r ∧ i64 q) := by
  refine (opn_struct Try.underlying52).mono fun w cs ⟨hl, h⟩ => ?_
  have hl : cs.length = 4 := hl
  match cs, hl with
  | [x, y, z, u], _ =>
    obtain ⟨a, ha, ha2⟩ := h 0 _ rfl _ opn_i64
    obtain ⟨b, c, hb, hb2, hc2⟩ := h 1 _ rfl _ opn_ring
    obtain ⟨d, hd, hd2⟩ := h 2 _ rfl _ opn_i64
    have ha : [x] = [Value.int .i64 a] := ha
    have hb : [y, z] = [Value.int .i64 b, .int .i64 c] := hb
    have hd : [u] = [Value.int .i64 d] := hd
    simp only [List.cons.injEq, and_true] at ha hb hd
    exact ⟨a, b, c, d, by rw [ha, hb.1, hb.2, hd], ha2, hb2, hc2, hd2⟩
def MsgR (w : World) (m : Msg) (a : Option Addr) (c : Nat) : Prop := Rd w a (bv m.body) ∧ Byt m.body ∧ (a = none → c = 0) ∧ m.body.length ≤ 140737488351232 ∧ MsgI m
theorem opn_msg : Opn Try.prog 55 (fun w cs => ∃ (m : Msg) (a : Option Addr) (c : Nat), cs = m.cells a c ∧ Rd w a (bv m.body) ∧ Byt m.body ∧ (a = none → c = 0) ∧ m.body.length ≤ 140737488351232 ∧ MsgI m) := by
  refine (opn_struct Try.underlying55).mono fun w cs ⟨hl, h⟩ => ?_
  have hl : cs.length = 13 := hl
  match cs, hl with
  | [y0, y1, y2, y3, y4, y5, y6, y7, y8, y9, y10, y11, y12], _ =>
    obtain ⟨x0, h0, g0⟩ := h 0 _ rfl _ opn_i64
    obtain ⟨x1, h1, g1⟩ := h 1 _ rfl _ opn_i64
    obtain ⟨x2, h2, g2⟩ := h 2 _ rfl _ opn_i64
    obtain ⟨x3, h3, g3⟩ := h 3 _ rfl _ opn_i64
    obtain ⟨x4, h4, g4⟩ := h 4 _ rfl _ opn_i64
    obtain ⟨x5, h5, g5⟩ := h 5 _ rfl _ opn_i64
    obtain ⟨x6, h6, g6⟩ := h 6 _ rfl _ opn_i64
    obtain ⟨x7, h7⟩ := h 7 _ rfl _ opn_bool4
    obtain ⟨x8, x9, x10, x11, h8, g8, g9, g10, g11⟩ := h 8 _ rfl _ opn_key
    obtain ⟨a, c, l, h12, hr, hb, hz, hc, hm⟩ := h 9 _ rfl _ opn_bytes
    have h0 : [y0] = [Value.int .i64 x0] := h0
    have h1 : [y1] = [Value.int .i64 x1] := h1
    have h2 : [y2] = [Value.int .i64 x2] := h2
    have h3 : [y3] = [Value.int .i64 x3] := h3
    have h4 : [y4] = [Value.int .i64 x4] := h4
    have h5 : [y5] = [Value.int .i64 x5] := h5
    have h6 : [y6] = [Value.int .i64 x6] := h6
    have h7 : [y7] = [Value.bool x7] := h7
    have h8 : [y8, y9, y10, y11] = [Value.int .i64 x8, .int .i64 x9, .int .i64 x10, .int .i64 x11] := h8
    have h12 : [y12] = [Value.slice a l.length c] := h12
    simp only [List.cons.injEq, and_true] at h0 h1 h2 h3 h4 h5 h6 h7 h8 h12
    exact ⟨⟨x0, x1, x2, x3, x4, x5, x6, x7, x8, x9, x10, x11, l⟩, a, c, by rw [h0, h1, h2, h3, h4, h5, h6, h7, h8.1, h8.2.1, h8.2.2.1, h8.2.2.2, h12]; rfl, hr, hb, hz, hm, g0, g1, g2, g3, g4, g5, g6, g8, g9, g10, g11⟩
end Go.Proofs.Ythmmmbphknoagaa

namespace Go.Proofs.Ythmmmbphknoagaa
open Go.Hb
attribute [local irreducible] LR CW At Ev thn blk finK noG again CallsTo DW QL dnext
set_option linter.unusedSimpArgs false
set_option linter.unusedVariables false
set_option maxRecDepth 100000

theorem unpackW_body (ck : Msg → Int) (l : List Int) : (unpackW ck l).1.body.length ≤ l.length ∧ ∀ b ∈ (unpackW ck l).1.body, b ∈ l := by
  have z : zeroMsg.body.length ≤ l.length ∧ ∀ b ∈ zeroMsg.body, b ∈ l := ⟨by simp [zeroMsg], fun b hb => by simp [zeroMsg] at hb⟩
  unfold unpackW
  split
  · exact z
  · split
    · exact z
    · split
      · exact z
      · split
        · exact z
        · split
          · exact z
          · rename_i h8 h1 h4 ho hc
            have hof := octs_facts (most := 160) (l := (decs 4 (decs 8 l).2.2).2.2) (by simpa using ho)
            have hrl : (decs 4 (decs 8 l).2.2).2.2.length ≤ l.length := Nat.le_trans (decs_rest_len 4 _) (decs_rest_len 8 l)
            refine ⟨by simp only [msgOf]; omega, fun b hb => ?_⟩
            have h2 := hof.2 b hb
            obtain ⟨k, hk⟩ := decs_rest 4 (decs 8 l).2.2
            obtain ⟨k', hk'⟩ := decs_rest 8 l
            rw [hk, hk'] at h2
            exact List.mem_of_mem_drop (List.mem_of_mem_drop h2)
theorem unpack_body (l : List Int) : (unpack l).1.body.length ≤ l.length ∧ ∀ b ∈ (unpack l).1.body, b ∈ l := by
  rw [unpack_eq]; exact unpackW_body _ _
theorem rows_len : ∀ n l, (rows n l).1.length ≤ n
  | 0, l => by simp [rows]
  | n + 1, l => by
    rw [rows]
    split
    · simp
    · have := rows_len n (decs 4 l).2.2
      simp; omega
theorem places_len (l : List Int) : (places l).1.length ≤ 4 := by
  unfold places
  split
  · simp
  · split
    · simp
    · split
      · simp
      · split
        · simp
        · have := rows_len (dec l).1 (l.drop (dec l).2.1)
          simp only at this ⊢; omega

end Go.Proofs.Ythmmmbphknoagaa

namespace Go.Proofs.Ythmmmbphknoagaa
open Go.Hb
set_option linter.unusedSimpArgs false
set_option linter.unusedVariables false

theorem toNat_mod (y : Nat) (h : y < 128) : ((y : Int)).toNat % 128 = y := by simp; omega
theorem split128 (y i : Nat) : (y % 128) * 128 ^ i + (y / 128) * 128 ^ (i + 1) = y * 128 ^ i := by
  rw [Nat.pow_succ, ← Nat.mul_assoc, Nat.mul_right_comm, ← Nat.add_mul]
  congr 1
  omega
theorem decF_encF : ∀ (k m i acc y : Nat) (r : List Int), y < 128 ^ (k + 1) → k ≤ m → acc + y * 128 ^ i ≤ 9007199254740991 → (0 < i → 0 < y) →
    decF (k + 1) i acc (encF m y ++ r) = (acc + y * 128 ^ i, i + (encF m y).length, 0)
  | k, m, i, acc, y, r, hy, hm, hs, hp => by
    by_cases hlt : y < 128
    · rw [encF_small m y hlt]
      simp only [List.cons_append, List.nil_append, decF, List.length_singleton]
      rw [if_pos (by omega), toNat_mod y hlt, if_neg (by simp only [not_or, not_and]; exact ⟨fun h => by have := hp h; omega, by omega⟩)]
    · cases k with
      | zero => simp at hy; omega
      | succ k =>
        cases m with
        | zero => omega
        | succ m =>
          have hd : y / 128 < 128 ^ (k + 1) := by rw [Nat.pow_succ] at hy; omega
          have hsp := split128 y i
          have ih := decF_encF k m (i + 1) (acc + y % 128 * 128 ^ i) (y / 128) r hd (by omega) (by omega) (fun _ => by omega)
          rw [encF, if_neg hlt, List.cons_append]
          rw [decF]
          have e1 : (((y % 128 + 128 : Nat) : Int)).toNat % 128 = y % 128 := by rw [Int.toNat_natCast]; omega
          rw [if_neg (by omega), e1, ih]
          simp only [List.length_cons, Prod.mk.injEq, and_true]
          omega
theorem dec_enc (x : Nat) (hx : x ≤ 9007199254740991) (r : List Int) : dec (enc x ++ r) = (x, (enc x).length, 0) := by
  have h1 : (128 : Nat) ^ 8 = 72057594037927936 := by decide
  have := decF_encF 7 8 0 0 x r (by omega) (by omega) (by simpa using hx) (fun h => by omega)
  simpa [dec, enc] using this
theorem decF_canon : ∀ (k m i acc : Nat) (l : List Int), Byt l → k ≤ m + 1 → (decF k i acc l).2.2 = 0 →
    ∃ y r, (decF k i acc l).1 = acc + y * 128 ^ i ∧ (0 < i → 0 < y) ∧ l = encF m y ++ r ∧ (decF k i acc l).2.1 = i + (encF m y).length
  | 0, m, i, acc, l, hb, hm, h => by simp [decF] at h
  | k + 1, m, i, acc, [], hb, hm, h => by simp [decF] at h
  | k + 1, m, i, acc, x :: r, hb, hm, h => by
    have hx := hb x (List.mem_cons_self)
    rw [decF] at h ⊢
    by_cases hlt : x < 128
    · rw [if_pos hlt] at h ⊢
      by_cases hbad : (0 < i ∧ x = 0) ∨ 9007199254740991 < acc + x.toNat % 128 * 128 ^ i
      · rw [if_pos hbad] at h; cases h
      · rw [if_neg hbad]
        simp only [not_or, not_and] at hbad
        have e : x.toNat % 128 = x.toNat := by omega
        refine ⟨x.toNat, r, by rw [e], fun hi => by have := hbad.1 hi; omega, ?_, ?_⟩
        · rw [encF_small m _ (by omega)]; simp; omega
        · rw [encF_small m _ (by omega)]; rfl
    · rw [if_neg hlt] at h ⊢
      cases m with
      | zero =>
        have : k = 0 := by omega
        subst this
        simp [decF] at h
      | succ m =>
        obtain ⟨y, r', h1, h2, h3, h4⟩ := decF_canon k m (i + 1) (acc + x.toNat % 128 * 128 ^ i) r (fun b hb' => hb b (List.mem_cons_of_mem _ hb')) (by omega) h
        have hy := h2 (by omega)
        refine ⟨x.toNat % 128 + y * 128, r', ?_, fun _ => by omega, ?_, ?_⟩
        · rw [h1]
          have := split128 (x.toNat % 128 + y * 128) i
          rw [show (x.toNat % 128 + y * 128) % 128 = x.toNat % 128 by omega, show (x.toNat % 128 + y * 128) / 128 = y by omega] at this
          omega
        · rw [encF, if_neg (by omega), show (x.toNat % 128 + y * 128) % 128 = x.toNat % 128 by omega, show (x.toNat % 128 + y * 128) / 128 = y by omega, List.cons_append, ← h3]
          congr 1
          omega
        · rw [h4, encF, if_neg (by omega), show (x.toNat % 128 + y * 128) / 128 = y by omega]
          simp only [List.length_cons]; omega
theorem dec_canon {l : List Int} (hb : Byt l) (h : (dec l).2.2 = 0) : ∃ r, l = enc (dec l).1 ++ r ∧ (dec l).2.1 = (enc (dec l).1).length ∧ (dec l).1 ≤ 9007199254740991 := by
  obtain ⟨y, r, h1, _, h3, h4⟩ := decF_canon 8 8 0 0 l hb (by omega) h
  have e : (dec l).1 = y := by show (decF 8 0 0 l).1 = y; rw [h1]; simp
  have hbd := (decF_bound 8 0 0 l).2 h
  refine ⟨r, by rw [e]; exact h3, ?_, hbd.2⟩
  rw [e]
  show (decF 8 0 0 l).2.1 = _
  rw [h4]; simp [enc]

theorem decs_encs : ∀ (xs : List Int) (r : List Int), (∀ x ∈ xs, okN x) → decs xs.length (encs xs ++ r) = (xs, 0, r)
  | [], r, _ => by simp [decs, encs]
  | x :: xs, r, h => by
    have hx := h x List.mem_cons_self
    unfold okN at hx
    have he : encs (x :: xs) ++ r = enc x.toNat ++ (encs xs ++ r) := by simp [encs]
    have hd := dec_enc x.toNat (by omega) (encs xs ++ r)
    rw [he, List.length_cons, decs, hd, if_neg (by simp)]
    simp only [List.drop_left]
    rw [decs_encs xs r (fun y hy => h y (List.mem_cons_of_mem _ hy))]
    simp; omega
theorem decs_canon : ∀ (n : Nat) (l : List Int), Byt l → (decs n l).2.1 = 0 → l = encs (decs n l).1 ++ (decs n l).2.2
  | 0, l, _, _ => by simp [decs, encs]
  | n + 1, l, hb, h => by
    rw [decs] at h ⊢
    by_cases hd : (dec l).2.2 ≠ 0
    · rw [if_pos hd] at h; exact absurd h hd
    · rw [if_neg hd] at h ⊢
      obtain ⟨r, h1, h2, h3⟩ := dec_canon hb (by simpa using hd)
      have ih := decs_canon n (l.drop (dec l).2.1) (hb.drop _) h
      have hr : l.drop (dec l).2.1 = r := by rw [h2]; have hx := List.drop_left (l₁ := enc (dec l).1) (l₂ := r); rwa [← h1] at hx
      rw [hr] at ih ⊢
      simp only [encs, List.flatMap_cons, Int.toNat_natCast, List.append_assoc] at ih ⊢
      rw [← ih]; exact h1
theorem octs_enc {most : Int} {b r : List Int} (h1 : (b.length : Int) ≤ most) (h2 : b.length ≤ 9007199254740991) : octs most (enc b.length ++ b ++ r) = (b, 0, r) := by
  have hd := dec_enc b.length h2 (b ++ r)
  rw [List.append_assoc]
  rw [octs_ok (by rw [hd]) (by rw [hd]; exact h1) (by rw [hd]; simp; omega), hd]
  simp only [List.drop_left, List.take_left, Prod.mk.injEq, true_and]
  rw [← List.append_assoc, List.drop_append, List.length_append, List.drop_of_length_le (by simp)]
  simp
theorem octs_canon {most : Int} {l : List Int} (hb : Byt l) (h : (octs most l).2.1 = 0) : l = enc (octs most l).1.length ++ (octs most l).1 ++ (octs most l).2.2 ∧ ((octs most l).1.length : Int) ≤ most := by
  unfold octs at h ⊢
  by_cases h0 : (dec l).2.2 ≠ 0
  · rw [if_pos h0] at h; exact absurd h h0
  · rw [if_neg h0] at h ⊢
    by_cases h1 : most < ((dec l).1 : Int)
    · rw [if_pos h1] at h; cases h
    · rw [if_neg h1] at h ⊢
      by_cases h2 : ((l.length - (dec l).2.1 : Nat) : Int) < ((dec l).1 : Int)
      · rw [if_pos h2] at h; cases h
      · rw [if_neg h2]
        obtain ⟨r, h3, h4, h5⟩ := dec_canon hb (by simpa using h0)
        have hr : l.drop (dec l).2.1 = r := by rw [h4]; have hx := List.drop_left (l₁ := enc (dec l).1) (l₂ := r); rwa [← h3] at hx
        have hrl : l.length - (dec l).2.1 = r.length := by rw [← hr]; simp
        have hl : ((l.drop (dec l).2.1).take (dec l).1).length = (dec l).1 := by rw [hr]; simp; omega
        simp only [hl]
        refine ⟨?_, by omega⟩
        rw [← List.drop_drop, hr, List.append_assoc, List.take_append_drop]
        exact h3

/-! ### messages -/
theorem decs_append (a b : Nat) (l : List Int) (h : (decs a l).2.1 = 0) : decs (a + b) l = ((decs a l).1 ++ (decs b (decs a l).2.2).1, (decs b (decs a l).2.2).2) := by
  rw [decs_split, if_neg (by simpa using h)]
def nums8 (m : Msg) : List Int := [m.kind, m.origin, m.life, m.id, m.part, m.parts, m.groups, b2i m.safe]
def nums4 (m : Msg) : List Int := [m.stamp, m.rseq, m.rrep, m.kseq]
theorem msgNums_parts (m : Msg) : msgNums m = nums8 m ++ nums4 m := rfl
theorem msgOf_nums (m : Msg) : msgOf (nums8 m) (nums4 m) m.body = m := by
  obtain ⟨x1, x2, x3, x4, x5, x6, x7, x8, x9, x10, x11, x12, x13⟩ := m
  cases x8 <;> rfl
theorem unpackW_bytes {ck : Msg → Int} {m : Msg} {r : List Int} (hok : ∀ x ∈ msgNums m, okN x) (hl : m.body.length ≤ 160) :
    unpackW ck (bytesM m ++ r) = if 0 < r.length ∨ ck m ≠ 0 then (zeroMsg, 4) else (m, 0) := by
  have e : bytesM m ++ r = encs (nums8 m) ++ (encs (nums4 m) ++ (enc m.body.length ++ m.body ++ r)) := by
    simp only [bytesM, msgNums_parts, encs, List.flatMap_append, List.append_assoc]
  have hok2 : (∀ x ∈ nums8 m, okN x) ∧ ∀ x ∈ nums4 m, okN x := ⟨fun x hx => hok x (by rw [msgNums_parts]; exact List.mem_append_left _ hx), fun x hx => hok x (by rw [msgNums_parts]; exact List.mem_append_right _ hx)⟩
  have h8 : decs 8 (bytesM m ++ r) = (nums8 m, 0, encs (nums4 m) ++ (enc m.body.length ++ m.body ++ r)) := by rw [e]; exact decs_encs (nums8 m) _ hok2.1
  have h4 : decs 4 (encs (nums4 m) ++ (enc m.body.length ++ m.body ++ r)) = (nums4 m, 0, enc m.body.length ++ m.body ++ r) := decs_encs (nums4 m) _ hok2.2
  have ho : octs 160 (enc m.body.length ++ m.body ++ r) = (m.body, 0, r) := octs_enc (by omega) (by omega)
  have h7 : ¬ 1 < (nums8 m).getD 7 0 := by show ¬ 1 < b2i m.safe; unfold b2i; split <;> omega
  unfold unpackW
  rw [h8]
  simp only
  rw [h4]
  simp only
  rw [ho]
  simp only [msgOf_nums, h7, if_false, ne_eq, not_true_eq_false]
theorem unpack_bytes {m : Msg} (h : check m = 0) : unpack (bytesM m) = (m, 0) := by
  have := unpackW_bytes (ck := check) (r := []) (msgNums_ok h) (check_ok h).1
  rw [List.append_nil] at this
  rw [unpack_eq, this, if_neg (by simp [h])]
theorem unpack_more {m : Msg} (h : check m = 0) (x : Int) : unpack (bytesM m ++ [x]) = (zeroMsg, 4) := by
  rw [unpack_eq, unpackW_bytes (ck := check) (r := [x]) (msgNums_ok h) (check_ok h).1, if_pos (by simp)]
theorem unpack_canon {l : List Int} (hb : Byt l) (h : (unpack l).2 = 0) : check (unpack l).1 = 0 ∧ bytesM (unpack l).1 = l := by
  rw [unpack_eq] at h ⊢
  unfold unpackW at h ⊢
  by_cases h8 : (decs 8 l).2.1 ≠ 0
  · rw [if_pos h8] at h; exact absurd h h8
  rw [if_neg h8] at h ⊢
  by_cases h7 : 1 < (decs 8 l).1.getD 7 0
  · rw [if_pos h7] at h; cases h
  rw [if_neg h7] at h ⊢
  by_cases h4 : (decs 4 (decs 8 l).2.2).2.1 ≠ 0
  · rw [if_pos h4] at h; exact absurd h h4
  rw [if_neg h4] at h ⊢
  by_cases ho : (octs 160 (decs 4 (decs 8 l).2.2).2.2).2.1 ≠ 0
  · rw [if_pos ho] at h; exact absurd h ho
  rw [if_neg ho] at h ⊢
  by_cases hc : 0 < (octs 160 (decs 4 (decs 8 l).2.2).2.2).2.2.length ∨ check (msgOf (decs 8 l).1 (decs 4 (decs 8 l).2.2).1 (octs 160 (decs 4 (decs 8 l).2.2).2.2).1) ≠ 0
  · rw [if_pos hc] at h; cases h
  rw [if_neg hc]
  simp only [not_or, Nat.not_lt] at hc
  simp only [ne_eq, Decidable.not_not] at h8 h4 ho hc
  have c8 := decs_canon 8 l hb h8
  have c4 := decs_canon 4 _ (decs_rest_byt 8 hb) h4
  have co := (octs_canon (decs_rest_byt 4 (decs_rest_byt 8 hb)) ho).1
  have l8 := (decs_len 8 l).2 h8
  have l4 := (decs_len 4 _).2 h4
  have b8 := decs_bound 8 l
  refine ⟨hc.2, ?_⟩
  generalize (octs 160 (decs 4 (decs 8 l).2.2).2.2).1 = body at *
  have hnil : (octs 160 (decs 4 (decs 8 l).2.2).2.2).2.2 = [] := List.eq_nil_of_length_eq_zero (by omega)
  rw [hnil, List.append_nil] at co
  rw [co] at c4
  rw [c4] at c8
  generalize (decs 4 (decs 8 l).2.2).1 = x4 at *
  generalize (decs 8 l).1 = x8 at *
  obtain ⟨w0, w1, w2, w3, rfl⟩ := four l4
  obtain ⟨v0, v1, v2, v3, v4, v5, v6, v7, rfl⟩ : ∃ v0 v1 v2 v3 v4 v5 v6 v7, x8 = [v0, v1, v2, v3, v4, v5, v6, v7] := by
    match x8, l8 with
    | [a, b, c, d, e, f, g, h], _ => exact ⟨a, b, c, d, e, f, g, h, rfl⟩
  have h7' : v7 ≤ 1 := by simpa using h7
  have h70 : 0 ≤ v7 := (b8 v7 (by simp)).1
  have e7 : b2i (decide (v7 = 1)) = v7 := by
    unfold b2i
    have : v7 = 0 ∨ v7 = 1 := by omega
    rcases this with rfl | rfl <;> simp
  rw [c8]
  show encs (nums8 (msgOf [v0, v1, v2, v3, v4, v5, v6, v7] [w0, w1, w2, w3] body) ++ nums4 (msgOf [v0, v1, v2, v3, v4, v5, v6, v7] [w0, w1, w2, w3] body)) ++ enc body.length ++ body = _
  have e8 : nums8 (msgOf [v0, v1, v2, v3, v4, v5, v6, v7] [w0, w1, w2, w3] body) = [v0, v1, v2, v3, v4, v5, v6, v7] := by
    show [v0, v1, v2, v3, v4, v5, v6, b2i (decide (v7 = 1))] = _
    rw [e7]
  rw [e8]
  simp only [encs, List.flatMap_append, List.append_assoc]
  rfl

/-! ### places -/
theorem plcNums_of {v : List Int} (h : v.length = 4) : plcNums (plcOf v) = v := by
  obtain ⟨a, b, c, d, rfl⟩ := four h
  rfl
theorem plcOf_nums (p : Plc) : plcOf (plcNums p) = p := rfl
theorem rows_enc : ∀ (ps : List Plc) (r : List Int), (∀ p ∈ ps, ∀ x ∈ plcNums p, okN x) → rows ps.length ((ps.flatMap fun p => encs (plcNums p)) ++ r) = (ps, 0, r)
  | [], r, _ => by simp [rows]
  | p :: ps, r, h => by
    have hd := decs_encs (plcNums p) ((ps.flatMap fun p => encs (plcNums p)) ++ r) (h p List.mem_cons_self)
    have h4 : (plcNums p).length = 4 := rfl
    rw [h4] at hd
    rw [List.length_cons, rows, List.flatMap_cons, List.append_assoc, hd, if_neg (by simp)]
    simp only
    rw [rows_enc ps r (fun q hq => h q (List.mem_cons_of_mem _ hq)), plcOf_nums]
theorem rows_canon : ∀ (n : Nat) (l : List Int), Byt l → (rows n l).2.1 = 0 → l = ((rows n l).1.flatMap fun p => encs (plcNums p)) ++ (rows n l).2.2 ∧ (rows n l).1.length = n
  | 0, l, _, _ => by simp [rows]
  | n + 1, l, hb, h => by
    rw [rows] at h ⊢
    by_cases hd : (decs 4 l).2.1 ≠ 0
    · rw [if_pos hd] at h; exact absurd h hd
    · rw [if_neg hd] at h ⊢
      have ih := rows_canon n (decs 4 l).2.2 (decs_rest_byt 4 hb) h
      have hc := decs_canon 4 l hb (by simpa using hd)
      have hl4 := (decs_len 4 l).2 (by simpa using hd)
      simp only [List.flatMap_cons, plcNums_of hl4, List.append_assoc, List.length_cons, ih.2, and_true]
      rw [← ih.1]; exact hc
theorem charts_ok {ps : List Plc} (h : (charts ps).2 = 0) : ps.length ≤ 4 ∧ (∀ p ∈ ps, plcB p = true) ∧ charts ps = (plcsBytes ps, 0) := by
  unfold charts at h ⊢
  by_cases h4 : 4 < ps.length
  · rw [if_pos h4] at h; cases h
  rw [if_neg h4] at h ⊢
  by_cases hb : (ps.any fun p => !plcB p) = true
  · rw [if_pos hb] at h; cases h
  rw [if_neg hb] at h ⊢
  by_cases hi : incr (-1) ps = false
  · rw [if_pos hi] at h; cases h
  rw [if_neg hi]
  exact ⟨by omega, any_false (by simpa using hb), rfl⟩
theorem places_enc {ps : List Plc} (r : List Int) (h : (charts ps).2 = 0) : places (plcsBytes ps ++ r) = if 0 < r.length then ([], 4) else (ps, 0) := by
  obtain ⟨h4, hb, hc⟩ := charts_ok h
  have hd := dec_enc ps.length (by omega) ((ps.flatMap fun p => encs (plcNums p)) ++ r)
  have hr := rows_enc ps r (fun p hp => plcNums_ok (hb p hp))
  unfold places plcsBytes
  rw [List.append_assoc, hd]
  simp only [ne_eq, not_true_eq_false, if_false, List.drop_left]
  rw [if_neg (by omega), hr]
  simp only [not_true_eq_false, if_false, h, false_or]
theorem places_canon {l : List Int} (hb : Byt l) (h : (places l).2 = 0) : charts (places l).1 = (l, 0) := by
  unfold places at h ⊢
  by_cases h0 : (dec l).2.2 ≠ 0
  · rw [if_pos h0] at h; exact absurd h h0
  rw [if_neg h0] at h ⊢
  by_cases h1 : 4 < (dec l).1
  · rw [if_pos h1] at h; cases h
  rw [if_neg h1] at h ⊢
  by_cases h2 : (rows (dec l).1 (l.drop (dec l).2.1)).2.1 ≠ 0
  · rw [if_pos h2] at h; exact absurd h h2
  rw [if_neg h2] at h ⊢
  by_cases h3 : (charts (rows (dec l).1 (l.drop (dec l).2.1)).1).2 ≠ 0 ∨ 0 < (rows (dec l).1 (l.drop (dec l).2.1)).2.2.length
  · rw [if_pos h3] at h; cases h
  rw [if_neg h3]
  simp only [not_or, Nat.not_lt, ne_eq, Decidable.not_not] at h0 h2 h3
  obtain ⟨hc4, hcb, hc⟩ := charts_ok h3.1
  obtain ⟨r, d1, d2, d3⟩ := dec_canon hb h0
  have hr : l.drop (dec l).2.1 = r := by rw [d2]; have hx := List.drop_left (l₁ := enc (dec l).1) (l₂ := r); rwa [← d1] at hx
  have rc := rows_canon (dec l).1 (l.drop (dec l).2.1) (hb.drop _) h2
  have hnil : (rows (dec l).1 (l.drop (dec l).2.1)).2.2 = [] := List.eq_nil_of_length_eq_zero (by omega)
  rw [hnil, List.append_nil] at rc
  simp only
  rw [hc]
  congr 1
  unfold plcsBytes
  rw [rc.2, ← rc.1, hr]
  exact d1.symm
end Go.Proofs.Ythmmmbphknoagaa

namespace Go.Proofs.Ythmmmbphknoagaa
open Go.Hb
attribute [local irreducible] LR CW At Ev thn blk finK noG again CallsTo DW QL dnext
set_option linter.unusedSimpArgs false
set_option linter.unusedVariables false
set_option maxRecDepth 100000

theorem pack_ok {m : Msg} (h : (pack m).2 = 0) : check m = 0 ∧ pack m = (bytesM m, 0) := by
  unfold pack at h ⊢
  split
  · rename_i hc; rw [if_pos hc] at h; exact absurd h hc
  · rename_i hc; exact ⟨by simpa using hc, rfl⟩
theorem pack_bad {m : Msg} (h : ¬ (pack m).2 = 0) : pack m = ([], check m) := by
  unfold pack at h ⊢
  split
  · rfl
  · rename_i hc; rw [if_neg hc] at h; exact absurd rfl h
theorem encF_byt : ∀ (m y : Nat), y < 128 ^ (m + 1) → Byt (encF m y)
  | 0, y, h => fun b hb => by simp [encF] at hb h; omega
  | m + 1, y, h => by
    rw [encF]
    split
    · intro b hb; simp at hb; omega
    · intro b hb
      rcases List.mem_cons.1 hb with rfl | hb
      · omega
      · exact encF_byt m (y / 128) (by rw [Nat.pow_succ] at h; omega) b hb
theorem enc_byt {x : Nat} (h : x ≤ 9007199254740991) : Byt (enc x) := encF_byt 8 x (by have : (128 : Nat) ^ 9 = 9223372036854775808 := by decide
                                                                                       omega)
theorem Byt.append {l r : List Int} (h : Byt l) (h' : Byt r) : Byt (l ++ r) := fun b hb => by
  rcases List.mem_append.1 hb with hb | hb
  · exact h b hb
  · exact h' b hb
theorem encs_byt {xs : List Int} (h : ∀ x ∈ xs, okN x) : Byt (encs xs) := by
  intro b hb
  obtain ⟨x, hx, hb⟩ := List.mem_flatMap.1 hb
  have := h x hx
  unfold okN at this
  exact enc_byt (by omega) b hb
theorem Byt.bytes {m : Msg} (hb : Byt m.body) (h : check m = 0) : Byt (bytesM m) :=
  ((encs_byt (msgNums_ok h)).append (enc_byt (by have := (check_ok h).1; omega))).append hb

theorem places_bad {l : List Int} (h : ¬ (places l).2 = 0) : (places l).1 = [] := by
  unfold places at h ⊢
  split
  · rfl
  · rename_i h0
    rw [if_neg h0] at h
    split
    · rfl
    · rename_i h1
      rw [if_neg h1] at h
      split
      · rfl
      · rename_i h2
        rw [if_neg h2] at h
        split
        · rfl
        · rename_i h3
          rw [if_neg h3] at h
          exact absurd rfl h
theorem rows_i64 : ∀ (n : Nat) (l : List Int), plcsI (rows n l).1
  | 0, l => fun p hp => by simp [rows] at hp
  | n + 1, l => by
    rw [rows]
    split
    · intro p hp; simp at hp
    · intro p hp
      rcases List.mem_cons.1 hp with rfl | hp
      · exact plcOf_i64 (decs_bound 4 l)
      · exact rows_i64 n _ p hp
theorem places_i64 (l : List Int) : plcsI (places l).1 := by
  have z : plcsI [] := fun p hp => by simp at hp
  unfold places
  split
  · exact z
  · split
    · exact z
    · split
      · exact z
      · split
        · exact z
        · exact rows_i64 _ _

end Go.Proofs.Ythmmmbphknoagaa

namespace Go.Proofs.Ythmmmbphknoagaa
open Go.Hb
attribute [local irreducible] LR CW At Ev thn blk finK noG again CallsTo DW QL dnext
set_option linter.unusedSimpArgs false
set_option linter.unusedVariables false
set_option maxRecDepth 100000

def bring (i n : Int) : Int := if n ≤ 0 then 0 else if i.tmod n < 0 then i.tmod n + n else i.tmod n
theorem tmod_bd (i n : Int) (h : 0 < n) : -n < i.tmod n ∧ i.tmod n < n := by
  have h1 := Int.tmod_lt_of_pos i h
  have h2 := Int.tmod_lt_of_pos (-i) h
  rw [Int.neg_tmod] at h2
  omega
theorem bring_bd (i n : Int) (h : 0 < n) : 0 ≤ bring i n ∧ bring i n < n := by
  have := tmod_bd i n h
  unfold bring; rw [if_neg (by omega)]; split <;> omega
theorem c31 (i n : Int) (w : World) (hn : n ≤ 9223372036854775807) : CallsTo Try.prog 21 [.int .i64 i, .int .i64 n] w fun v w' => v = .int .i64 (bring i n) ∧ Grew w w' := by
  refine go_in (n := 16) (St.refl _ NoF) Try.func21 rfl rfl ?_
  by_cases h : n ≤ 0
  · repeat'(first|(apply kp;iterate 2 exact rfl)|apply jJ|(apply jE;exact rfl)|(apply jp;exact rfl)|(apply jc;kernel_rfl)|((first|apply kf|apply kn|apply ke|apply kx|apply kc|apply kb);iterate 2 exact rfl)|((first|apply kz|apply ky);(·exact rfl);(·repeat(first|exact iO|exact iR rfl|apply iT));iterate 2 exact rfl)|(apply kg;iterate 2 exact rfl)|(apply kG;iterate 3 exact rfl)|(apply kB;(iterate 2 exact rfl);intro _)|(apply kA;exact rfl;intro _)|(apply Go.Hb.kK;(iterate 4 exact rfl);intro _)|(apply kU;(iterate 2 exact rfl);(·repeat(first|exact sH _ _ _|apply sT));(first|exact nfL_eq rfl|exact rfl);exact rfl)|((first|apply kh|apply kl);(iterate 2 exact rfl);(first|decide|omega);exact rfl)|((first|(apply kR;iterate 2 exact rfl)|(apply kQ;exact rfl));all_goals(intro hc;try simp only[hcs]at hc;try(exfalso;first|contradiction|omega))))
    (apply ret1; (· exact rfl); intro w' hS)
    exact ⟨congrArg (Value.int .i64) (by unfold bring; rw [if_pos h]), hS⟩
  · have hb := tmod_bd i n (by omega)
    repeat'(first|(apply kp;iterate 2 exact rfl)|apply jJ|(apply jE;exact rfl)|(apply jp;exact rfl)|(apply jc;kernel_rfl)|((first|apply kf|apply kn|apply ke|apply kx|apply kc|apply kb);iterate 2 exact rfl)|((first|apply kz|apply ky);(·exact rfl);(·repeat(first|exact iO|exact iR rfl|apply iT));iterate 2 exact rfl)|(apply kg;iterate 2 exact rfl)|(apply kG;iterate 3 exact rfl)|(apply kB;(iterate 2 exact rfl);intro _)|(apply kA;exact rfl;intro _)|(apply Go.Hb.kK;(iterate 4 exact rfl);intro _)|(apply kU;(iterate 2 exact rfl);(·repeat(first|exact sH _ _ _|apply sT));(first|exact nfL_eq rfl|exact rfl);exact rfl)|((first|apply kh|apply kl);(iterate 2 exact rfl);(first|decide|omega);exact rfl)|(apply LR.ev; (· apply Ev.rem; (· exact rfl); (· exact rfl); (· first | decide | omega)); (· exact rfl))|(apply addX;(iterate 2 exact rfl);(iterate 2(first|omega|(dsimp only;omega)));exact rfl)|((first|(apply kR;iterate 2 exact rfl)|(apply kQ;exact rfl));all_goals(intro hc;try simp only[hcs]at hc;try(exfalso;first|contradiction|omega))))
    all_goals (
      (apply ret1; (· exact rfl); intro w' hS)
      refine ⟨congrArg (Value.int .i64) ?_, hS⟩
      unfold bring; rw [if_neg h]
      first | rw [if_pos (by omega)] | rw [if_neg (by omega)])

theorem pack_snd (m : Msg) : (pack m).2 = check m := by
  unfold pack
  split
  · rfl
  · rename_i h; simp only [ne_eq, Decidable.not_not] at h; exact h.symm
structure Dat where
  rseq : Int
  rrep : Int
  seq : Int
  sender : Int
  stamp : Int
  msg : Msg
def Dat.cells (d : Dat) (a : Option Addr) (c : Nat) : List Value := .int .i64 d.rseq :: .int .i64 d.rrep :: .int .i64 d.seq :: .int .i64 d.sender :: .int .i64 d.stamp :: d.msg.cells a c
def Dat.val (d : Dat) (a : Option Addr) (c : Nat) : Value := .agg (d.cells a c).toArray
def zeroDat : Dat := ⟨0, 0, 0, 0, 0, zeroMsg⟩
def mayOld (d : Dat) : Bool := decide (¬ (d.rseq = 0 ∧ d.rrep = 0) ∧ ringE d.rseq d.rrep = 0 ∧ 1 ≤ d.seq ∧ d.seq ≤ 9007199254740991 ∧ 1 ≤ d.sender ∧ d.sender ≤ 8 ∧ 0 ≤ d.stamp ∧ d.stamp ≤ 9007199254740991)
def oldM (d : Dat) : Msg := ⟨5, d.sender, 0, d.sender, 0, 0, 0, false, d.stamp, d.rseq, d.rrep, d.seq, bytesM d.msg⟩
def old (d : Dat) : Msg × Int := if mayOld d = true ∧ check d.msg = 0 ∧ d.msg.kind ≠ 5 then (oldM d, 0) else (zeroMsg, 2)
def innerD (m : Msg) : Dat := ⟨m.rseq, m.rrep, m.kseq, m.id, m.stamp, (unpack m.body).1⟩
def inner (m : Msg) : Dat × Int := if check m = 0 ∧ m.kind = 5 then (innerD m, 0) else (zeroDat, 2)
theorem check_old {m : Msg} (h : check m = 0) (hk : m.kind = 5) : plainB m = true ∧ 1 ≤ m.id ∧ m.id ≤ 8 ∧ ¬ (m.rseq = 0 ∧ m.rrep = 0) ∧ 0 < m.kseq ∧ (unpack m.body).2 = 0 ∧ (unpack m.body).1.kind ≠ 5 := by
  have h2 := (check_ok h).2
  unfold mayB at h2
  simp only [Bool.and_eq_true] at h2
  have h3 := h2.2
  unfold kindB at h3
  rw [hk] at h3
  simp only [show ¬ ((5 : Int) = 1) by omega, show ¬ ((5 : Int) = 2) by omega, show ¬ ((5 : Int) = 3) by omega, show ¬ ((5 : Int) = 4) by omega, if_false, if_true] at h3
  unfold oldB at h3
  simp only [Bool.and_eq_true, decide_eq_true_eq] at h3
  exact ⟨h3.1, h3.2⟩

theorem zeroD_val : Value.agg [.int .i64 0, .int .i64 0, .int .i64 0, .int .i64 0, .int .i64 0, .int .i64 0, .int .i64 0, .int .i64 0, .int .i64 0, .int .i64 0, .int .i64 0, .int .i64 0, .bool false, .int .i64 0, .int .i64 0, .int .i64 0, .int .i64 0, .slice none 0 0].toArray = zeroDat.val none 0 := rfl

def sameD (x y : Dat) : Bool := decide ([x.rseq, x.rrep] = [y.rseq, y.rrep] ∧ x.seq = y.seq ∧ x.sender = y.sender ∧ x.stamp = y.stamp ∧ sameB x.msg y.msg = true)
theorem sameD_self (x : Dat) : sameD x x = true := by simp [sameD, sameB_self]
set_option maxHeartbeats 2000000 in
theorem c84 (x y : Dat) (a b : Option Addr) (c d : Nat) (w : World) (hx : Rd w a (bv x.msg.body)) (hy : Rd w b (bv y.msg.body)) (hm : x.msg.body.length ≤ 140737488355328) :
    CallsTo Try.prog 31 [x.val a c, y.val b d] w fun v w' => v = .bool (sameD x y) ∧ Grew w w' := by
  refine go_in (n := 38) (St.rd2 hx hy) Try.func31 rfl rfl ?_
  repeat'(first|(apply kp;iterate 2 exact rfl)|apply jJ|(apply jE;exact rfl)|(apply jp;exact rfl)|(apply jc;kernel_rfl)|((first|apply kf|apply kn|apply ke|apply kx|apply kc|apply kb);iterate 2 exact rfl)|((first|apply kz|apply ky);(·exact rfl);(·repeat(first|exact iO|exact iR rfl|apply iT));iterate 2 exact rfl)|(apply kg;iterate 2 exact rfl)|(apply kG;iterate 3 exact rfl)|(apply kB;(iterate 2 exact rfl);intro _)|(apply kA;exact rfl;intro _)|(apply Go.Hb.kK;(iterate 4 exact rfl);intro _)|(apply kU;(iterate 2 exact rfl);(·repeat(first|exact sH _ _ _|apply sT));(first|exact nfL_eq rfl|exact rfl);exact rfl)|((first|apply kh|apply kl);(iterate 2 exact rfl);(first|decide|omega);exact rfl)|(apply kq; (· exact rfl); (· intro w1 h1; have hq := CallsTo.q (c20 x.msg y.msg a b c d w1 (h1.rd_of (by (repeat (first | exact mH _ _ | apply mT)))) (h1.rd_of (by (repeat (first | exact mH _ _ | apply mT)))) (by omega)) h1; show CallsTo Try.prog 63 [x.msg.val a c, y.msg.val b d] w1 _; exact hq))|((first|(apply kR;iterate 2 exact rfl)|(apply kQ;exact rfl));all_goals(intro hc;try simp only[hcs]at hc;try(exfalso;first|contradiction|omega))))
  all_goals (
    (apply ret1; (· exact rfl); intro w' hS)
    refine ⟨congrArg Value.bool ?_, hS.toKeep⟩
    unfold sameD
    simp_all)
end Go.Proofs.Ythmmmbphknoagaa

namespace Go.Hb
def eq3V : Value → Value → Option Bool
  | .agg ⟨[.int .i64 a, .int .i64 b, .int .i64 c]⟩, .agg ⟨[.int .i64 a', .int .i64 b', .int .i64 c']⟩ => some (decide ([a, b, c] = [a', b', c']))
  | _, _ => none
def eq6V : Value → Value → Option Bool
  | .agg ⟨[.int .i64 a, .int .i64 b, .int .i64 c, .int .i64 d, .int .i64 e, .int .i64 g]⟩, .agg ⟨[.int .i64 a', .int .i64 b', .int .i64 c', .int .i64 d', .int .i64 e', .int .i64 g']⟩ => some (decide ([a, b, c, d, e, g] = [a', b', c', d', e', g']))
  | _, _ => none
theorem eq3V_inv {v u : Value} {r : Bool} (h : eq3V v u = some r) : ∃ xs ys : List Int, v = .agg (xs.map (Value.int .i64)).toArray ∧ u = .agg (ys.map (Value.int .i64)).toArray ∧ xs.length = 3 ∧ ys.length = 3 ∧ r = decide (xs = ys) := by
  unfold eq3V at h; split at h
  · rename_i a b c a' b' c'; cases h; exact ⟨[a, b, c], [a', b', c'], rfl, rfl, rfl, rfl, rfl⟩
  · cases h
theorem eq6V_inv {v u : Value} {r : Bool} (h : eq6V v u = some r) : ∃ xs ys : List Int, v = .agg (xs.map (Value.int .i64)).toArray ∧ u = .agg (ys.map (Value.int .i64)).toArray ∧ xs.length = 6 ∧ ys.length = 6 ∧ r = decide (xs = ys) := by
  unfold eq6V at h; split at h
  · rename_i a b c d e g a' b' c' d' e' g'; cases h; exact ⟨[a, b, c, d, e, g], [a', b', c', d', e', g'], rfl, rfl, rfl, rfl, rfl⟩
  · cases h
instance {P : Program} {T : TypeId} [h : Eqs P T 3] : EqOf P T eq3V where
  eq := fun hb => by obtain ⟨_, _, h1, h2, h3, h4, rfl⟩ := eq3V_inv hb; exact Ev.structs h1 h2 h3 h4
  ne := fun hb => by obtain ⟨_, _, h1, h2, h3, h4, rfl⟩ := eq3V_inv hb; exact Ev.structs_ne h1 h2 h3 h4
instance {P : Program} {T : TypeId} [h : Eqs P T 6] : EqOf P T eq6V where
  eq := fun hb => by obtain ⟨_, _, h1, h2, h3, h4, rfl⟩ := eq6V_inv hb; exact Ev.structs h1 h2 h3 h4
  ne := fun hb => by obtain ⟨_, _, h1, h2, h3, h4, rfl⟩ := eq6V_inv hb; exact Ev.structs_ne h1 h2 h3 h4
theorem St.weak {w0 w : World} {F : Nat → Prop} {x z : Asrt} {R : List Asrt} (h : St w0 F (x :: R) w) (hx : x.excl = true) (hz : z.holds w) (hf : ∀ k, z.foot k → x.foot k) (hd : z.dep) : St w0 F (z :: R) w := by
  refine ⟨h.os, h.tape, h.output, h.size, h.keep, ?_, ?_, ?_, ?_, ?_⟩
  · intro b hb; rcases List.mem_cons.1 hb with rfl | hb
    · exact hz
    · exact h.holds b (List.mem_cons_of_mem _ hb)
  · intro b hb; rcases List.mem_cons.1 hb with rfl | hb
    · exact fun k hk => h.live x List.mem_cons_self k (hf k hk)
    · exact h.live b (List.mem_cons_of_mem _ hb)
  · intro b hb; rcases List.mem_cons.1 hb with rfl | hb
    · exact fun _ k hk => h.mine x List.mem_cons_self hx k (hf k hk)
    · exact h.mine b (List.mem_cons_of_mem _ hb)
  · obtain ⟨h1, h2⟩ := List.pairwise_cons.1 h.dis
    refine List.pairwise_cons.2 ⟨fun b hb _ k hk1 hk2 => h1 b hb (by simp [hx]) k (hf k hk1) hk2, h2⟩
  · intro b hb; rcases List.mem_cons.1 hb with rfl | hb
    · exact hd
    · exact h.dep b (List.mem_cons_of_mem _ hb)
theorem St.odl_rd {w0 w : World} {F : Nat → Prop} {R : List Asrt} {a : Option Addr} {n c : Nat} {E : TypeId} {sz : Nat} {xs : List Value} (h : St w0 F (odl (.slice a n c) E sz n xs :: R) w) : St w0 F (rdA a xs :: R) w :=
  St.weak h rfl (h.rd_of_odl List.mem_cons_self) (fun _ hk => St.odl_foot hk) (Rd.dep _ _)
end Go.Hb

namespace Go.Proofs.Ythmmmbphknoagaa
open Go.Hb
attribute [local irreducible] LR CW At Ev thn blk finK noG again CallsTo DW QL dnext
set_option linter.unusedSimpArgs false
set_option linter.unusedVariables false
set_option maxRecDepth 100000

theorem t77 (s r : Int) (w : World) : CallsTo Try.prog 77 [.agg [.int .i64 s, .int .i64 r].toArray] w fun v w' => v = .bool (rmay s r) ∧ Grew w w' := by
  refine go_in (n := 11) (St.refl _ NoF) Try.func77 rfl rfl ?_
  repeat'(first|(apply kp;iterate 2 exact rfl)|apply jJ|(apply jE;exact rfl)|(apply jp;exact rfl)|(apply jc;kernel_rfl)|((first|apply kf|apply kn|apply ke|apply kx|apply kc|apply kb);iterate 2 exact rfl)|((first|apply kz|apply ky);(·exact rfl);(·repeat(first|exact iO|exact iR rfl|apply iT));iterate 2 exact rfl)|(apply kg;iterate 2 exact rfl)|(apply kG;iterate 3 exact rfl)|(apply kB;(iterate 2 exact rfl);intro _)|(apply kA;exact rfl;intro _)|(apply Go.Hb.kK;(iterate 4 exact rfl);intro _)|(apply kU;(iterate 2 exact rfl);(·repeat(first|exact sH _ _ _|apply sT));(first|exact nfL_eq rfl|exact rfl);exact rfl)|((first|apply kh|apply kl);(iterate 2 exact rfl);(first|decide|omega);exact rfl)|(apply kq;(·exact rfl);(·intro w1 h1;exact CallsTo.q (c97 _ _ w1) h1))|((first|(apply kR;iterate 2 exact rfl)|(apply kQ;exact rfl));all_goals(intro hc;try simp only[hcs]at hc;try(exfalso;first|contradiction|omega))))
  all_goals (
    (apply ret1; (· exact rfl); intro w' hS)
    refine ⟨congrArg Value.bool ?_, hS.toKeep⟩
    simp_all [rmay, ringE]; try omega)
theorem t78 (n : Int) (w : World) : CallsTo Try.prog 78 [.int .i64 n] w fun v w' => v = .bool (withinB n 0 9007199254740991) ∧ Grew w w' := by
  refine go_in (n := 9) (St.refl _ NoF) Try.func78 rfl rfl ?_
  repeat'(first|(apply kp;iterate 2 exact rfl)|apply jJ|(apply jE;exact rfl)|(apply jp;exact rfl)|(apply jc;kernel_rfl)|((first|apply kf|apply kn|apply ke|apply kx|apply kc|apply kb);iterate 2 exact rfl)|((first|apply kz|apply ky);(·exact rfl);(·repeat(first|exact iO|exact iR rfl|apply iT));iterate 2 exact rfl)|(apply kg;iterate 2 exact rfl)|(apply kG;iterate 3 exact rfl)|(apply kB;(iterate 2 exact rfl);intro _)|(apply kA;exact rfl;intro _)|(apply Go.Hb.kK;(iterate 4 exact rfl);intro _)|(apply kU;(iterate 2 exact rfl);(·repeat(first|exact sH _ _ _|apply sT));(first|exact nfL_eq rfl|exact rfl);exact rfl)|((first|apply kh|apply kl);(iterate 2 exact rfl);(first|decide|omega);exact rfl)|((first|(apply kR;iterate 2 exact rfl)|(apply kQ;exact rfl));all_goals(intro hc;try simp only[hcs]at hc;try(exfalso;first|contradiction|omega))))
  all_goals (
    (apply ret1; (· exact rfl); intro w' hS)
    refine ⟨congrArg Value.bool ?_, hS⟩
    simp [withinB, *]; try omega)
theorem t79 (n : Int) (w : World) : CallsTo Try.prog 79 [.int .i64 n] w fun v w' => v = .bool (withinB n 1 8) ∧ Grew w w' := by
  refine go_in (n := 9) (St.refl _ NoF) Try.func79 rfl rfl ?_
  repeat'(first|(apply kp;iterate 2 exact rfl)|apply jJ|(apply jE;exact rfl)|(apply jp;exact rfl)|(apply jc;kernel_rfl)|((first|apply kf|apply kn|apply ke|apply kx|apply kc|apply kb);iterate 2 exact rfl)|((first|apply kz|apply ky);(·exact rfl);(·repeat(first|exact iO|exact iR rfl|apply iT));iterate 2 exact rfl)|(apply kg;iterate 2 exact rfl)|(apply kG;iterate 3 exact rfl)|(apply kB;(iterate 2 exact rfl);intro _)|(apply kA;exact rfl;intro _)|(apply Go.Hb.kK;(iterate 4 exact rfl);intro _)|(apply kU;(iterate 2 exact rfl);(·repeat(first|exact sH _ _ _|apply sT));(first|exact nfL_eq rfl|exact rfl);exact rfl)|((first|apply kh|apply kl);(iterate 2 exact rfl);(first|decide|omega);exact rfl)|((first|(apply kR;iterate 2 exact rfl)|(apply kQ;exact rfl));all_goals(intro hc;try simp only[hcs]at hc;try(exfalso;first|contradiction|omega))))
  all_goals (
    (apply ret1; (· exact rfl); intro w' hS)
    refine ⟨congrArg Value.bool ?_, hS⟩
    simp [withinB, *]; try omega)
theorem tokB_may {t : Tk} {i : Nat} (h : mayAt t i = false) : tokB t = false := by
  cases hb : tokB t with
  | false => rfl
  | true =>
    exfalso
    unfold tokB at hb
    unfold mayAt at h
    rw [Bool.and_eq_true, askB_iff] at hb
    rw [hb.1, Bool.true_and] at h
    have : askB t.seq 0 (t.ask.take i) = true := (askB_iff _ _ _).2 ⟨hb.2.1.sublist (List.take_sublist _ _), fun x hx => hb.2.2 x (List.mem_of_mem_take hx)⟩
    rw [this] at h
    cases h
theorem may_no {t : Tk} {i : Nat} (h : i < t.ask.length) (hn : t.ask[i] < 1 ∨ t.seq < t.ask[i] ∨ t.ask[i] ≤ lastAt t i) : tokB t = false := by
  cases hm : mayAt t i with
  | false => exact tokB_may hm
  | true =>
    refine tokB_may (i := i + 1) ?_
    rw [mayAt_succ h, hm]
    have := lastAt_bd hm
    unfold withinB
    simp only [Bool.true_and, Bool.and_eq_false_iff, decide_eq_false_iff_not]
    omega
theorem may_yes {t : Tk} {i : Nat} (h : i < t.ask.length) (hm : mayAt t i = true) (h1 : 1 ≤ t.ask[i]) (h2 : t.ask[i] ≤ t.seq) (h3 : i = 0 ∨ lastAt t i < t.ask[i]) : mayAt t (i + 1) = true := by
  rw [mayAt_succ h, hm]
  have h4 : i = 0 → lastAt t i = 0 := fun e => by subst e; rfl
  unfold withinB
  simp only [Bool.true_and, Bool.and_eq_true, decide_eq_true_eq]
  omega
theorem last_prev {t : Tk} {i : Nat} (h : i < t.ask.length) (h0 : 0 < i) : t.ask[i - 1]'(by omega) = lastAt t i := by
  obtain ⟨k, rfl⟩ : ∃ k, i = k + 1 := ⟨i - 1, by omega⟩
  rw [lastAt_succ (by omega)]
  rfl
set_option maxHeartbeats 4000000 in
theorem t81 (t : Tk) (a : Option Addr) (c : Nat) (w : World) (hr : Rd w a (iv t.ask)) (hm : t.ask.length ≤ 17592186043904) :
    CallsTo Try.prog 81 [t.val a c] w fun v w' => v = .bool (tokB t) ∧ Grew w w' := by
  refine go_in (n := 106) (St.rd1 hr) Try.func81 rfl rfl ?_
  have hh : t.headB = (rmay t.r1 t.r2 && withinB t.hop 1 9007199254740991 && withinB t.seq 0 9007199254740991 && withinB t.aru 0 t.seq && withinB t.low 0 8 && withinB t.stamp 0 9007199254740991 && withinB t.idle 0 9007199254740991 && decide (t.ask.length ≤ 16)) := rfl
  repeat'(first|(apply kB;(iterate 2 exact rfl);intro b0)|(apply kp;iterate 2 exact rfl)|apply jJ|(apply jE;exact rfl)|(apply jp;exact rfl)|(apply jc;kernel_rfl)|((first|apply kf|apply kn|apply ke|apply kx|apply kc|apply kb);iterate 2 exact rfl)|((first|apply kz|apply ky);(·exact rfl);(·repeat(first|exact iO|exact iR rfl|apply iT));iterate 2 exact rfl)|(apply kg;iterate 2 exact rfl)|(apply kG;iterate 3 exact rfl)|(apply kB;(iterate 2 exact rfl);intro _)|(apply kA;exact rfl;intro _)|(apply Go.Hb.kK;(iterate 4 exact rfl);intro _)|(apply kU;(iterate 2 exact rfl);(·repeat(first|exact sH _ _ _|apply sT));(first|exact nfL_eq rfl|exact rfl);exact rfl)|((first|apply kh|apply kl);(iterate 2 exact rfl);(first|decide|omega);exact rfl)|(apply kq;(·exact rfl);(·intro w1 h1;exact CallsTo.q (t77 _ _ w1) h1))|(apply kq;(·exact rfl);(·intro w1 h1;exact CallsTo.q (t78 _ w1) h1))|((first|(apply kR;iterate 2 exact rfl)|(apply kQ;exact rfl));all_goals(intro hc;try simp only[hcs]at hc;try(exfalso;first|contradiction|omega))))
  all_goals (
    first
    | ((apply ret1; (· exact rfl); intro w' hS)
       refine ⟨congrArg Value.bool ?_, hS.toKeep⟩
       symm
       unfold tokB
       rw [Bool.and_eq_false_iff]
       left
       rw [hh]
       unfold withinB at *
       first | (simp_all; done) | (simp_all; omega))
    | skip)
  all_goals (
    have hH : t.headB = true := by
      rw [hh]
      unfold withinB at *
      first | (simp_all; done) | (simp_all; omega)
    have hl16 : t.ask.length ≤ 16 := by omega
    apply CW.loop [2, 3, 65, 66, 67, 68, 69, 70, 71, 72, 73, 74, 75, 76, 77, 78, 79, 80, 81, 82, 83, 84, 85, 86, 87, 88, 89, 90, 91, 92, 93, 94, 95, 96, 97, 98, 99, 100, 101, 102, 103, 104, 105] (fun i : Nat => i ≤ t.ask.length ∧ mayAt t i = true) (fun i : Nat => [(3, Value.int .i64 i)]) (fun i => St w NoF [.own b0 (.cells (t.cells a c).toArray 26 (0, 0)), rdA a (iv t.ask)]) (fun i => t.ask.length - i)
    · intro w' hw'
      refine ⟨0, ⟨by omega, ?_⟩, ⟨rfl, trivial⟩, hw'⟩
      unfold mayAt
      rw [hH]
      rfl
    intro i g hi
    obtain ⟨hi, hmay⟩ := hi
    by_cases hlt : i < t.ask.length
    · obtain ⟨ba, oa, rfl⟩ := hr.form (fun e => by have := congrArg List.length e; simp [iv] at this; simp [this] at hlt)
      have hlp := fun h0 => last_prev hlt (i := i) h0
      repeat'(first|(apply CW.reg_heldC)|(apply kp;iterate 2 exact rfl)|apply jJ|(apply jE;exact rfl)|(apply jp;exact rfl)|(apply jc;kernel_rfl)|((first|apply kf|apply kn|apply ke|apply kx|apply kc|apply kb);iterate 2 exact rfl)|((first|apply kz|apply ky);(·exact rfl);(·repeat(first|exact iO|exact iR rfl|apply iT));iterate 2 exact rfl)|(apply kg;iterate 2 exact rfl)|(apply kG;iterate 3 exact rfl)|(apply kB;(iterate 2 exact rfl);intro _)|(apply kA;exact rfl;intro _)|(apply Go.Hb.kK;(iterate 4 exact rfl);intro _)|(apply kU;(iterate 2 exact rfl);(·repeat(first|exact sH _ _ _|apply sT));(first|exact nfL_eq rfl|exact rfl);exact rfl)|((first|apply kh|apply kl);(iterate 2 exact rfl);(first|decide|omega);exact rfl)|((first|(apply kR;iterate 2 exact rfl)|(apply kQ;exact rfl));all_goals(intro hc;try simp only[hcs]at hc;try(exfalso;first|contradiction|omega))))
      all_goals (
        apply DW.quiet [0, 1, 2, 3, 4, 5, 6, 7, 8, 9, 10, 11, 12, 13, 14, 15, 16, 17, 18, 19, 20, 21, 22, 23, 24, 25, 26, 27, 28, 29, 30, 31, 32, 33]
        · decide +kernel
        · first | exact fun _ h => h | exact fun _ h => St.sub h (by repeat (first | exact List.Sublist.refl _ | apply List.Sublist.cons_cons | apply List.Sublist.cons))
        repeat'(first|(apply yp;iterate 3 exact rfl)|(apply QL.ev;(·exact rfl);(·first|((first|apply Ez|apply Ey);(·exact rfl);(·repeat(first|exact iO|exact iR rfl|apply iT));exact rfl)|((first|apply Ev.fieldAddr|apply Ev.len|apply EqOf.eq|apply EqOf.ne|apply Ev.conv|apply Ev.buildN);exact rfl)|((first|apply Ev.shr|apply Ev.shl);(iterate 2 exact rfl);first|decide|omega));·exact rfl)|(apply QL.ev; (· exact rfl); (· first | (apply Ev.indexAddr; (· exact rfl); (· exact rfl); (· omega); (· omega)) | (apply Ev.load_rd; (· exact rfl); (· (repeat (first | exact mH _ _ | apply mT))); (· first | (refine iv_at (i := i) ?_ ?_; (· simp; done); (· omega)) | (refine iv_at (i := i - 1) ?_ ?_; (· omega); (· omega)))) | (apply Ev.sub; (· exact rfl); (· exact rfl); (· omega); (· omega))); (· exact rfl))|(apply QL.evg; (iterate 3 exact rfl); (· first | (apply Ev.indexAddr; (· exact rfl); (· exact rfl); (· omega); (· omega)) | (apply Ev.load_rd; (· exact rfl); (· (repeat (first | exact mH _ _ | apply mT))); (· first | (refine iv_at (i := i) ?_ ?_; (· simp; done); (· omega)) | (refine iv_at (i := i - 1) ?_ ?_; (· omega); (· omega)))) | (apply Ev.sub; (· exact rfl); (· exact rfl); (· omega); (· omega))); (· exact rfl))|(apply yq;iterate 5 exact rfl)|(apply QL.evg;(iterate 3 exact rfl);(·first|((first|apply Ez|apply Ey);(·exact rfl);(·repeat(first|exact iO|exact iR rfl|apply iT));exact rfl)|((first|apply Ev.fieldAddr|apply Ev.len|apply EqOf.eq|apply EqOf.ne|apply Ev.conv|apply Ev.buildN);exact rfl)|((first|apply Ev.shr|apply Ev.shl);(iterate 2 exact rfl);first|decide|omega));·exact rfl)|(apply yn;iterate 4 exact rfl)|((apply QL.split;iterate 3 exact rfl);all_goals(intro hc;try simp only[hcs]at hc;try(exfalso;first|contradiction|omega)))|apply QL.nil)
        all_goals (show DW _ _ _ _ _ _ _ _))
      all_goals (first | (apply DW.done_thn; (· decide +kernel)) | (apply DW.done; (· decide +kernel)))
      all_goals (
        repeat'(first|(apply kp;iterate 2 exact rfl)|apply jJ|(apply jE;exact rfl)|(apply jp;exact rfl)|(apply jc;kernel_rfl)|((first|apply kf|apply kn|apply ke|apply kx|apply kc|apply kb);iterate 2 exact rfl)|((first|apply kz|apply ky);(·exact rfl);(·repeat(first|exact iO|exact iR rfl|apply iT));iterate 2 exact rfl)|(apply kg;iterate 2 exact rfl)|(apply kG;iterate 3 exact rfl)|(apply kB;(iterate 2 exact rfl);intro _)|(apply kA;exact rfl;intro _)|(apply Go.Hb.kK;(iterate 4 exact rfl);intro _)|(apply kU;(iterate 2 exact rfl);(·repeat(first|exact sH _ _ _|apply sT));(first|exact nfL_eq rfl|exact rfl);exact rfl)|((first|apply kh|apply kl);(iterate 2 exact rfl);(first|decide|omega);exact rfl)|(apply addX;(iterate 2 exact rfl);(iterate 2(first|omega|(dsimp only;omega)));exact rfl)|((first|(apply kR;iterate 2 exact rfl)|(apply kQ;exact rfl));all_goals(intro hc;try simp only[hcs]at hc;try(exfalso;first|contradiction|omega))))
        skip)
      all_goals (
        have hz0 : i = 0 → lastAt t i = 0 := fun e => by subst e; rfl
        have hl1 : 0 < i → ∃ y, y = t.ask[i - 1]'(by omega) ∧ y = lastAt t i := fun h0 => ⟨_, rfl, hlp h0⟩
        first
        | ((apply ret1; (· exact rfl); intro w' hS)
           refine ⟨congrArg Value.bool ?_, hS.toKeep⟩
           refine (may_no hlt ?_).symm
           rcases Nat.eq_zero_or_pos i with h0 | h0
           · omega
           · obtain ⟨y, hy1, hy2⟩ := hl1 h0
             omega)
        | (refine At.again (i + 1) ⟨by omega, may_yes hlt hmay ?_ ?_ ?_⟩ ?_ ⟨?_, trivial⟩ (fun w' hw' => hw') (by omega)
           · omega
           · omega
           · rcases Nat.eq_zero_or_pos i with h0 | h0
             · exact .inl h0
             · obtain ⟨y, hy1, hy2⟩ := hl1 h0
               right
               omega
           · (repeat (first | exact Out.refl _ _ | exact Out.mix | (apply Out.upd; (· exact rfl)) | (apply Out.updL; (· exact rfl)) | (apply Out.mixs; (· exact rfl))))
           · refine congrArg (Value.int .i64) ?_
             simp))
    · have hie : i = t.ask.length := by omega
      repeat'(first|(apply kp;iterate 2 exact rfl)|apply jJ|(apply jE;exact rfl)|(apply jp;exact rfl)|(apply jc;kernel_rfl)|((first|apply kf|apply kn|apply ke|apply kx|apply kc|apply kb);iterate 2 exact rfl)|((first|apply kz|apply ky);(·exact rfl);(·repeat(first|exact iO|exact iR rfl|apply iT));iterate 2 exact rfl)|(apply kg;iterate 2 exact rfl)|(apply kG;iterate 3 exact rfl)|(apply kB;(iterate 2 exact rfl);intro _)|(apply kA;exact rfl;intro _)|(apply Go.Hb.kK;(iterate 4 exact rfl);intro _)|(apply kU;(iterate 2 exact rfl);(·repeat(first|exact sH _ _ _|apply sT));(first|exact nfL_eq rfl|exact rfl);exact rfl)|((first|apply kh|apply kl);(iterate 2 exact rfl);(first|decide|omega);exact rfl)|((first|(apply kR;iterate 2 exact rfl)|(apply kQ;exact rfl));all_goals(intro hc;try simp only[hcs]at hc;try(exfalso;first|contradiction|omega))))
      all_goals (
        (apply ret1; (· exact rfl); intro w' hS)
        refine ⟨congrArg Value.bool ?_, hS.toKeep⟩
        have hT : mayAt t i = tokB t := by unfold mayAt tokB; rw [List.take_of_length_le (by omega)]
        rw [← hT, hmay]))
end Go.Proofs.Ythmmmbphknoagaa

namespace Go.Proofs.Ythmmmbphknoagaa
open Go.Hb
attribute [local irreducible] LR CW At Ev thn blk finK noG again CallsTo DW QL dnext
set_option linter.unusedSimpArgs false
set_option linter.unusedVariables false
set_option maxRecDepth 100000

def pkT (t : Tk) (a : Option Addr) (c : Nat) : List Value := [.int .i64 2, .int .i64 1, .int .i64 0, .int .i64 0, .int .i64 0, .int .i64 0, .int .i64 0, .int .i64 0, .int .i64 0, .int .i64 0, .int .i64 0, .int .i64 0, .int .i64 0, .int .i64 0, .bool false, .int .i64 0, .int .i64 0, .int .i64 0, .int .i64 0, .slice none 0 0, .int .i64 t.r1, .int .i64 t.r2, .int .i64 t.hop, .int .i64 t.seq, .int .i64 t.aru, .int .i64 t.low, .int .i64 t.stamp, .int .i64 t.idle, .slice a t.ask.length c, .int .i64 0, .int .i64 0, .int .i64 0, .int .i64 0, .int .i64 0, .int .i64 0, .int .i64 0, .slice none 0 0, .int .i64 0, .int .i64 0, .int .i64 0]
def pkV (t : Tk) (a : Option Addr) (c : Nat) : Value := .agg (pkT t a c).toArray
def zCm : Value := .agg [.int .i64 0, .int .i64 0, .int .i64 0, .int .i64 0, .slice none 0 0].toArray
theorem t106z (w : World) : CallsTo Try.prog 106 [zCm, zCm] w fun v w' => v = .bool true ∧ Grew w w' := by
  refine go_in (n := 52) (St.refl _ NoF) Try.func106 rfl rfl ?_
  repeat'(first|(apply kB;(iterate 2 exact rfl);intro _)|(apply kp;iterate 2 exact rfl)|apply jJ|(apply jE;exact rfl)|(apply jp;exact rfl)|(apply jc;kernel_rfl)|((first|apply kf|apply kn|apply ke|apply kx|apply kc|apply kb);iterate 2 exact rfl)|((first|apply kz|apply ky);(·exact rfl);(·repeat(first|exact iO|exact iR rfl|apply iT));iterate 2 exact rfl)|(apply kg;iterate 2 exact rfl)|(apply kG;iterate 3 exact rfl)|(apply kB;(iterate 2 exact rfl);intro _)|(apply kA;exact rfl;intro _)|(apply Go.Hb.kK;(iterate 4 exact rfl);intro _)|(apply kU;(iterate 2 exact rfl);(·repeat(first|exact sH _ _ _|apply sT));(first|exact nfL_eq rfl|exact rfl);exact rfl)|((first|apply kh|apply kl);(iterate 2 exact rfl);(first|decide|omega);exact rfl)|((first|(apply kR;iterate 2 exact rfl)|(apply kQ;exact rfl));all_goals(intro hc;try simp only[hcs]at hc;try(exfalso;first|contradiction|omega))))
  rename_i b1 b2
  apply CW.loop [4, 5, 34, 35, 36, 37, 38, 39, 40, 41, 42, 43, 44, 45, 46, 47, 48, 49, 50, 51] (fun i : Nat => True) (fun i : Nat => [(5, Value.int .i64 0)]) (fun i => St w NoF [.own b2 (.cells #[.int .i64 0, .int .i64 0, .int .i64 0, .int .i64 0, .slice none 0 0] 98 (0, 0)), .own b1 (.cells #[.int .i64 0, .int .i64 0, .int .i64 0, .int .i64 0, .slice none 0 0] 98 (0, 0))]) (fun i => i)
  · exact fun w' hw' => ⟨0, trivial, ⟨rfl, trivial⟩, hw'⟩
  intro i g _
  repeat'(first|(apply kp;iterate 2 exact rfl)|apply jJ|(apply jE;exact rfl)|(apply jp;exact rfl)|(apply jc;kernel_rfl)|((first|apply kf|apply kn|apply ke|apply kx|apply kc|apply kb);iterate 2 exact rfl)|((first|apply kz|apply ky);(·exact rfl);(·repeat(first|exact iO|exact iR rfl|apply iT));iterate 2 exact rfl)|(apply kg;iterate 2 exact rfl)|(apply kG;iterate 3 exact rfl)|(apply kB;(iterate 2 exact rfl);intro _)|(apply kA;exact rfl;intro _)|(apply Go.Hb.kK;(iterate 4 exact rfl);intro _)|(apply kU;(iterate 2 exact rfl);(·repeat(first|exact sH _ _ _|apply sT));(first|exact nfL_eq rfl|exact rfl);exact rfl)|((first|apply kh|apply kl);(iterate 2 exact rfl);(first|decide|omega);exact rfl)|((first|(apply kR;iterate 2 exact rfl)|(apply kQ;exact rfl));all_goals(intro hc;try simp only[hcs]at hc;try(exfalso;first|contradiction|omega))))
  (apply ret1; (· exact rfl); intro w' hS)
  exact ⟨rfl, hS.toKeep⟩
set_option maxHeartbeats 2000000 in
theorem t76z (t : Tk) (a : Option Addr) (c : Nat) (w : World) : CallsTo Try.prog 76 [pkV t a c] w fun v w' => v = pkV t a c ∧ Grew w w' := by
  refine go_in (n := 37) (St.refl _ NoF) Try.func76 rfl rfl ?_
  repeat'(first|(apply kB;(iterate 2 exact rfl);intro _)|(apply kp;iterate 2 exact rfl)|apply jJ|(apply jE;exact rfl)|(apply jp;exact rfl)|(apply jc;kernel_rfl)|((first|apply kf|apply kn|apply ke|apply kx|apply kc|apply kb);iterate 2 exact rfl)|((first|apply kz|apply ky);(·exact rfl);(·repeat(first|exact iO|exact iR rfl|apply iT));iterate 2 exact rfl)|(apply kg;iterate 2 exact rfl)|(apply kG;iterate 3 exact rfl)|(apply kB;(iterate 2 exact rfl);intro _)|(apply kA;exact rfl;intro _)|(apply Go.Hb.kK;(iterate 4 exact rfl);intro _)|(apply kU;(iterate 2 exact rfl);(·repeat(first|exact sH _ _ _|apply sT));(first|exact nfL_eq rfl|exact rfl);exact rfl)|((first|apply kh|apply kl);(iterate 2 exact rfl);(first|decide|omega);exact rfl)|((first|(apply kR;iterate 2 exact rfl)|(apply kQ;exact rfl));all_goals(intro hc;try simp only[hcs]at hc;try(exfalso;first|contradiction|omega))))
  (apply ret1c; (· exact rfl); (· exact inferInstance); (· exact rfl); (· (repeat (first | exact List.Mem.head _ | apply List.Mem.tail))); (· exact rfl); intro w' hS)
  exact ⟨rfl, hS.toKeep⟩
set_option maxHeartbeats 2000000 in
theorem t75z (t : Tk) (a : Option Addr) (c : Nat) (w : World) (hr : Rd w a (iv t.ask)) (hm : t.ask.length ≤ 17592186043904) : CallsTo Try.prog 75 [pkV t a c, pkV t a c] w fun v w' => v = .bool true ∧ Grew w w' := by
  refine go_in (n := 52) (St.rd1 hr) Try.func75 rfl rfl ?_
  repeat'(first|(apply kB;(iterate 2 exact rfl);intro _)|(apply kp;iterate 2 exact rfl)|apply jJ|(apply jE;exact rfl)|(apply jp;exact rfl)|(apply jc;kernel_rfl)|((first|apply kf|apply kn|apply ke|apply kx|apply kc|apply kb);iterate 2 exact rfl)|((first|apply kz|apply ky);(·exact rfl);(·repeat(first|exact iO|exact iR rfl|apply iT));iterate 2 exact rfl)|(apply kg;iterate 2 exact rfl)|(apply kG;iterate 3 exact rfl)|(apply kB;(iterate 2 exact rfl);intro _)|(apply kA;exact rfl;intro _)|(apply Go.Hb.kK;(iterate 4 exact rfl);intro _)|(apply kU;(iterate 2 exact rfl);(·repeat(first|exact sH _ _ _|apply sT));(first|exact nfL_eq rfl|exact rfl);exact rfl)|((first|apply kh|apply kl);(iterate 2 exact rfl);(first|decide|omega);exact rfl)|(apply kq; (· exact rfl); (· intro w1 h1; first | exact CallsTo.q (t106z w1) h1 | (have hq := CallsTo.q (c84 zeroDat zeroDat none none 0 0 w1 (Rd.nil _ _) (Rd.nil _ _) (by decide)) h1; rw [show sameD zeroDat zeroDat = true by decide +kernel] at hq; exact hq) | (have hq := CallsTo.q (t18 t t a a c c w1 (h1.rd_of (by (repeat (first | exact mH _ _ | apply mT)))) (h1.rd_of (by (repeat (first | exact mH _ _ | apply mT)))) hm) h1; rw [decide_eq_true rfl] at hq; exact hq)))|((first|(apply kR;iterate 2 exact rfl)|(apply kQ;exact rfl));all_goals(intro hc;try simp only[hcs]at hc;try(exfalso;first|contradiction|omega))))
  (apply ret1; (· exact rfl); intro w' hS)
  exact ⟨rfl, hS.toKeep⟩
set_option maxHeartbeats 2000000 in
theorem t57z (t : Tk) (a : Option Addr) (c : Nat) (w : World) (hr : Rd w a (iv t.ask)) (hm : t.ask.length ≤ 17592186043904) : CallsTo Try.prog 57 [pkV t a c] w fun v w' => v = .int .i64 (tokE t) ∧ Grew w w' := by
  refine go_in (n := 117) (St.rd1 hr) Try.func57 rfl rfl ?_
  repeat'(first|(apply kB;(iterate 2 exact rfl);intro _)|(apply CW.reg_heldC)|(apply kp;iterate 2 exact rfl)|apply jJ|(apply jE;exact rfl)|(apply jp;exact rfl)|(apply jc;kernel_rfl)|((first|apply kf|apply kn|apply ke|apply kx|apply kc|apply kb);iterate 2 exact rfl)|((first|apply kz|apply ky);(·exact rfl);(·repeat(first|exact iO|exact iR rfl|apply iT));iterate 2 exact rfl)|(apply kg;iterate 2 exact rfl)|(apply kG;iterate 3 exact rfl)|(apply kB;(iterate 2 exact rfl);intro _)|(apply kA;exact rfl;intro _)|(apply Go.Hb.kK;(iterate 4 exact rfl);intro _)|(apply kU;(iterate 2 exact rfl);(·repeat(first|exact sH _ _ _|apply sT));(first|exact nfL_eq rfl|exact rfl);exact rfl)|((first|apply kh|apply kl);(iterate 2 exact rfl);(first|decide|omega);exact rfl)|((first|(apply kR;iterate 2 exact rfl)|(apply kQ;exact rfl));all_goals(intro hc;try simp only[hcs]at hc;try(exfalso;first|contradiction|omega))))
  all_goals (
    apply DW.quiet [0, 1]
    · decide +kernel
    · first | exact fun _ h => h | exact fun _ h => St.sub h (by repeat (first | exact List.Sublist.refl _ | apply List.Sublist.cons_cons | apply List.Sublist.cons))
    repeat'(first|(apply yp;iterate 3 exact rfl)|(apply QL.ev;(·exact rfl);(·first|((first|apply Ez|apply Ey);(·exact rfl);(·repeat(first|exact iO|exact iR rfl|apply iT));exact rfl)|((first|apply Ev.fieldAddr|apply Ev.len|apply EqOf.eq|apply EqOf.ne|apply Ev.conv|apply Ev.buildN);exact rfl)|((first|apply Ev.shr|apply Ev.shl);(iterate 2 exact rfl);first|decide|omega));·exact rfl)|(apply yq;iterate 5 exact rfl)|(apply QL.evg;(iterate 3 exact rfl);(·first|((first|apply Ez|apply Ey);(·exact rfl);(·repeat(first|exact iO|exact iR rfl|apply iT));exact rfl)|((first|apply Ev.fieldAddr|apply Ev.len|apply EqOf.eq|apply EqOf.ne|apply Ev.conv|apply Ev.buildN);exact rfl)|((first|apply Ev.shr|apply Ev.shl);(iterate 2 exact rfl);first|decide|omega));·exact rfl)|(apply yn;iterate 4 exact rfl)|((apply QL.split;iterate 3 exact rfl);all_goals(intro hc;try simp only[hcs]at hc;try(exfalso;first|contradiction|omega)))|apply QL.nil)
    all_goals (show DW _ _ _ _ _ _ _ _))
  all_goals (
    apply DW.loud 2
    · exact rfl
    · decide +kernel
    repeat'(first|(apply kg;iterate 2 exact rfl)|(apply kG;iterate 3 exact rfl)|apply kM|(apply kp;iterate 2 exact rfl)|((first|apply kz|apply ky);(·exact rfl);(·repeat(first|exact iO|exact iR rfl|apply iT));iterate 2 exact rfl)|(apply Go.Hb.kK;(iterate 4 exact rfl);intro _)|(apply kU;(iterate 2 exact rfl);(·repeat(first|exact sH _ _ _|apply sT));(first|exact nfL_eq rfl|exact rfl);exact rfl)|(apply kB;(iterate 2 exact rfl);intro _)|(apply kA;exact rfl;intro _)|(apply kq; (· exact rfl); (· intro w1 h1; first | exact CallsTo.q (t76z t a c w1) h1 | exact CallsTo.q (t75z t a c w1 (h1.rd_of (by (repeat (first | exact mH _ _ | apply mT)))) hm) h1)))
    all_goals (refine At.stage_same (fun _ h => St.sub h (by repeat (first | exact List.Sublist.refl _ | apply List.Sublist.cons_cons | apply List.Sublist.cons))) ?_))
  all_goals (
    apply DW.loud 3
    · exact rfl
    · decide +kernel
    repeat'(first|(apply kg;iterate 2 exact rfl)|(apply kG;iterate 3 exact rfl)|apply kM|(apply kp;iterate 2 exact rfl)|((first|apply kz|apply ky);(·exact rfl);(·repeat(first|exact iO|exact iR rfl|apply iT));iterate 2 exact rfl)|(apply Go.Hb.kK;(iterate 4 exact rfl);intro _)|(apply kU;(iterate 2 exact rfl);(·repeat(first|exact sH _ _ _|apply sT));(first|exact nfL_eq rfl|exact rfl);exact rfl)|(apply kB;(iterate 2 exact rfl);intro _)|(apply kA;exact rfl;intro _)|(apply kq; (· exact rfl); (· intro w1 h1; first | exact CallsTo.q (t76z t a c w1) h1 | exact CallsTo.q (t75z t a c w1 (h1.rd_of (by (repeat (first | exact mH _ _ | apply mT)))) hm) h1)))
    all_goals (refine At.stage_same (fun _ h => St.sub h (by repeat (first | exact List.Sublist.refl _ | apply List.Sublist.cons_cons | apply List.Sublist.cons))) ?_))
  all_goals (
    apply DW.quiet [4]
    · decide +kernel
    · first | exact fun _ h => h | exact fun _ h => St.sub h (by repeat (first | exact List.Sublist.refl _ | apply List.Sublist.cons_cons | apply List.Sublist.cons))
    repeat'(first|(apply yp;iterate 3 exact rfl)|(apply QL.ev;(·exact rfl);(·first|((first|apply Ez|apply Ey);(·exact rfl);(·repeat(first|exact iO|exact iR rfl|apply iT));exact rfl)|((first|apply Ev.fieldAddr|apply Ev.len|apply EqOf.eq|apply EqOf.ne|apply Ev.conv|apply Ev.buildN);exact rfl)|((first|apply Ev.shr|apply Ev.shl);(iterate 2 exact rfl);first|decide|omega));·exact rfl)|(apply yq;iterate 5 exact rfl)|(apply QL.evg;(iterate 3 exact rfl);(·first|((first|apply Ez|apply Ey);(·exact rfl);(·repeat(first|exact iO|exact iR rfl|apply iT));exact rfl)|((first|apply Ev.fieldAddr|apply Ev.len|apply EqOf.eq|apply EqOf.ne|apply Ev.conv|apply Ev.buildN);exact rfl)|((first|apply Ev.shr|apply Ev.shl);(iterate 2 exact rfl);first|decide|omega));·exact rfl)|(apply yn;iterate 4 exact rfl)|((apply QL.split;iterate 3 exact rfl);all_goals(intro hc;try simp only[hcs]at hc;try(exfalso;first|contradiction|omega)))|apply QL.nil)
    all_goals (show DW _ _ _ _ _ _ _ _))
  all_goals (first | (apply DW.done_thn; (· decide +kernel)) | (apply DW.done; (· decide +kernel)))
  repeat'(first|(apply kp;iterate 2 exact rfl)|apply jJ|(apply jE;exact rfl)|(apply jp;exact rfl)|(apply jc;kernel_rfl)|((first|apply kf|apply kn|apply ke|apply kx|apply kc|apply kb);iterate 2 exact rfl)|((first|apply kz|apply ky);(·exact rfl);(·repeat(first|exact iO|exact iR rfl|apply iT));iterate 2 exact rfl)|(apply kg;iterate 2 exact rfl)|(apply kG;iterate 3 exact rfl)|(apply kB;(iterate 2 exact rfl);intro _)|(apply kA;exact rfl;intro _)|(apply Go.Hb.kK;(iterate 4 exact rfl);intro _)|(apply kU;(iterate 2 exact rfl);(·repeat(first|exact sH _ _ _|apply sT));(first|exact nfL_eq rfl|exact rfl);exact rfl)|((first|apply kh|apply kl);(iterate 2 exact rfl);(first|decide|omega);exact rfl)|(apply kq; (· exact rfl); (· intro w1 h1; first | exact CallsTo.q (t79 _ w1) h1 | exact CallsTo.q (t81 t a c w1 (h1.rd_of (by (repeat (first | exact mH _ _ | apply mT)))) hm) h1))|((first|(apply kR;iterate 2 exact rfl)|(apply kQ;exact rfl));all_goals(intro hc;try simp only[hcs]at hc;try(exfalso;first|contradiction|omega))))
  all_goals (
    (apply ret1; (· exact rfl); intro w' hS)
    refine ⟨congrArg (Value.int .i64) ?_, hS.toKeep⟩
    unfold tokE
    simp_all)
theorem t17 (t : Tk) (a : Option Addr) (c : Nat) (w : World) (hr : Rd w a (iv t.ask)) (hm : t.ask.length ≤ 17592186043904) : CallsTo Try.prog 17 [t.val a c] w fun v w' => v = .int .i64 (tokE t) ∧ Grew w w' := by
  refine go_in (n := 6) (St.rd1 hr) Try.func17 rfl rfl ?_
  repeat'(first|(apply kB;(iterate 2 exact rfl);intro _)|(apply kp;iterate 2 exact rfl)|apply jJ|(apply jE;exact rfl)|(apply jp;exact rfl)|(apply jc;kernel_rfl)|((first|apply kf|apply kn|apply ke|apply kx|apply kc|apply kb);iterate 2 exact rfl)|((first|apply kz|apply ky);(·exact rfl);(·repeat(first|exact iO|exact iR rfl|apply iT));iterate 2 exact rfl)|(apply kg;iterate 2 exact rfl)|(apply kG;iterate 3 exact rfl)|(apply kB;(iterate 2 exact rfl);intro _)|(apply kA;exact rfl;intro _)|(apply Go.Hb.kK;(iterate 4 exact rfl);intro _)|(apply kU;(iterate 2 exact rfl);(·repeat(first|exact sH _ _ _|apply sT));(first|exact nfL_eq rfl|exact rfl);exact rfl)|((first|apply kh|apply kl);(iterate 2 exact rfl);(first|decide|omega);exact rfl)|(apply kq; (· exact rfl); (· intro w1 h1; exact CallsTo.q (t57z t a c w1 (h1.rd_of (by (repeat (first | exact mH _ _ | apply mT)))) hm) h1))|((first|(apply kR;iterate 2 exact rfl)|(apply kQ;exact rfl));all_goals(intro hc;try simp only[hcs]at hc;try(exfalso;first|contradiction|omega))))
  (apply ret1; (· exact rfl); intro w' hS)
  exact ⟨rfl, hS.toKeep⟩
end Go.Proofs.Ythmmmbphknoagaa

namespace Go.Proofs.Ythmmmbphknoagaa
open Go.Hb
attribute [local irreducible] LR CW At Ev thn blk finK noG again CallsTo DW QL dnext
set_option linter.unusedSimpArgs false
set_option linter.unusedVariables false
set_option maxRecDepth 100000

/-! ### the least number above another one -/
def lst1 (z q o n : Int) : Int := if z < n ∧ n ≤ q ∧ (o = 0 ∨ n < o) then n else o
def leastF (l : List Int) (z q : Int) : Int := l.foldl (lst1 z q) 0
theorem leastF_snoc (l : List Int) (x z q : Int) : leastF (l ++ [x]) z q = lst1 z q (leastF l z q) x := by
  unfold leastF; rw [List.foldl_append]; rfl
theorem leastF_spec {z : Int} (q : Int) (hz : 0 ≤ z) : ∀ (l r : List Int), l = r.reverse → ((∀ x ∈ l, ¬(z < x ∧ x ≤ q)) ∧ leastF l z q = 0) ∨ (leastF l z q ∈ l ∧ (z < leastF l z q ∧ leastF l z q ≤ q) ∧ ∀ x ∈ l, z < x ∧ x ≤ q → leastF l z q ≤ x) := by
  intro l r
  induction r generalizing l with
  | nil => intro h; subst h; exact .inl ⟨fun x hx => by simp at hx, rfl⟩
  | cons y r ih =>
    intro h
    rw [List.reverse_cons] at h
    subst h
    rw [leastF_snoc]
    have hmem : ∀ x, x ∈ r.reverse ++ [y] ↔ x ∈ r.reverse ∨ x = y := fun x => by simp
    rcases ih _ rfl with ⟨h1, h2⟩ | ⟨h1, h2, h3⟩
    · rw [h2]
      unfold lst1
      by_cases hy : z < y ∧ y ≤ q
      · rw [if_pos ⟨hy.1, hy.2, .inl rfl⟩]
        refine .inr ⟨(hmem y).2 (.inr rfl), hy, fun x hx hp => ?_⟩
        rcases (hmem x).1 hx with hx | rfl
        · exact (h1 x hx hp).elim
        · exact Int.le_refl _
      · rw [if_neg (fun h => hy ⟨h.1, h.2.1⟩)]
        refine .inl ⟨fun x hx => ?_, rfl⟩
        rcases (hmem x).1 hx with hx | rfl
        · exact h1 x hx
        · exact hy
    · generalize leastF r.reverse z q = o at h1 h2 h3 ⊢
      unfold lst1
      by_cases hy : z < y ∧ y ≤ q ∧ (o = 0 ∨ y < o)
      · rw [if_pos hy]
        refine .inr ⟨(hmem y).2 (.inr rfl), ⟨hy.1, hy.2.1⟩, fun x hx hp => ?_⟩
        rcases (hmem x).1 hx with hx | rfl
        · have := h3 x hx hp; omega
        · exact Int.le_refl _
      · rw [if_neg hy]
        refine .inr ⟨(hmem o).2 (.inl h1), h2, fun x hx hp => ?_⟩
        rcases (hmem x).1 hx with hx | rfl
        · exact h3 x hx hp
        · omega
theorem lastI_mem : ∀ (l : List Int) (z : Int), lastI z l = z ∧ l = [] ∨ lastI z l ∈ l
  | [], z => .inl ⟨rfl, rfl⟩
  | x :: l, z => by
    right
    unfold lastI
    rw [List.getLastD_cons]
    cases l with
    | nil => simp
    | cons y l => rw [List.getLastD_cons]; exact List.mem_cons_of_mem _ (List.getLastD_mem_cons)
theorem asc_split {L : List Int} (h : L.Pairwise (· < ·)) (k : Nat) : ∀ x ∈ L.take k, ∀ y ∈ L.drop k, x < y := by
  have : (L.take k ++ L.drop k).Pairwise (· < ·) := by rw [List.take_append_drop]; exact h
  exact (List.pairwise_append.1 this).2.2
/-- Above the last one of the first k of a rising list the least one is the next one. -/
theorem least_next {L l : List Int} {q : Int} (h : L.Pairwise (· < ·)) (hm : ∀ x, x ∈ L ↔ x ∈ l ∧ 0 < x ∧ x ≤ q) (k : Nat) : leastF l (lastI 0 (L.take k)) q = (L[k]?).getD 0 := by
  have hlast : 0 ≤ lastI 0 (L.take k) := by
    rcases lastI_mem (L.take k) 0 with ⟨h1, _⟩ | h1
    · rw [h1]; exact Int.le_refl _
    · have := ((hm _).1 (List.mem_of_mem_take h1)).2.1; omega
  have hdrop : ∀ x, x ∈ L.drop k ↔ x ∈ l ∧ lastI 0 (L.take k) < x ∧ x ≤ q := by
    intro x
    constructor
    · intro hx
      have h1 := (hm x).1 (List.mem_of_mem_drop hx)
      refine ⟨h1.1, ?_, h1.2.2⟩
      rcases lastI_mem (L.take k) 0 with ⟨h2, _⟩ | h2
      · rw [h2]; exact h1.2.1
      · exact asc_split h k _ h2 x hx
    · rintro ⟨h1, h2, h3⟩
      have hx : x ∈ L := (hm x).2 ⟨h1, by omega, h3⟩
      rw [← List.take_append_drop k L, List.mem_append] at hx
      rcases hx with hx | hx
      · exfalso
        have hne : L.take k ≠ [] := fun e => by rw [e] at hx; simp at hx
        -- x is at most the last one
        have hle : ∀ (r : List Int) (z : Int), r.Pairwise (· < ·) → x ∈ r → x ≤ lastI z r := by
          intro r
          induction r with
          | nil => intro z _ hx; simp at hx
          | cons y r ih =>
            intro z hp hx
            rw [List.pairwise_cons] at hp
            have e : lastI z (y :: r) = lastI y r := by unfold lastI; rw [List.getLastD_cons]
            rw [e]
            rcases List.mem_cons.1 hx with rfl | hx
            · rcases lastI_mem r x with ⟨h5, _⟩ | h5
              · omega
              · have := hp.1 _ h5; omega
            · exact ih y hp.2 hx
        have := hle _ 0 (h.sublist (List.take_sublist k L)) hx
        omega
      · exact hx
  rcases leastF_spec q hlast l l.reverse (by simp) with ⟨h1, h2⟩ | ⟨h1, h2, h3⟩
  · rw [h2]
    have : L.drop k = [] := by
      rw [List.eq_nil_iff_forall_not_mem]
      intro x hx
      have := (hdrop x).1 hx
      exact h1 x this.1 this.2
    have hlen : L.length ≤ k := by
      have := congrArg List.length this
      rw [List.length_drop] at this
      simp at this
      omega
    rw [List.getElem?_eq_none hlen]
    rfl
  · have hmem := (hdrop _).2 ⟨h1, h2⟩
    generalize leastF l (lastI 0 (L.take k)) q = o at *
    have hlt : k < L.length := by
      have := List.length_pos_of_mem hmem
      rw [List.length_drop] at this
      omega
    rw [List.getElem?_eq_getElem hlt]
    show o = L[k]
    have hd : L.drop k = L[k] :: L.drop (k + 1) := List.drop_eq_getElem_cons hlt
    have h4 := (hdrop L[k]).1 (by rw [hd]; exact List.mem_cons_self)
    have h5 := h3 _ h4.1 h4.2
    rw [hd] at hmem
    have hp : (L[k] :: L.drop (k + 1)).Pairwise (· < ·) := by rw [← hd]; exact h.sublist (List.drop_sublist _ _)
    rcases List.mem_cons.1 hmem with e | e
    · exact e
    · have := (List.pairwise_cons.1 hp).1 o e
      omega
theorem t55_get {a b : List Int} {i : Nat} (h : i < a.length) : (a ++ b).take (i + 1) = (a ++ b).take i ++ [a[i]] := by
  rw [List.take_add_one, List.getElem?_eq_getElem (by simp; omega), Option.toList_some, List.getElem_append_left h]
theorem t55_get2 {a b : List Int} {i : Nat} (h : ¬i < a.length) (h2 : i - a.length < b.length) : (a ++ b).take (i + 1) = (a ++ b).take i ++ [b[i - a.length]] := by
  rw [List.take_add_one, List.getElem?_eq_getElem (by simp; omega), Option.toList_some, List.getElem_append_right (by omega)]
set_option maxHeartbeats 2000000 in
theorem t55 (ap : Option Addr) (ca : Nat) (a : List Int) (bp : Option Addr) (cb : Nat) (b : List Int) (z q : Int) (w : World) (ha : Rd w ap (iv a)) (hb : Rd w bp (iv b)) (hma : a.length ≤ 17592186043904) (hmb : b.length ≤ 17592186043904) :
    CallsTo Try.prog 55 [.slice ap a.length ca, .slice bp b.length cb, .int .i64 z, .int .i64 q] w fun v w' => v = .int .i64 (leastF (a ++ b) z q) ∧ Grew w w' := by
  refine go_in (n := 55) (St.rd2 ha hb) Try.func55 rfl rfl ?_
  repeat'(first|(apply kp;iterate 2 exact rfl)|apply jJ|(apply jE;exact rfl)|(apply jp;exact rfl)|(apply jc;kernel_rfl)|((first|apply kf|apply kn|apply ke|apply kx|apply kc|apply kb);iterate 2 exact rfl)|((first|apply kz|apply ky);(·exact rfl);(·repeat(first|exact iO|exact iR rfl|apply iT));iterate 2 exact rfl)|(apply kg;iterate 2 exact rfl)|(apply kG;iterate 3 exact rfl)|(apply kB;(iterate 2 exact rfl);intro _)|(apply kA;exact rfl;intro _)|(apply Go.Hb.kK;(iterate 4 exact rfl);intro _)|(apply kU;(iterate 2 exact rfl);(·repeat(first|exact sH _ _ _|apply sT));(first|exact nfL_eq rfl|exact rfl);exact rfl)|((first|apply kh|apply kl);(iterate 2 exact rfl);(first|decide|omega);exact rfl)|((first|(apply kR;iterate 2 exact rfl)|(apply kQ;exact rfl));all_goals(intro hc;try simp only[hcs]at hc;try(exfalso;first|contradiction|omega))))
  apply CW.loop [9, 10, 11, 12, 13, 14, 15, 16, 17, 18, 19, 20, 21, 22, 23, 24, 25, 26, 27, 28, 29, 30, 31, 32, 33, 34, 35, 36, 37, 38, 39, 40, 41, 42, 43, 44, 45, 46, 47, 48, 49, 50, 51, 52, 53] (fun i : Nat => i ≤ a.length + b.length) (fun i : Nat => [(9, Value.int .i64 (leastF ((a ++ b).take i) z q)), (10, Value.int .i64 i)]) (fun i => St w NoF [rdA ap (iv a), rdA bp (iv b)]) (fun i => a.length + b.length - i)
  · exact fun w' hw' => ⟨0, by omega, ⟨by simp [leastF]; rfl, rfl, trivial⟩, hw'⟩
  intro i g hi
  by_cases hlt : i < a.length + b.length
  · by_cases hia : i < a.length
    · obtain ⟨ba, oa, rfl⟩ := ha.form (fun e => by have := congrArg List.length e; simp [iv] at this; simp [this] at hia)
      repeat'(first|(apply kp;iterate 2 exact rfl)|apply jJ|(apply jE;exact rfl)|(apply jp;exact rfl)|(apply jc;kernel_rfl)|((first|apply kf|apply kn|apply ke|apply kx|apply kc|apply kb);iterate 2 exact rfl)|((first|apply kz|apply ky);(·exact rfl);(·repeat(first|exact iO|exact iR rfl|apply iT));iterate 2 exact rfl)|(apply kg;iterate 2 exact rfl)|(apply kG;iterate 3 exact rfl)|(apply kB;(iterate 2 exact rfl);intro _)|(apply kA;exact rfl;intro _)|(apply Go.Hb.kK;(iterate 4 exact rfl);intro _)|(apply kU;(iterate 2 exact rfl);(·repeat(first|exact sH _ _ _|apply sT));(first|exact nfL_eq rfl|exact rfl);exact rfl)|((first|apply kh|apply kl);(iterate 2 exact rfl);(first|decide|omega);exact rfl)|(apply addX;(iterate 2 exact rfl);(iterate 2(first|omega|(dsimp only;omega)));exact rfl)|(apply idxX;(iterate 2 exact rfl);(iterate 2(first|omega|(dsimp only;omega)));exact rfl)|(apply LR.ev; (· apply Ev.load_rd; (· exact rfl); (· repeat (first | exact mH _ _ | apply mT)); (· exact iv_at (i := i) (by simp) (by omega))); (· exact rfl))|((first|(apply kR;iterate 2 exact rfl)|(apply kQ;exact rfl));all_goals(intro hc;try simp only[hcs]at hc;try(exfalso;first|contradiction|omega))))
      all_goals (
        refine At.again (i + 1) (by omega) ?_ ⟨?_, ?_, trivial⟩ (fun w' hw' => hw') (by omega)
        · (repeat (first | exact Out.refl _ _ | exact Out.mix | (apply Out.upd; (· exact rfl)) | (apply Out.updL; (· exact rfl)) | (apply Out.mixs; (· exact rfl))))
        · rw [t55_get hia, leastF_snoc]
          refine congrArg (Value.int .i64) ?_
          symm
          unfold lst1
          split <;> first | rfl | omega
        · refine congrArg (Value.int .i64) ?_
          simp)
    · have hjb : i - a.length < b.length := by omega
      obtain ⟨bb, ob, rfl⟩ := hb.form (fun e => by have := congrArg List.length e; simp [iv] at this; simp [this] at hjb)
      repeat'(first|(apply kp;iterate 2 exact rfl)|apply jJ|(apply jE;exact rfl)|(apply jp;exact rfl)|(apply jc;kernel_rfl)|((first|apply kf|apply kn|apply ke|apply kx|apply kc|apply kb);iterate 2 exact rfl)|((first|apply kz|apply ky);(·exact rfl);(·repeat(first|exact iO|exact iR rfl|apply iT));iterate 2 exact rfl)|(apply kg;iterate 2 exact rfl)|(apply kG;iterate 3 exact rfl)|(apply kB;(iterate 2 exact rfl);intro _)|(apply kA;exact rfl;intro _)|(apply Go.Hb.kK;(iterate 4 exact rfl);intro _)|(apply kU;(iterate 2 exact rfl);(·repeat(first|exact sH _ _ _|apply sT));(first|exact nfL_eq rfl|exact rfl);exact rfl)|((first|apply kh|apply kl);(iterate 2 exact rfl);(first|decide|omega);exact rfl)|(apply addX;(iterate 2 exact rfl);(iterate 2(first|omega|(dsimp only;omega)));exact rfl)|(apply subX;(iterate 2 exact rfl);(iterate 2(first|omega|(dsimp only;omega)));exact rfl)|(apply idxX;(iterate 2 exact rfl);(iterate 2(first|omega|(dsimp only;omega)));exact rfl)|(apply LR.ev; (· apply Ev.load_rd; (· exact rfl); (· repeat (first | exact mH _ _ | apply mT)); (· exact iv_at (i := i - a.length) (by omega) (by omega))); (· exact rfl))|((first|(apply kR;iterate 2 exact rfl)|(apply kQ;exact rfl));all_goals(intro hc;try simp only[hcs]at hc;try(exfalso;first|contradiction|omega))))
      all_goals (
        refine At.again (i + 1) (by omega) ?_ ⟨?_, ?_, trivial⟩ (fun w' hw' => hw') (by omega)
        · (repeat (first | exact Out.refl _ _ | exact Out.mix | (apply Out.upd; (· exact rfl)) | (apply Out.updL; (· exact rfl)) | (apply Out.mixs; (· exact rfl))))
        · rw [t55_get2 hia hjb, leastF_snoc]
          refine congrArg (Value.int .i64) ?_
          symm
          unfold lst1
          split <;> first | rfl | omega
        · refine congrArg (Value.int .i64) ?_
          simp)
  · have hie : i = a.length + b.length := by omega
    repeat'(first|(apply kp;iterate 2 exact rfl)|apply jJ|(apply jE;exact rfl)|(apply jp;exact rfl)|(apply jc;kernel_rfl)|((first|apply kf|apply kn|apply ke|apply kx|apply kc|apply kb);iterate 2 exact rfl)|((first|apply kz|apply ky);(·exact rfl);(·repeat(first|exact iO|exact iR rfl|apply iT));iterate 2 exact rfl)|(apply kg;iterate 2 exact rfl)|(apply kG;iterate 3 exact rfl)|(apply kB;(iterate 2 exact rfl);intro _)|(apply kA;exact rfl;intro _)|(apply Go.Hb.kK;(iterate 4 exact rfl);intro _)|(apply kU;(iterate 2 exact rfl);(·repeat(first|exact sH _ _ _|apply sT));(first|exact nfL_eq rfl|exact rfl);exact rfl)|((first|apply kh|apply kl);(iterate 2 exact rfl);(first|decide|omega);exact rfl)|(apply addX;(iterate 2 exact rfl);(iterate 2(first|omega|(dsimp only;omega)));exact rfl)|((first|(apply kR;iterate 2 exact rfl)|(apply kQ;exact rfl));all_goals(intro hc;try simp only[hcs]at hc;try(exfalso;first|contradiction|omega))))
    (apply ret1; (· exact rfl); intro w' hS)
    refine ⟨?_, hS.toKeep⟩
    rw [show i = (a ++ b).length by simp [hie], List.take_length]
    rfl
end Go.Proofs.Ythmmmbphknoagaa

namespace Go.Proofs.Ythmmmbphknoagaa
open Go.Hb
attribute [local irreducible] LR CW At Ev thn blk finK noG again CallsTo
set_option linter.unusedSimpArgs false
set_option linter.unusedVariables false
set_option maxRecDepth 100000

def usualT : Tk := ⟨4, 1, 1, 9, 5, 3, 20, 0, []⟩
theorem new_usual : newTk 4 1 20 = (⟨4, 1, 1, 0, 0, 0, 20, 0, []⟩, 0) := by decide +kernel
theorem t48 (w : World) : CallsTo Try.prog 48 [] w fun v w' => v = usualT.val none 0 ∧ Grew w w' := by
  refine go_in (n := 12) (St.refl _ NoF) Try.func48 rfl rfl ?_
  repeat'(first|(apply kp;iterate 2 exact rfl)|apply jJ|(apply jE;exact rfl)|(apply jp;exact rfl)|(apply jc;kernel_rfl)|((first|apply kf|apply kn|apply ke|apply kx|apply kc|apply kb);iterate 2 exact rfl)|((first|apply kz|apply ky);(·exact rfl);(·repeat(first|exact iO|exact iR rfl|apply iT));iterate 2 exact rfl)|(apply kg;iterate 2 exact rfl)|(apply kG;iterate 3 exact rfl)|(apply kB;(iterate 2 exact rfl);intro _)|(apply kA;exact rfl;intro _)|(apply Go.Hb.kK;(iterate 4 exact rfl);intro _)|(apply kU;(iterate 2 exact rfl);(·repeat(first|exact sH _ _ _|apply sT));(first|exact nfL_eq rfl|exact rfl);exact rfl)|((first|apply kh|apply kl);(iterate 2 exact rfl);(first|decide|omega);exact rfl)|(apply kq; (· exact rfl); (· intro w1 h1; (have hq := CallsTo.q (t22 4 1 20 w1) h1; rw [new_usual] at hq; exact hq)))|((first|(apply kR;iterate 2 exact rfl)|(apply kQ;exact rfl));all_goals(intro hc;try simp only[hcs]at hc;try(exfalso;first|contradiction|omega))))
  (apply ret1c; (· exact rfl); (· exact inferInstance); (· exact rfl); (· (repeat (first | exact List.Mem.head _ | apply List.Mem.tail))); (· exact rfl); intro w' hS)
  exact ⟨rfl, hS.toKeep⟩
theorem may_u (node aru : Int) (h1 : withinB node 1 8 = true) (h2 : 0 ≤ aru) : mayV usualT node aru = true := by
  have hb : tokB usualT = true := by decide +kernel
  have hh : ¬usualT.hop = 9007199254740991 := by decide
  unfold mayV
  rw [hb, h1]
  simp [h2, hh]
theorem vis_a : visitT usualT 2 4 [5, 7] = ⟨4, 1, 2, 9, 4, 2, 20, 0, [5, 7]⟩ := by
  unfold visitT
  rw [if_pos (may_u _ _ (by decide) (by decide))]
  have e : askV usualT [5, 7] = [5, 7] := by
    have e1 : usualT.ask ++ gapsQ usualT.seq [5, 7] = [5, 7] := by decide +kernel
    unfold askV
    rw [e1, comp_sort_self (by decide)]
    rfl
  rw [e]
  rfl
theorem vis_b : visitT usualT 3 9 [] = ⟨4, 1, 2, 9, 9, 0, 20, 0, []⟩ := by
  unfold visitT
  rw [if_pos (may_u _ _ (by decide) (by decide)), askV_nil (by decide +kernel)]
  rfl
set_option maxHeartbeats 1000000 in
theorem t20 (w : World) : CallsTo Try.prog 20 [] w fun v w' => v = .bool true ∧ Grew w w' := by
  refine go_in (n := 46) (St.refl _ NoF) Try.func20 rfl rfl ?_
  repeat'(first|(apply Go.Hb.kK;(iterate 4 exact rfl);intro bs)|(apply kp;iterate 2 exact rfl)|apply jJ|(apply jE;exact rfl)|(apply jp;exact rfl)|(apply jc;kernel_rfl)|((first|apply kf|apply kn|apply ke|apply kx|apply kc|apply kb);iterate 2 exact rfl)|((first|apply kz|apply ky);(·exact rfl);(·repeat(first|exact iO|exact iR rfl|apply iT));iterate 2 exact rfl)|(apply kg;iterate 2 exact rfl)|(apply kG;iterate 3 exact rfl)|(apply kB;(iterate 2 exact rfl);intro _)|(apply kA;exact rfl;intro _)|(apply Go.Hb.kK;(iterate 4 exact rfl);intro _)|(apply kU;(iterate 2 exact rfl);(·repeat(first|exact sH _ _ _|apply sT));(first|exact nfL_eq rfl|exact rfl);exact rfl)|((first|apply kh|apply kl);(iterate 2 exact rfl);(first|decide|omega);exact rfl)|(apply kq; (· exact rfl); (· intro w1 h1; exact CallsTo.q (t48 w1) h1))|((first|(apply kR;iterate 2 exact rfl)|(apply kQ;exact rfl));all_goals(intro hc;try simp only[hcs]at hc;try(exfalso;first|contradiction|omega))))
  apply LR.call
  · exact rfl
  intro w1 h1
  have h14 := t14 usualT none 0 2 4 (some ⟨bs, 0, none⟩) 2 [5, 7] w1 (Rd.nil _ _) (fun _ => rfl) (by simp [usualT]) (h1.rd_of_blk (by (repeat (first | exact mH _ _ | apply mT)))) (by simp)
  rw [vis_a] at h14
  refine h14.mono ?_
  rintro v w2 ⟨a1, c1, rfl, hn⟩
  refine LR.back (St.newOd h1 hn) ?_
  clear hn h14 h1
  repeat'(first|(apply kp;iterate 2 exact rfl)|apply jJ|(apply jE;exact rfl)|(apply jp;exact rfl)|(apply jc;kernel_rfl)|((first|apply kf|apply kn|apply ke|apply kx|apply kc|apply kb);iterate 2 exact rfl)|((first|apply kz|apply ky);(·exact rfl);(·repeat(first|exact iO|exact iR rfl|apply iT));iterate 2 exact rfl)|(apply kg;iterate 2 exact rfl)|(apply kG;iterate 3 exact rfl)|(apply kB;(iterate 2 exact rfl);intro _)|(apply kA;exact rfl;intro _)|(apply Go.Hb.kK;(iterate 4 exact rfl);intro _)|(apply kU;(iterate 2 exact rfl);(·repeat(first|exact sH _ _ _|apply sT));(first|exact nfL_eq rfl|exact rfl);exact rfl)|((first|apply kh|apply kl);(iterate 2 exact rfl);(first|decide|omega);exact rfl)|(apply kq; (· exact rfl); (· intro w1 h1; exact CallsTo.q (t48 w1) h1))|((first|(apply kR;iterate 2 exact rfl)|(apply kQ;exact rfl));all_goals(intro hc;try simp only[hcs]at hc;try(exfalso;first|contradiction|omega))))
  apply LR.call
  · exact rfl
  intro w1 h1
  have h14 := t14 usualT none 0 3 9 none 0 [] w1 (Rd.nil _ _) (fun _ => rfl) (by simp [usualT]) (Rd.nil _ _) (by simp)
  rw [vis_b] at h14
  refine h14.mono ?_
  rintro v w2 ⟨a2, c2, rfl, hn⟩
  refine LR.back (St.newOd h1 hn) ?_
  clear hn h14 h1
  repeat'(first|(apply Go.Hb.kK;(iterate 4 exact rfl);intro bt)|(apply kp;iterate 2 exact rfl)|apply jJ|(apply jE;exact rfl)|(apply jp;exact rfl)|(apply jc;kernel_rfl)|((first|apply kf|apply kn|apply ke|apply kx|apply kc|apply kb);iterate 2 exact rfl)|((first|apply kz|apply ky);(·exact rfl);(·repeat(first|exact iO|exact iR rfl|apply iT));iterate 2 exact rfl)|(apply kg;iterate 2 exact rfl)|(apply kG;iterate 3 exact rfl)|(apply kB;(iterate 2 exact rfl);intro _)|(apply kA;exact rfl;intro _)|(apply Go.Hb.kK;(iterate 4 exact rfl);intro _)|(apply kU;(iterate 2 exact rfl);(·repeat(first|exact sH _ _ _|apply sT));(first|exact nfL_eq rfl|exact rfl);exact rfl)|((first|apply kh|apply kl);(iterate 2 exact rfl);(first|decide|omega);exact rfl)|(apply kq; (· exact rfl); (· intro w1 h1; first | exact CallsTo.q (t23 3 5 4 w1) h1 | exact CallsTo.q (t19 a1 (some ⟨bt, 0, none⟩) c1 2 [5, 7] [5, 7] w1 (h1.rd_of_odl (by (repeat (first | exact mH _ _ | apply mT)))) (h1.rd_of_blk (by (repeat (first | exact mH _ _ | apply mT)))) (by simp)) h1))|((first|(apply kR;iterate 2 exact rfl)|(apply kQ;exact rfl));all_goals(intro hc;try simp only[hcs]at hc;try(exfalso;first|contradiction|omega))))
  (apply ret1; (· exact rfl); intro w' hS)
  exact ⟨rfl, hS.toKeep⟩
theorem not_take {l : List Int} {n : Int} {i : Nat} (hlt : i < l.length) (heq : n ∉ l.take i) (h : ¬l[i] = n) : n ∉ l.take (i + 1) := by
  rw [List.take_add_one, List.getElem?_eq_getElem hlt, Option.toList_some, List.mem_append, List.mem_singleton]
  rintro (h1 | h1)
  · exact heq h1
  · exact h h1.symm
theorem t47 (a : Option Addr) (ca : Nat) (l : List Int) (n : Int) (w : World) (hr : Rd w a (iv l)) (hm : l.length ≤ 17592186043904) :
    CallsTo Try.prog 47 [.slice a l.length ca, .int .i64 n] w fun v w' => v = .bool (decide (n ∈ l)) ∧ Grew w w' := by
  refine go_in (n := 18) (St.rd1 hr) Try.func47 rfl rfl ?_
  repeat'(first|(apply kp;iterate 2 exact rfl)|apply jJ|(apply jE;exact rfl)|(apply jp;exact rfl)|(apply jc;kernel_rfl)|((first|apply kf|apply kn|apply ke|apply kx|apply kc|apply kb);iterate 2 exact rfl)|((first|apply kz|apply ky);(·exact rfl);(·repeat(first|exact iO|exact iR rfl|apply iT));iterate 2 exact rfl)|(apply kg;iterate 2 exact rfl)|(apply kG;iterate 3 exact rfl)|(apply kB;(iterate 2 exact rfl);intro _)|(apply kA;exact rfl;intro _)|(apply Go.Hb.kK;(iterate 4 exact rfl);intro _)|(apply kU;(iterate 2 exact rfl);(·repeat(first|exact sH _ _ _|apply sT));(first|exact nfL_eq rfl|exact rfl);exact rfl)|((first|apply kh|apply kl);(iterate 2 exact rfl);(first|decide|omega);exact rfl)|((first|(apply kR;iterate 2 exact rfl)|(apply kQ;exact rfl));all_goals(intro hc;try simp only[hcs]at hc;try(exfalso;first|contradiction|omega))))
  apply CW.loop [4, 5, 6, 7, 8, 9, 10, 11, 12, 13, 14, 15, 16, 17] (fun i : Nat => i ≤ l.length ∧ n ∉ l.take i) (fun i : Nat => [(5, Value.int .i64 i)]) (fun i => St w NoF [rdA a (iv l)]) (fun i => l.length - i)
  · exact fun w' hw' => ⟨0, ⟨by omega, by simp⟩, ⟨rfl, trivial⟩, hw'⟩
  intro i g ⟨hi, heq⟩
  by_cases hlt : i < l.length
  · obtain ⟨ba, oa, rfl⟩ := hr.form (fun e => by have := congrArg List.length e; simp at this; subst this; simp at hlt)
    repeat'(first|(apply kp;iterate 2 exact rfl)|apply jJ|(apply jE;exact rfl)|(apply jp;exact rfl)|(apply jc;kernel_rfl)|((first|apply kf|apply kn|apply ke|apply kx|apply kc|apply kb);iterate 2 exact rfl)|((first|apply kz|apply ky);(·exact rfl);(·repeat(first|exact iO|exact iR rfl|apply iT));iterate 2 exact rfl)|(apply kg;iterate 2 exact rfl)|(apply kG;iterate 3 exact rfl)|(apply kB;(iterate 2 exact rfl);intro _)|(apply kA;exact rfl;intro _)|(apply Go.Hb.kK;(iterate 4 exact rfl);intro _)|(apply kU;(iterate 2 exact rfl);(·repeat(first|exact sH _ _ _|apply sT));(first|exact nfL_eq rfl|exact rfl);exact rfl)|((first|apply kh|apply kl);(iterate 2 exact rfl);(first|decide|omega);exact rfl)|(apply idxX;(iterate 2 exact rfl);(iterate 2(first|omega|(dsimp only;omega)));exact rfl)|(apply LR.ev; (· apply Ev.load_rd; (· exact rfl); (· repeat (first | exact mH _ _ | apply mT)); (· exact iv_at (i := i) (by simp) (by omega))); (· exact rfl))|(apply addX;(iterate 2 exact rfl);(iterate 2(first|omega|(dsimp only;omega)));exact rfl)|((first|(apply kR;iterate 2 exact rfl)|(apply kQ;exact rfl));all_goals(intro hc;try simp only[hcs]at hc;try(exfalso;first|contradiction|omega))))
    · (apply ret1; (· exact rfl); intro w' hS)
      refine ⟨congrArg Value.bool ?_, hS.toKeep⟩
      have : n ∈ l := by
        have h : l[i] = n := by assumption
        exact h ▸ List.getElem_mem hlt
      simp [this]
    · have h : ¬l[i] = n := by assumption
      apply At.again (i + 1) ⟨by omega, not_take hlt heq h⟩
      · (repeat (first | exact Out.refl _ _ | exact Out.mix | (apply Out.upd; (· exact rfl)) | (apply Out.updL; (· exact rfl)) | (apply Out.mixs; (· exact rfl))))
      · exact ⟨rfl, trivial⟩
      · exact fun w' hw' => hw'
      · omega
  · have hie : i = l.length := by omega
    subst hie
    repeat'(first|(apply kp;iterate 2 exact rfl)|apply jJ|(apply jE;exact rfl)|(apply jp;exact rfl)|(apply jc;kernel_rfl)|((first|apply kf|apply kn|apply ke|apply kx|apply kc|apply kb);iterate 2 exact rfl)|((first|apply kz|apply ky);(·exact rfl);(·repeat(first|exact iO|exact iR rfl|apply iT));iterate 2 exact rfl)|(apply kg;iterate 2 exact rfl)|(apply kG;iterate 3 exact rfl)|(apply kB;(iterate 2 exact rfl);intro _)|(apply kA;exact rfl;intro _)|(apply Go.Hb.kK;(iterate 4 exact rfl);intro _)|(apply kU;(iterate 2 exact rfl);(·repeat(first|exact sH _ _ _|apply sT));(first|exact nfL_eq rfl|exact rfl);exact rfl)|((first|apply kh|apply kl);(iterate 2 exact rfl);(first|decide|omega);exact rfl)|((first|(apply kR;iterate 2 exact rfl)|(apply kQ;exact rfl));all_goals(intro hc;try simp only[hcs]at hc;try(exfalso;first|contradiction|omega))))
    (apply ret1; (· exact rfl); intro w' hS)
    refine ⟨congrArg Value.bool ?_, hS.toKeep⟩
    rw [List.take_length] at heq
    simp [heq]
end Go.Proofs.Ythmmmbphknoagaa

namespace Go.Proofs.Ythmmmbphknoagaa
open Go.Hb Go.Lib
set_option linter.unusedSimpArgs false
set_option linter.unusedVariables false

def gd (l : List Int) (k : Nat) : Int := l.getD k 0
theorem gd_set {l : List Int} {k : Nat} (x : Int) (j : Nat) (h : k < l.length) : gd (l.set k x) j = if j = k then x else gd l j := by
  unfold gd
  rw [List.getD_eq_getElem?_getD, List.getD_eq_getElem?_getD, List.getElem?_set]
  by_cases e : k = j
  · subst e; simp [h]
  · have : ¬j = k := fun h => e h.symm
    simp [e, this]
theorem gd_get {l : List Int} {k : Nat} (h : k < l.length) : (iv l)[k]? = some (.int .i64 (gd l k)) := by
  unfold gd iv
  simp [h]
theorem iv_set (l : List Int) (k : Nat) (x : Int) : (iv l).set k (.int .i64 x) = iv (l.set k x) := by
  unfold iv; rw [List.map_set]
/-- Node j was visited since node k was, where node c is next. -/
def Vs (k j c : Nat) : Prop := if k < c then k ≤ j ∧ j < c else k ≤ j ∨ j < c
structure SInv (n i : Nat) (al ll sl : List Int) (t : Tk) : Prop where
  n1 : 1 ≤ n
  n8 : n ≤ 8
  la : al.length = 8
  lll : ll.length = 8
  ls : sl.length = 8
  tk : tokB t = true
  hop : t.hop = (i : Int) + 1
  ask : t.ask = []
  seqb : t.seq ≤ 3 * (i : Int)
  ab : ∀ j, j < n → 0 ≤ gd al j ∧ gd al j ≤ t.seq
  sb : ∀ k, k < n → ∀ j, j < n → gd sl k ≤ gd al j
  lb : ∀ k, k < n → gd ll k ≤ t.seq
  pk : ∀ k, k < n → (∀ j, j < n → Vs k j (i % n) → gd ll k ≤ gd al j ∨ t.aru ≤ gd al j) ∧ (gd ll k ≤ t.aru ∨ ∃ m, m < n ∧ t.low = (m : Int) + 1 ∧ Vs k m (i % n))
theorem next_mod {n : Nat} (i : Nat) (h : 1 ≤ n) : (i + 1) % n = if i % n + 1 = n then 0 else i % n + 1 := by
  have h1 := Nat.mod_lt i (show 0 < n by omega)
  split
  · rename_i e
    rw [Nat.add_mod, ← Nat.mod_eq_of_lt h1]
    by_cases h2 : n = 1
    · subst h2; simp [Nat.mod_one]
    · rw [Nat.mod_eq_of_lt (show 1 < n by omega), Nat.mod_eq_of_lt h1, e, Nat.mod_self]
  · rename_i e
    by_cases h2 : n = 1
    · subst h2; simp [Nat.mod_one] at e
    · rw [Nat.add_mod, Nat.mod_eq_of_lt (show 1 < n by omega), Nat.mod_eq_of_lt (by omega)]
def al1 (n i : Nat) (al : List Int) (t : Tk) (y1 : Int) : List Int := al.set (i % n) (if gd al (i % n) + y1 < t.seq then gd al (i % n) + y1 else t.seq)
def sl1 (n i : Nat) (ll sl : List Int) (t : Tk) : List Int := sl.set (i % n) (max (gd sl (i % n)) (min (gd ll (i % n)) t.aru))
def tk1 (t : Tk) (y2 : Int) : Tk := { t with seq := t.seq + y2 }
def al2 (n i : Nat) (al : List Int) (t : Tk) (y1 y2 : Int) : List Int := if gd (al1 n i al t y1) (i % n) = t.seq then (al1 n i al t y1).set (i % n) (t.seq + y2) else al1 n i al t y1
def tk2 (n i : Nat) (al : List Int) (t : Tk) (y1 y2 : Int) : Tk := visitT (tk1 t y2) (1 + ((i % n : Nat) : Int)) (gd (al2 n i al t y1 y2) (i % n)) []
def ll1 (n i : Nat) (al ll : List Int) (t : Tk) (y1 y2 : Int) : List Int := ll.set (i % n) (tk2 n i al t y1 y2).aru
def al3 (n i : Nat) (al : List Int) (t : Tk) (y1 y2 y3 : Int) (jj : Nat) : List Int := (al2 n i al t y1 y2).set jj (if gd (al2 n i al t y1 y2) jj + y3 < (tk2 n i al t y1 y2).seq then gd (al2 n i al t y1 y2) jj + y3 else (tk2 n i al t y1 y2).seq)
theorem tok1 {t : Tk} {y2 : Int} (h : tokB t = true) (ha : t.ask = []) (h2 : 0 ≤ y2) (hb : t.seq + y2 ≤ 9007199254740991) : tokB (tk1 t y2) = true := by
  unfold tokB Tk.headB withinB at h ⊢
  simp only [Bool.and_eq_true, decide_eq_true_eq] at h ⊢
  have e : (tk1 t y2).ask = [] := ha
  refine ⟨⟨⟨⟨⟨⟨⟨⟨h.1.1.1.1.1.1.1.1, h.1.1.1.1.1.1.1.2⟩, ?_⟩, ?_⟩, h.1.1.1.1.2⟩, h.1.1.1.2⟩, h.1.1.2⟩, h.1.2⟩, ?_⟩
  · show 0 ≤ t.seq + y2 ∧ t.seq + y2 ≤ _; omega
  · show 0 ≤ t.aru ∧ t.aru ≤ t.seq + y2; omega
  · rw [e]; rfl
section
variable {n i : Nat} {al ll sl : List Int} {t : Tk} {y1 y2 y3 : Int} {jj : Nat}
theorem SInv.kn (h : SInv n i al ll sl t) : i % n < n := Nat.mod_lt _ h.n1
theorem SInv.k8 (h : SInv n i al ll sl t) : i % n < 8 := Nat.lt_of_lt_of_le h.kn h.n8
theorem al1_ge (h : SInv n i al ll sl t) (hy : 0 ≤ y1) (j : Nat) (hj : j < n) : gd al j ≤ gd (al1 n i al t y1) j ∧ gd (al1 n i al t y1) j ≤ t.seq := by
  unfold al1
  rw [gd_set _ _ (by rw [h.la]; exact h.k8)]
  have a1 := h.ab j hj
  split
  · rename_i e; subst e
    split <;> omega
  · omega
theorem al1_len (h : SInv n i al ll sl t) : (al1 n i al t y1).length = 8 := by unfold al1; rw [List.length_set, h.la]
theorem safe_ok (h : SInv n i al ll sl t) (hy : 0 ≤ y1) (j : Nat) (hj : j < n) : gd (sl1 n i ll sl t) (i % n) ≤ gd (al1 n i al t y1) j := by
  unfold sl1
  rw [gd_set _ _ (by rw [h.ls]; exact h.k8), if_pos rfl]
  have a1 := al1_ge h hy j hj
  have a2 := h.sb (i % n) h.kn j hj
  have a3 := (h.pk (i % n) h.kn).1 j hj (by unfold Vs; rw [if_neg (by omega)]; omega)
  omega
theorem al2_len (h : SInv n i al ll sl t) : (al2 n i al t y1 y2).length = 8 := by
  unfold al2; split
  · rw [List.length_set, al1_len h]
  · exact al1_len h
theorem al2_ge (h : SInv n i al ll sl t) (hy : 0 ≤ y1) (hy2 : 0 ≤ y2) (j : Nat) (hj : j < n) : gd al j ≤ gd (al2 n i al t y1 y2) j ∧ gd (al2 n i al t y1 y2) j ≤ t.seq + y2 ∧ gd (al1 n i al t y1) j ≤ gd (al2 n i al t y1 y2) j := by
  have a1 := al1_ge h hy j hj
  unfold al2
  split
  · rw [gd_set _ _ (by rw [al1_len h]; exact h.k8)]
    split
    · rename_i e; subst e; omega
    · omega
  · omega
theorem may_ok (h : SInv n i al ll sl t) (hi : i < 200) (hy : 0 ≤ y1) (hy2 : 0 ≤ y2) (h3 : y2 ≤ 3) : mayV (tk1 t y2) (1 + ((i % n : Nat) : Int)) (gd (al2 n i al t y1 y2) (i % n)) = true := by
  have hs := h.seqb
  have hh := h.hop
  have hk := h.k8
  have a1 := al2_ge (y1 := y1) (y2 := y2) h hy hy2 _ h.kn
  have a2 := h.ab _ h.kn
  unfold mayV
  rw [tok1 h.tk h.ask hy2 (by omega)]
  have e : (tk1 t y2).hop = t.hop := rfl
  rw [e, hh]
  unfold withinB
  simp
  omega
theorem tk2_eq (h : SInv n i al ll sl t) (hi : i < 200) (hy : 0 ≤ y1) (hy2 : 0 ≤ y2) (h3 : y2 ≤ 3) :
    tk2 n i al t y1 y2 = ⟨t.r1, t.r2, t.hop + 1, t.seq + y2, (aruV (tk1 t y2) (1 + ((i % n : Nat) : Int)) (gd (al2 n i al t y1 y2) (i % n))).1, (aruV (tk1 t y2) (1 + ((i % n : Nat) : Int)) (gd (al2 n i al t y1 y2) (i % n))).2, t.stamp, t.idle, []⟩ := by
  have hs := h.seqb
  unfold tk2 visitT
  rw [if_pos (may_ok h hi hy hy2 h3), askV_nil (tok1 h.tk h.ask hy2 (by omega))]
  show _ = _
  rw [show (tk1 t y2).ask = [] from h.ask]
  rfl
theorem aru_cases (h : SInv n i al ll sl t) (hi : i < 200) (hy : 0 ≤ y1) (hy2 : 0 ≤ y2) (h3 : y2 ≤ 3) :
    ((gd (al2 n i al t y1 y2) (i % n) < t.aru ∨ t.low = 1 + ((i % n : Nat) : Int) ∨ t.low = 0) ∧ (tk2 n i al t y1 y2).aru = gd (al2 n i al t y1 y2) (i % n) ∧ (tk2 n i al t y1 y2).low = (if gd (al2 n i al t y1 y2) (i % n) = t.seq + y2 then 0 else 1 + ((i % n : Nat) : Int))) ∨
    (¬(gd (al2 n i al t y1 y2) (i % n) < t.aru ∨ t.low = 1 + ((i % n : Nat) : Int) ∨ t.low = 0) ∧ (tk2 n i al t y1 y2).aru = t.aru ∧ (tk2 n i al t y1 y2).low = t.low) := by
  rw [tk2_eq h hi hy hy2 h3]
  have a1 := al2_ge (y1 := y1) (y2 := y2) h hy hy2 _ h.kn
  generalize gd (al2 n i al t y1 y2) (i % n) = a at a1 ⊢
  unfold aruV
  show (_ ∧ (if a < t.aru ∨ t.low = 1 + ((i % n : Nat) : Int) ∨ t.low = 0 then (if t.seq + y2 < a then t.seq + y2 else a, if (if t.seq + y2 < a then t.seq + y2 else a) = t.seq + y2 then 0 else 1 + ((i % n : Nat) : Int)) else (t.aru, t.low)).1 = a ∧ (if a < t.aru ∨ t.low = 1 + ((i % n : Nat) : Int) ∨ t.low = 0 then (if t.seq + y2 < a then t.seq + y2 else a, if (if t.seq + y2 < a then t.seq + y2 else a) = t.seq + y2 then 0 else 1 + ((i % n : Nat) : Int)) else (t.aru, t.low)).2 = _) ∨ (_ ∧ (if a < t.aru ∨ t.low = 1 + ((i % n : Nat) : Int) ∨ t.low = 0 then (if t.seq + y2 < a then t.seq + y2 else a, if (if t.seq + y2 < a then t.seq + y2 else a) = t.seq + y2 then 0 else 1 + ((i % n : Nat) : Int)) else (t.aru, t.low)).1 = _ ∧ (if a < t.aru ∨ t.low = 1 + ((i % n : Nat) : Int) ∨ t.low = 0 then (if t.seq + y2 < a then t.seq + y2 else a, if (if t.seq + y2 < a then t.seq + y2 else a) = t.seq + y2 then 0 else 1 + ((i % n : Nat) : Int)) else (t.aru, t.low)).2 = _)
  have e : (if t.seq + y2 < a then t.seq + y2 else a) = a := by split <;> omega
  rw [e]
  by_cases hc : a < t.aru ∨ t.low = 1 + ((i % n : Nat) : Int) ∨ t.low = 0
  · rw [if_pos hc]; exact .inl ⟨hc, rfl, rfl⟩
  · rw [if_neg hc]; exact .inr ⟨hc, rfl, rfl⟩
theorem SInv.step (h : SInv n i al ll sl t) (hi : i < 200) (hy : 0 ≤ y1) (hy2 : 0 ≤ y2) (h3 : y2 ≤ 3) (hy3 : 0 ≤ y3) (hjj : jj < n) :
    SInv n (i + 1) (al3 n i al t y1 y2 y3 jj) (ll1 n i al ll t y1 y2) (sl1 n i ll sl t) (tk2 n i al t y1 y2) := by
  have hE := tk2_eq (y1 := y1) (y2 := y2) h hi hy hy2 h3
  have hC := aru_cases (y1 := y1) (y2 := y2) h hi hy hy2 h3
  have hV : tokB (tk2 n i al t y1 y2) = true := (tokB_visit (g := []) (may_ok (y1 := y1) (y2 := y2) h hi hy hy2 h3)).1
  have hseq : (tk2 n i al t y1 y2).seq = t.seq + y2 := by rw [hE]
  have hsb := h.seqb
  have hn1 := h.n1
  have hn8 := h.n8
  have hkn := h.kn
  have h3ge : ∀ j, j < n → gd (al2 n i al t y1 y2) j ≤ gd (al3 n i al t y1 y2 y3 jj) j ∧ gd (al3 n i al t y1 y2 y3 jj) j ≤ t.seq + y2 := by
    intro j hj
    have a1 := al2_ge (y1 := y1) (y2 := y2) h hy hy2 j hj
    unfold al3
    rw [gd_set _ _ (by rw [al2_len h]; omega), hseq]
    split
    · rename_i e; subst e
      split <;> omega
    · omega
  refine ⟨h.n1, h.n8, by unfold al3; rw [List.length_set, al2_len h], by unfold ll1; rw [List.length_set, h.lll], by unfold sl1; rw [List.length_set, h.ls], hV, ?_, ?_, ?_, ?_, ?_, ?_, ?_⟩
  · rw [hE]; show t.hop + 1 = _; rw [h.hop]; omega
  · rw [hE]
  · rw [hseq]; omega
  · intro j hj
    rw [hseq]
    have a1 := al2_ge (y1 := y1) (y2 := y2) h hy hy2 j hj
    have a2 := h.ab j hj
    have a3 := h3ge j hj
    omega
  · intro k hk j hj
    have a1 := al2_ge (y1 := y1) (y2 := y2) h hy hy2 j hj
    have a3 := h3ge j hj
    by_cases e : k = i % n
    · subst e
      have := safe_ok (y1 := y1) h hy j hj
      omega
    · unfold sl1
      rw [gd_set _ _ (by rw [h.ls]; exact h.k8), if_neg e]
      have := h.sb k hk j hj
      omega
  · intro k hk
    rw [hseq]
    unfold ll1
    rw [gd_set _ _ (by rw [h.lll]; exact h.k8)]
    have a1 := al2_ge (y1 := y1) (y2 := y2) h hy hy2 _ h.kn
    have a2 := h.lb k hk
    have a3 := (tok_bd (t := t) (by unfold tokE; rw [if_pos h.tk]))
    split
    · rcases hC with ⟨_, e, _⟩ | ⟨_, e, _⟩ <;> rw [e] <;> omega
    · omega
  · intro k hk
    rw [next_mod i hn1]
    have b1 := al2_ge (y1 := y1) (y2 := y2) h hy hy2 _ h.kn
    have b3 := h3ge _ h.kn
    have hA : (tk2 n i al t y1 y2).aru ≤ gd (al2 n i al t y1 y2) (i % n) := by
      rcases hC with ⟨_, e, _⟩ | ⟨hn, e, _⟩ <;> rw [e] <;> omega
    unfold ll1
    rw [gd_set _ _ (by rw [h.lll]; exact h.k8)]
    by_cases ek : k = i % n
    · rw [if_pos ek]
      refine ⟨fun j hj hv => .inl ?_, .inl (Int.le_refl _)⟩
      have : j = i % n := by
        unfold Vs at hv
        subst ek
        generalize i % n = c at *
        split at hv <;> split at hv <;> omega
      rw [this]
      omega
    · rw [if_neg ek]
      obtain ⟨p1, p2⟩ := h.pk k hk
      refine ⟨fun j hj hv => ?_, ?_⟩
      · by_cases ej : j = i % n
        · rw [ej]; exact .inr (by omega)
        · have c1 := al2_ge (y1 := y1) (y2 := y2) h hy hy2 j hj
          have c3 := h3ge j hj
          have hv' : Vs k j (i % n) := by
            unfold Vs at hv ⊢
            generalize i % n = c at *
            split at hv <;> split at hv <;> split <;> omega
          rcases p1 j hj hv' with q | q
          · exact .inl (by omega)
          · rcases hC with ⟨hb, e, _⟩ | ⟨_, e, _⟩
            · rw [e]
              by_cases hle : gd (al2 n i al t y1 y2) (i % n) ≤ t.aru
              · exact .inr (by omega)
              · rcases p2 with q2 | ⟨m, hm, hlow, hvm⟩
                · exact .inl (by omega)
                · exfalso
                  have : m = i % n := by omega
                  unfold Vs at hvm
                  split at hvm <;> omega
            · rw [e]; exact .inr (by omega)
      · rcases hC with ⟨hb, e, el⟩ | ⟨_, e, el⟩
        · rw [e, el]
          by_cases hle : gd ll k ≤ gd (al2 n i al t y1 y2) (i % n)
          · exact .inl hle
          · have a2 := h.lb k hk
            rw [if_neg (by omega)]
            refine .inr ⟨i % n, hkn, by omega, ?_⟩
            unfold Vs
            split <;> split <;> omega
        · rw [e, el]
          rcases p2 with q2 | ⟨m, hm, hlow, hvm⟩
          · exact .inl q2
          · refine .inr ⟨m, hm, hlow, ?_⟩
            unfold Vs at hvm ⊢
            split at hvm <;> split <;> split <;> omega
end
end Go.Proofs.Ythmmmbphknoagaa

namespace Go.Proofs.Ythmmmbphknoagaa
open Go.Hb
attribute [local irreducible] LR CW At Ev thn blk finK noG again CallsTo DW QL dnext
set_option linter.unusedSimpArgs false
set_option linter.unusedVariables false
set_option maxRecDepth 100000

def bringT (i n : Int) : Int := if n ≤ 0 then 0 else if i.tmod n < 0 then i.tmod n + n else i.tmod n
theorem tmod_bdT (i n : Int) (h : 0 < n) : -n < i.tmod n ∧ i.tmod n < n := by
  have h1 := Int.tmod_lt_of_pos i h
  have h2 := Int.tmod_lt_of_pos (-i) h
  rw [Int.neg_tmod] at h2
  omega
theorem bringT_bd (i n : Int) (h : 0 < n) : 0 ≤ bringT i n ∧ bringT i n < n := by
  have := tmod_bdT i n h
  unfold bringT; rw [if_neg (by omega)]; split <;> omega
theorem t21 (i n : Int) (w : World) (hn : n ≤ 9223372036854775807) : CallsTo Try.prog 21 [.int .i64 i, .int .i64 n] w fun v w' => v = .int .i64 (bringT i n) ∧ Grew w w' := by
  refine go_in (n := 16) (St.refl _ NoF) Try.func21 rfl rfl ?_
  by_cases h : n ≤ 0
  · repeat'(first|(apply kp;iterate 2 exact rfl)|apply jJ|(apply jE;exact rfl)|(apply jp;exact rfl)|(apply jc;kernel_rfl)|((first|apply kf|apply kn|apply ke|apply kx|apply kc|apply kb);iterate 2 exact rfl)|((first|apply kz|apply ky);(·exact rfl);(·repeat(first|exact iO|exact iR rfl|apply iT));iterate 2 exact rfl)|(apply kg;iterate 2 exact rfl)|(apply kG;iterate 3 exact rfl)|(apply kB;(iterate 2 exact rfl);intro _)|(apply kA;exact rfl;intro _)|(apply Go.Hb.kK;(iterate 4 exact rfl);intro _)|(apply kU;(iterate 2 exact rfl);(·repeat(first|exact sH _ _ _|apply sT));(first|exact nfL_eq rfl|exact rfl);exact rfl)|((first|apply kh|apply kl);(iterate 2 exact rfl);(first|decide|omega);exact rfl)|((first|(apply kR;iterate 2 exact rfl)|(apply kQ;exact rfl));all_goals(intro hc;try simp only[hcs]at hc;try(exfalso;first|contradiction|omega))))
    (apply ret1; (· exact rfl); intro w' hS)
    exact ⟨congrArg (Value.int .i64) (by unfold bringT; rw [if_pos h]), hS⟩
  · have hb := tmod_bdT i n (by omega)
    repeat'(first|(apply kp;iterate 2 exact rfl)|apply jJ|(apply jE;exact rfl)|(apply jp;exact rfl)|(apply jc;kernel_rfl)|((first|apply kf|apply kn|apply ke|apply kx|apply kc|apply kb);iterate 2 exact rfl)|((first|apply kz|apply ky);(·exact rfl);(·repeat(first|exact iO|exact iR rfl|apply iT));iterate 2 exact rfl)|(apply kg;iterate 2 exact rfl)|(apply kG;iterate 3 exact rfl)|(apply kB;(iterate 2 exact rfl);intro _)|(apply kA;exact rfl;intro _)|(apply Go.Hb.kK;(iterate 4 exact rfl);intro _)|(apply kU;(iterate 2 exact rfl);(·repeat(first|exact sH _ _ _|apply sT));(first|exact nfL_eq rfl|exact rfl);exact rfl)|((first|apply kh|apply kl);(iterate 2 exact rfl);(first|decide|omega);exact rfl)|(apply LR.ev; (· apply Ev.rem; (· exact rfl); (· exact rfl); (· first | decide | omega)); (· exact rfl))|(apply addX;(iterate 2 exact rfl);(iterate 2(first|omega|(dsimp only;omega)));exact rfl)|((first|(apply kR;iterate 2 exact rfl)|(apply kQ;exact rfl));all_goals(intro hc;try simp only[hcs]at hc;try(exfalso;first|contradiction|omega))))
    all_goals (
      (apply ret1; (· exact rfl); intro w' hS)
      refine ⟨congrArg (Value.int .i64) ?_, hS⟩
      unfold bringT; rw [if_neg h]
      first | rw [if_pos (by omega)] | rw [if_neg (by omega)])
theorem and_bd (z : Int) (m : Nat) (h : m < 1000000) : 0 ≤ andI .i64 z (m : Int) ∧ andI .i64 z (m : Int) ≤ m := by
  unfold andI
  have e : (BitVec.ofInt IntKind.i64.bits (m : Int)).toNat = m := by
    show (BitVec.ofInt 64 (m : Int)).toNat = m
    rw [BitVec.toNat_ofInt]
    omega
  have h1 : (BitVec.ofInt IntKind.i64.bits z &&& BitVec.ofInt IntKind.i64.bits (m : Int)).toNat ≤ m := by
    rw [BitVec.toNat_and, e]
    exact Nat.and_le_right
  rw [wrap_i64 (by omega) (by omega)]
  omega
theorem new_one : newTk 1 1 0 = (⟨1, 1, 1, 0, 0, 0, 0, 0, []⟩, 0) := by decide +kernel
abbrev arI (b : Nat) (l : List Int) : Asrt := .own b (.cells (iv l).toArray 41 (0, 0))
abbrev tkI (b : Nat) (t : Tk) (a : Option Addr) (c : Nat) : Asrt := .own b (.cells (t.cells a c).toArray 26 (0, 0))
def lset (i : Nat) : List Int := List.replicate i (-1) ++ List.replicate (8 - i) 0
theorem splice_one1 (cs : List Value) (i : Nat) (v : Value) (h : i < cs.length) : splice cs i [v] = cs.set i v := by
  unfold splice
  rw [List.set_eq_take_append_cons_drop, if_pos h]
  simp
theorem Stores_arr {P : Program} {b q i : Nat} {T E : TypeId} {v : Value} {cs : List Value} (h : Sz P T 1) (hv : v.cells = [v].toArray) (h1 : Value.oneCell' v = true) (hq : q = i) (hi : i < cs.length) :
    Stores P T ⟨b, q, none⟩ v (.own b (.cells cs.toArray E (0, 0))) (.own b (.cells (cs.set i v).toArray E (0, 0))) := by
  subst hq
  have := Stores.own (P := P) (T := T) (b := b) (o := q) (v := v) (cs := cs) (vs := [v]) (E := E) h hv (by simp [h1]) rfl (by simp; omega)
  rwa [splice_one1 _ _ _ hi] at this
theorem st_arr {b k q : Nat} {x : Int} {l : List Int} (hq : q = k) (h : k < l.length) : Stores Try.prog 3 ⟨b, q, none⟩ (.int .i64 x) (.own b (.cells (iv l).toArray 41 (0, 0))) (.own b (.cells (iv (l.set k x)).toArray 41 (0, 0))) := by
  have := Stores_arr (P := Try.prog) (T := 3) (E := 41) (b := b) (q := q) (i := k) (v := .int .i64 x) (cs := iv l) inferInstance rfl rfl hq (by simpa using h)
  rwa [iv_set] at this
theorem cellI {w0 w : World} {F : Nat → Prop} {L : List Asrt} {b q k : Nat} {l : List Int} {E : TypeId} {fr : Nat × Nat} (h : St w0 F L w) (hm : Asrt.own b (.cells (iv l).toArray E fr) ∈ L) (hq : q = k) (hk : k < l.length) : w.cell? ⟨b, q, none⟩ = some (.int .i64 (gd l k)) := by
  subst hq
  rw [cell_own (show w.heap[b]? = some (.cells (iv l).toArray E fr) from h.holds _ hm)]
  simpa using gd_get hk
theorem lset_succ {i : Nat} (h : i < 8) : (lset i).set i (-1) = lset (i + 1) := by
  have : i = 0 ∨ i = 1 ∨ i = 2 ∨ i = 3 ∨ i = 4 ∨ i = 5 ∨ i = 6 ∨ i = 7 := by omega
  rcases this with rfl | rfl | rfl | rfl | rfl | rfl | rfl | rfl <;> rfl
theorem lset_len {i : Nat} (h : i ≤ 8) : (lset i).length = 8 := by unfold lset; simp; omega
theorem gd_lset {i j : Nat} (h : j < i) : gd (lset i) j = -1 := by
  unfold gd lset
  rw [List.getD_eq_getElem?_getD, List.getElem?_append_left (by simpa using h)]
  simp [h]
theorem gd_zeros (j : Nat) : gd (List.replicate 8 0) j = 0 := by
  unfold gd
  rw [List.getD_eq_getElem?_getD, List.getElem?_replicate]
  split <;> rfl
def tokZ : Tk := ⟨1, 1, 1, 0, 0, 0, 0, 0, []⟩
theorem SInv.start {n : Nat} (h1 : 1 ≤ n) (h8 : n ≤ 8) : SInv n 0 (List.replicate 8 0) (lset n) (List.replicate 8 0) tokZ := by
  refine ⟨h1, h8, rfl, lset_len h8, rfl, by decide +kernel, rfl, rfl, by decide, fun j _ => ?_, fun k _ j _ => ?_, fun k hk => ?_, fun k hk => ⟨fun j _ _ => .inl ?_, .inl ?_⟩⟩
  · rw [gd_zeros]; decide
  · rw [gd_zeros, gd_zeros]; decide
  · rw [gd_lset hk]; decide
  · rw [gd_lset hk, gd_zeros]; decide
  · rw [gd_lset hk]; decide
theorem q1 (k : Nat) : 0 + (k : Int).toNat * 1 = k := by simp
theorem and_3 (z : Int) : 0 ≤ andI .i64 z 3 ∧ andI .i64 z 3 ≤ 3 := and_bd z 3 (by decide)
theorem and_7 (z : Int) : 0 ≤ andI .i64 z 7 ∧ andI .i64 z 7 ≤ 7 := and_bd z 7 (by decide)
theorem and_7n (z : Int) : ∃ q : Nat, andI .i64 z 7 = (q : Int) := ⟨(andI .i64 z 7).toNat, by have := and_7 z; omega⟩
theorem addA3 {P : Program} {C : World → Prop} {f : Frm} {T T' T'' : TypeId} {x y : Operand} {a z : Int} (hx : f.ev x = .int .i64 a) (hy : f.ev y = .int .i64 (andI .i64 z 3)) (h1 : 0 ≤ a) (h2 : a ≤ 9007199254740991) :
    Ev P C f (.binOp .add T' x y T'') T (.int .i64 (a + andI .i64 z 3)) := by
  have := and_3 z
  exact Ev.add hx hy (by omega) (by omega)
theorem st_tok {b : Nat} {t t' : Tk} {a a' : Option Addr} {c c' : Nat} : Stores Try.prog 26 ⟨b, 0, none⟩ (t'.val a' c') (tkI b t a c) (tkI b t' a' c') :=
  Stores.own (P := Try.prog) (T := 26) (b := b) (o := 0) (v := t'.val a' c') (cs := t.cells a c) (vs := t'.cells a' c') (E := 26) inferInstance rfl rfl rfl (by simp [Tk.cells])
theorem ownsAt_nz {w : World} {E : TypeId} {sz n c : Nat} {a : Option Addr} {xs : List Value} (h : ownsAt w E sz (.slice a n c) n xs) (e : a = none) : c = 0 := by
  rcases h.2 with ⟨he, hn⟩ | ⟨g, o, cap, cur, he, _⟩
  · simp only [Value.slice.injEq] at he
    exact he.2.2
  · simp only [Value.slice.injEq] at he
    rw [he.1] at e
    cases e
structure Sst where
  i : Nat
  al : List Int
  ll : List Int
  sl : List Int
  t : Tk
  a : Option Addr
  c : Nat
set_option maxHeartbeats 4000000 in
theorem t4 (nodes : Int) (a : Option Addr) (c : Nat) (l : List Int) (w : World) (hr : Rd w a (iv l)) (hm : l.length ≤ 17592186043904) :
    CallsTo Try.prog 4 [.int .i64 nodes, .slice a l.length c] w fun v w' => v = .bool true ∧ Grew w w' := by
  refine go_in (n := 146) (St.rd1 hr) Try.func4 rfl rfl ?_
  obtain ⟨n, hn1, hn8, hb⟩ : ∃ n : Nat, 1 ≤ n ∧ n ≤ 8 ∧ bringT nodes 8 = ((n - 1 : Nat) : Int) := by
    have := bringT_bd nodes 8 (by omega)
    exact ⟨(bringT nodes 8).toNat + 1, by omega, by omega, by omega⟩
  repeat'(first|(apply kp;iterate 2 exact rfl)|apply jJ|(apply jE;exact rfl)|(apply jp;exact rfl)|(apply jc;kernel_rfl)|((first|apply kf|apply kn|apply ke|apply kx|apply kc|apply kb);iterate 2 exact rfl)|((first|apply kz|apply ky);(·exact rfl);(·repeat(first|exact iO|exact iR rfl|apply iT));iterate 2 exact rfl)|(apply kg;iterate 2 exact rfl)|(apply kG;iterate 3 exact rfl)|(apply kB;(iterate 2 exact rfl);intro _)|(apply kA;exact rfl;intro _)|(apply Go.Hb.kK;(iterate 4 exact rfl);intro _)|(apply kU;(iterate 2 exact rfl);(·repeat(first|exact sH _ _ _|apply sT));(first|exact nfL_eq rfl|exact rfl);exact rfl)|((first|apply kh|apply kl);(iterate 2 exact rfl);(first|decide|omega);exact rfl)|(apply kq; (· exact rfl); (· intro w1 h1; first | exact CallsTo.q (t20 w1) h1 | (have hq := CallsTo.q (t21 nodes 8 w1 (by omega)) h1; rw [hb] at hq; exact hq) | (have hq := CallsTo.q (t22 1 1 0 w1) h1; rw [new_one] at hq; exact hq)))|(apply LR.ev; (· apply addQ (a := 1) (b := n - 1) (q := n); (· omega); (· exact rfl); (· exact rfl); (· omega)); (· exact rfl))|((first|(apply kR;iterate 2 exact rfl)|(apply kQ;exact rfl));all_goals(intro hc;try simp only[hcs]at hc;try(exfalso;first|contradiction|omega))))
  rename_i b6 b8 b9 b10
  apply CW.loop [11, 30, 31, 32, 33, 34, 35, 36] (fun i : Nat => i ≤ n) (fun i => [(11, .int .i64 (i : Int))]) (fun i => St w NoF [arI b10 (List.replicate 8 0), arI b9 (lset i), arI b8 (List.replicate 8 0), tkI b6 tokZ none 0, rdA a (iv l)]) (fun i => n - i)
  · exact fun w' hw' => ⟨0, by omega, ⟨rfl, trivial⟩, hw'⟩
  intro i g hi
  by_cases hlt : i < n
  · repeat'(first|(apply kp;iterate 2 exact rfl)|apply jJ|(apply jE;exact rfl)|(apply jp;exact rfl)|(apply jc;kernel_rfl)|((first|apply kf|apply kn|apply ke|apply kx|apply kc|apply kb);iterate 2 exact rfl)|((first|apply kz|apply ky);(·exact rfl);(·repeat(first|exact iO|exact iR rfl|apply iT));iterate 2 exact rfl)|(apply kg;iterate 2 exact rfl)|(apply kG;iterate 3 exact rfl)|(apply kB;(iterate 2 exact rfl);intro _)|(apply kA;exact rfl;intro _)|(apply Go.Hb.kK;(iterate 4 exact rfl);intro _)|(apply kU;(iterate 2 exact rfl);(·repeat(first|exact sH _ _ _|apply sT));(first|exact nfL_eq rfl|exact rfl);exact rfl)|((first|apply kh|apply kl);(iterate 2 exact rfl);(first|decide|omega);exact rfl)|(apply LR.ev; (· apply Ev.indexArr; (· exact rfl); (· exact rfl); (· first | decide | omega | (dsimp only; omega)); (· first | decide | omega | (dsimp only; omega))); (· exact rfl))|((first|(apply kR;iterate 2 exact rfl)|(apply kQ;exact rfl));all_goals(intro hc;try simp only[hcs]at hc;try(exfalso;first|contradiction|omega))))
    refine LR.store_obj (v := .int .i64 (-1)) (z := arI b9 (lset i)) (z' := arI b9 ((lset i).set i (-1))) rfl rfl (by (repeat (first | exact sH _ _ _ | apply sT))) rfl (st_arr (by simp) (by rw [lset_len (by omega)]; omega)) (Asrt.dep_own _ _) ?_
    repeat'(first|(apply kp;iterate 2 exact rfl)|apply jJ|(apply jE;exact rfl)|(apply jp;exact rfl)|(apply jc;kernel_rfl)|((first|apply kf|apply kn|apply ke|apply kx|apply kc|apply kb);iterate 2 exact rfl)|((first|apply kz|apply ky);(·exact rfl);(·repeat(first|exact iO|exact iR rfl|apply iT));iterate 2 exact rfl)|(apply kg;iterate 2 exact rfl)|(apply kG;iterate 3 exact rfl)|(apply kB;(iterate 2 exact rfl);intro _)|(apply kA;exact rfl;intro _)|(apply Go.Hb.kK;(iterate 4 exact rfl);intro _)|(apply kU;(iterate 2 exact rfl);(·repeat(first|exact sH _ _ _|apply sT));(first|exact nfL_eq rfl|exact rfl);exact rfl)|((first|apply kh|apply kl);(iterate 2 exact rfl);(first|decide|omega);exact rfl)|(apply addX;(iterate 2 exact rfl);(iterate 2(first|omega|(dsimp only;omega)));exact rfl)|((first|(apply kR;iterate 2 exact rfl)|(apply kQ;exact rfl));all_goals(intro hc;try simp only[hcs]at hc;try(exfalso;first|contradiction|omega))))
    apply At.again (i + 1) (by omega)
    · (repeat (first | exact Out.refl _ _ | exact Out.mix | (apply Out.upd; (· exact rfl)) | (apply Out.updL; (· exact rfl)) | (apply Out.mixs; (· exact rfl))))
    · exact ⟨rfl, trivial⟩
    · intro w' hw'
      rw [lset_succ (by omega)] at hw'
      exact hw'
    · omega
  have hie : n = i := by omega
  subst hie
  clear hi hlt
  repeat'(first|(apply kp;iterate 2 exact rfl)|apply jJ|(apply jE;exact rfl)|(apply jp;exact rfl)|(apply jc;kernel_rfl)|((first|apply kf|apply kn|apply ke|apply kx|apply kc|apply kb);iterate 2 exact rfl)|((first|apply kz|apply ky);(·exact rfl);(·repeat(first|exact iO|exact iR rfl|apply iT));iterate 2 exact rfl)|(apply kg;iterate 2 exact rfl)|(apply kG;iterate 3 exact rfl)|(apply kB;(iterate 2 exact rfl);intro _)|(apply kA;exact rfl;intro _)|(apply Go.Hb.kK;(iterate 4 exact rfl);intro _)|(apply kU;(iterate 2 exact rfl);(·repeat(first|exact sH _ _ _|apply sT));(first|exact nfL_eq rfl|exact rfl);exact rfl)|((first|apply kh|apply kl);(iterate 2 exact rfl);(first|decide|omega);exact rfl)|((first|(apply kR;iterate 2 exact rfl)|(apply kQ;exact rfl));all_goals(intro hc;try simp only[hcs]at hc;try(exfalso;first|contradiction|omega))))
  apply CW.loop [4, 12, 13, 14, 15, 16, 17, 37, 38, 39, 40, 41, 42, 43, 44, 45, 46, 47, 48, 49, 50, 51, 52, 53, 54, 55, 56, 57, 58, 59, 60, 61, 62, 63, 64, 65, 66, 67, 68, 69, 70, 71, 72, 73, 74, 75, 76, 77, 78, 79, 80, 81, 82, 83, 84, 85, 86, 87, 88, 89, 90, 91, 92, 93, 94, 95, 96, 97, 98, 99, 100, 101, 102, 103, 104, 105, 106, 107, 108, 109, 110, 111, 112, 113, 114, 115, 116, 117, 118, 119, 120, 121, 122, 123, 124, 125, 126, 127, 128, 129, 130, 131, 132, 133, 134, 135, 136, 137, 138, 139, 140, 141, 142, 143, 144, 145] (fun s : Sst => s.i ≤ 200 ∧ s.i ≤ l.length ∧ SInv n s.i s.al s.ll s.sl s.t ∧ (s.a = none → s.c = 0)) (fun s => [(12, .int .i64 (s.i : Int))])
    (fun s => St w NoF [arI b10 s.sl, arI b9 s.ll, arI b8 s.al, tkI b6 s.t s.a s.c, rdA a (iv l)]) (fun s => 200 - s.i)
  · exact fun w' hw' => ⟨⟨0, List.replicate 8 0, lset n, List.replicate 8 0, tokZ, none, 0⟩, ⟨by simp, by simp, SInv.start hn1 hn8, fun _ => rfl⟩, ⟨rfl, trivial⟩, hw'⟩
  rintro ⟨i, al, ll, sl, t, a', c'⟩ g1 ⟨h200, hil, hS, hz⟩
  simp only at h200 hil hS hz ⊢
  by_cases hlt : i < l.length ∧ i < 200
  · obtain ⟨hlt, hl2⟩ := hlt
    obtain ⟨bl, ol, rfl⟩ := hr.form (fun e => by have := congrArg List.length e; simp at this; subst this; simp at hlt)
    have hla := hS.la
    have hlll := hS.lll
    have hls := hS.ls
    have hk8 := hS.k8
    have hkn := hS.kn
    have hab := hS.ab (i % n) hkn
    have hsq := hS.seqb
    repeat'(first|(apply CW.reg_sinkC 11; (· exact rfl); (· decide +kernel))|(apply kp;iterate 2 exact rfl)|apply jJ|(apply jE;exact rfl)|(apply jp;exact rfl)|(apply jc;kernel_rfl)|((first|apply kf|apply kn|apply ke|apply kx|apply kc|apply kb);iterate 2 exact rfl)|((first|apply kz|apply ky);(·exact rfl);(·repeat(first|exact iO|exact iR rfl|apply iT));iterate 2 exact rfl)|(apply kg;iterate 2 exact rfl)|(apply kG;iterate 3 exact rfl)|(apply kB;(iterate 2 exact rfl);intro _)|(apply kA;exact rfl;intro _)|(apply Go.Hb.kK;(iterate 4 exact rfl);intro _)|(apply kU;(iterate 2 exact rfl);(·repeat(first|exact sH _ _ _|apply sT));(first|exact nfL_eq rfl|exact rfl);exact rfl)|((first|apply kh|apply kl);(iterate 2 exact rfl);(first|decide|omega);exact rfl)|(apply idxX;(iterate 2 exact rfl);(iterate 2(first|omega|(dsimp only;omega)));exact rfl)|(apply LR.ev; (· apply Ev.load_rd; (· exact rfl); (· repeat (first | exact mH _ _ | apply mT)); (· exact iv_at (i := i) (by simp) (by omega))); (· exact rfl))|(apply LR.ev; (· apply remQ (a := i) (b := n) (q := i % n) rfl; (· exact rfl); (· exact rfl); (· omega)); (· exact rfl))|((first|(apply kR;iterate 2 exact rfl)|(apply kQ;exact rfl));all_goals(intro hc;try simp only[hcs]at hc;try(exfalso;first|contradiction|omega))))
    generalize andI IntKind.i64 l[i] 65535 = x
    all_goals (
      apply DW.quiet [0, 1, 2, 3, 4, 5, 6, 7, 8, 9, 10]
      · decide +kernel
      · first | exact fun _ h => h | exact fun _ h => St.sub h (by repeat (first | exact List.Sublist.refl _ | apply List.Sublist.cons_cons | apply List.Sublist.cons))
      repeat'(first|(apply yp;iterate 3 exact rfl)|(apply QL.ev;(·exact rfl);(·first|((first|apply Ez|apply Ey);(·exact rfl);(·repeat(first|exact iO|exact iR rfl|apply iT));exact rfl)|((first|apply Ev.fieldAddr|apply Ev.len|apply EqOf.eq|apply EqOf.ne|apply Ev.conv|apply Ev.buildN);exact rfl)|((first|apply Ev.shr|apply Ev.shl);(iterate 2 exact rfl);first|decide|omega));·exact rfl)|(apply QL.ev; (· exact rfl); (· first | (apply Ev.indexArr; (· exact rfl); (· exact rfl); (· omega); (· omega)) | (apply Ev.load; (· exact rfl); (· intro w' hw'; first | exact cellI (b := b8) hw' (by (repeat (first | exact mH _ _ | apply mT))) (q1 _) (by first | omega | (rw [al1_len (by assumption)]; omega) | (rw [al2_len (by assumption)]; omega)) | exact cellI (b := b9) hw' (by (repeat (first | exact mH _ _ | apply mT))) (q1 _) (by first | omega | (unfold ll1; rw [List.length_set]; omega)) | exact cellI (b := b10) hw' (by (repeat (first | exact mH _ _ | apply mT))) (q1 _) (by first | omega | (unfold sl1; rw [List.length_set]; omega)))) | (apply Ev.min2; (· exact rfl); (· exact rfl)) | (apply addA3; (· exact rfl); (· exact rfl); (· omega); (· omega)) | (apply Ev.add; (· exact rfl); (· exact rfl); (· omega); (· omega))); (· exact rfl))|(apply yq;iterate 5 exact rfl)|(apply QL.evg;(iterate 3 exact rfl);(·first|((first|apply Ez|apply Ey);(·exact rfl);(·repeat(first|exact iO|exact iR rfl|apply iT));exact rfl)|((first|apply Ev.fieldAddr|apply Ev.len|apply EqOf.eq|apply EqOf.ne|apply Ev.conv|apply Ev.buildN);exact rfl)|((first|apply Ev.shr|apply Ev.shl);(iterate 2 exact rfl);first|decide|omega));·exact rfl)|(apply yn;iterate 4 exact rfl)|((apply QL.split;iterate 3 exact rfl);all_goals(intro hc;try simp only[hcs]at hc;try(exfalso;first|contradiction|omega)))|apply QL.nil)
      all_goals (show DW _ _ _ _ _ _ _ _))
    all_goals (apply DW.done; (· decide +kernel))
    all_goals apply At.sink
    refine LR.store_obj (v := .int .i64 (if gd al (i % n) + andI .i64 x 3 < t.seq then gd al (i % n) + andI .i64 x 3 else t.seq)) (z := arI b8 al) (z' := arI b8 (al1 n i al t (andI .i64 x 3))) rfl rfl (by (repeat (first | exact sH _ _ _ | apply sT))) rfl (st_arr (by simp only [Int.toNat_natCast, Nat.zero_add, Nat.mul_one]) (by omega)) (Asrt.dep_own _ _) ?_
    have hy1 := (and_3 x).1
    generalize andI IntKind.i64 x 3 = y1 at hy1 ⊢
    repeat'(first|(apply CW.reg_sinkC 11; (· exact rfl); (· decide +kernel))|(apply kp;iterate 2 exact rfl)|apply jJ|(apply jE;exact rfl)|(apply jp;exact rfl)|(apply jc;kernel_rfl)|((first|apply kf|apply kn|apply ke|apply kx|apply kc|apply kb);iterate 2 exact rfl)|((first|apply kz|apply ky);(·exact rfl);(·repeat(first|exact iO|exact iR rfl|apply iT));iterate 2 exact rfl)|(apply kg;iterate 2 exact rfl)|(apply kG;iterate 3 exact rfl)|(apply kB;(iterate 2 exact rfl);intro _)|(apply kA;exact rfl;intro _)|(apply Go.Hb.kK;(iterate 4 exact rfl);intro _)|(apply kU;(iterate 2 exact rfl);(·repeat(first|exact sH _ _ _|apply sT));(first|exact nfL_eq rfl|exact rfl);exact rfl)|((first|apply kh|apply kl);(iterate 2 exact rfl);(first|decide|omega);exact rfl)|((first|(apply kR;iterate 2 exact rfl)|(apply kQ;exact rfl));all_goals(intro hc;try simp only[hcs]at hc;try(exfalso;first|contradiction|omega))))
    all_goals (
      apply DW.quiet [0, 1, 2, 3, 4, 5, 6, 7, 8]
      · decide +kernel
      · first | exact fun _ h => h | exact fun _ h => St.sub h (by repeat (first | exact List.Sublist.refl _ | apply List.Sublist.cons_cons | apply List.Sublist.cons))
      repeat'(first|(apply yp;iterate 3 exact rfl)|(apply QL.ev;(·exact rfl);(·first|((first|apply Ez|apply Ey);(·exact rfl);(·repeat(first|exact iO|exact iR rfl|apply iT));exact rfl)|((first|apply Ev.fieldAddr|apply Ev.len|apply EqOf.eq|apply EqOf.ne|apply Ev.conv|apply Ev.buildN);exact rfl)|((first|apply Ev.shr|apply Ev.shl);(iterate 2 exact rfl);first|decide|omega));·exact rfl)|(apply QL.ev; (· exact rfl); (· first | (apply Ev.indexArr; (· exact rfl); (· exact rfl); (· omega); (· omega)) | (apply Ev.load; (· exact rfl); (· intro w' hw'; first | exact cellI (b := b8) hw' (by (repeat (first | exact mH _ _ | apply mT))) (q1 _) (by first | omega | (rw [al1_len (by assumption)]; omega) | (rw [al2_len (by assumption)]; omega)) | exact cellI (b := b9) hw' (by (repeat (first | exact mH _ _ | apply mT))) (q1 _) (by first | omega | (unfold ll1; rw [List.length_set]; omega)) | exact cellI (b := b10) hw' (by (repeat (first | exact mH _ _ | apply mT))) (q1 _) (by first | omega | (unfold sl1; rw [List.length_set]; omega)))) | (apply Ev.min2; (· exact rfl); (· exact rfl)) | (apply addA3; (· exact rfl); (· exact rfl); (· omega); (· omega)) | (apply Ev.add; (· exact rfl); (· exact rfl); (· omega); (· omega))); (· exact rfl))|(apply yq;iterate 5 exact rfl)|(apply QL.evg;(iterate 3 exact rfl);(·first|((first|apply Ez|apply Ey);(·exact rfl);(·repeat(first|exact iO|exact iR rfl|apply iT));exact rfl)|((first|apply Ev.fieldAddr|apply Ev.len|apply EqOf.eq|apply EqOf.ne|apply Ev.conv|apply Ev.buildN);exact rfl)|((first|apply Ev.shr|apply Ev.shl);(iterate 2 exact rfl);first|decide|omega));·exact rfl)|(apply yn;iterate 4 exact rfl)|((apply QL.split;iterate 3 exact rfl);all_goals(intro hc;try simp only[hcs]at hc;try(exfalso;first|contradiction|omega)))|apply QL.nil)
      all_goals (show DW _ _ _ _ _ _ _ _))
    all_goals (
      apply DW.loud 9
      · exact rfl
      · decide +kernel
      repeat'(first|(apply kg;iterate 2 exact rfl)|(apply kG;iterate 3 exact rfl)|apply kM|(apply kp;iterate 2 exact rfl)|((first|apply kz|apply ky);(·exact rfl);(·repeat(first|exact iO|exact iR rfl|apply iT));iterate 2 exact rfl)|(apply Go.Hb.kK;(iterate 4 exact rfl);intro _)|(apply kU;(iterate 2 exact rfl);(·repeat(first|exact sH _ _ _|apply sT));(first|exact nfL_eq rfl|exact rfl);exact rfl)|(apply kB;(iterate 2 exact rfl);intro _)|(apply kA;exact rfl;intro _)|(apply kq;(·exact rfl);(·intro w1 h1;exact CallsTo.q (t23 _ _ _ w1) h1)))
      all_goals (refine At.stage_same (fun _ h => St.sub h (by repeat (first | exact List.Sublist.refl _ | apply List.Sublist.cons_cons | apply List.Sublist.cons))) ?_))
    all_goals (
      apply DW.quiet [10]
      · decide +kernel
      · first | exact fun _ h => h | exact fun _ h => St.sub h (by repeat (first | exact List.Sublist.refl _ | apply List.Sublist.cons_cons | apply List.Sublist.cons))
      repeat'(first|(apply yp;iterate 3 exact rfl)|(apply QL.ev;(·exact rfl);(·first|((first|apply Ez|apply Ey);(·exact rfl);(·repeat(first|exact iO|exact iR rfl|apply iT));exact rfl)|((first|apply Ev.fieldAddr|apply Ev.len|apply EqOf.eq|apply EqOf.ne|apply Ev.conv|apply Ev.buildN);exact rfl)|((first|apply Ev.shr|apply Ev.shl);(iterate 2 exact rfl);first|decide|omega));·exact rfl)|(apply QL.ev; (· exact rfl); (· first | (apply Ev.indexArr; (· exact rfl); (· exact rfl); (· omega); (· omega)) | (apply Ev.load; (· exact rfl); (· intro w' hw'; first | exact cellI (b := b8) hw' (by (repeat (first | exact mH _ _ | apply mT))) (q1 _) (by first | omega | (rw [al1_len (by assumption)]; omega) | (rw [al2_len (by assumption)]; omega)) | exact cellI (b := b9) hw' (by (repeat (first | exact mH _ _ | apply mT))) (q1 _) (by first | omega | (unfold ll1; rw [List.length_set]; omega)) | exact cellI (b := b10) hw' (by (repeat (first | exact mH _ _ | apply mT))) (q1 _) (by first | omega | (unfold sl1; rw [List.length_set]; omega)))) | (apply Ev.min2; (· exact rfl); (· exact rfl)) | (apply addA3; (· exact rfl); (· exact rfl); (· omega); (· omega)) | (apply Ev.add; (· exact rfl); (· exact rfl); (· omega); (· omega))); (· exact rfl))|(apply yq;iterate 5 exact rfl)|(apply QL.evg;(iterate 3 exact rfl);(·first|((first|apply Ez|apply Ey);(·exact rfl);(·repeat(first|exact iO|exact iR rfl|apply iT));exact rfl)|((first|apply Ev.fieldAddr|apply Ev.len|apply EqOf.eq|apply EqOf.ne|apply Ev.conv|apply Ev.buildN);exact rfl)|((first|apply Ev.shr|apply Ev.shl);(iterate 2 exact rfl);first|decide|omega));·exact rfl)|(apply yn;iterate 4 exact rfl)|((apply QL.split;iterate 3 exact rfl);all_goals(intro hc;try simp only[hcs]at hc;try(exfalso;first|contradiction|omega)))|apply QL.nil)
      all_goals (show DW _ _ _ _ _ _ _ _))
    all_goals (apply DW.done; (· decide +kernel))
    all_goals apply At.sink
    refine LR.store_obj (v := .int .i64 (max (gd sl (i % n)) (min (gd ll (i % n)) t.aru))) (z := arI b10 sl) (z' := arI b10 (sl1 n i ll sl t)) rfl rfl (by (repeat (first | exact sH _ _ _ | apply sT))) rfl (st_arr (by simp only [Int.toNat_natCast, Nat.zero_add, Nat.mul_one]) (by omega)) (Asrt.dep_own _ _) ?_
    repeat'(first|(apply kp;iterate 2 exact rfl)|apply jJ|(apply jE;exact rfl)|(apply jp;exact rfl)|(apply jc;kernel_rfl)|((first|apply kf|apply kn|apply ke|apply kx|apply kc|apply kb);iterate 2 exact rfl)|((first|apply kz|apply ky);(·exact rfl);(·repeat(first|exact iO|exact iR rfl|apply iT));iterate 2 exact rfl)|(apply kg;iterate 2 exact rfl)|(apply kG;iterate 3 exact rfl)|(apply kB;(iterate 2 exact rfl);intro _)|(apply kA;exact rfl;intro _)|(apply Go.Hb.kK;(iterate 4 exact rfl);intro _)|(apply kU;(iterate 2 exact rfl);(·repeat(first|exact sH _ _ _|apply sT));(first|exact nfL_eq rfl|exact rfl);exact rfl)|((first|apply kh|apply kl);(iterate 2 exact rfl);(first|decide|omega);exact rfl)|((first|(apply kR;iterate 2 exact rfl)|(apply kQ;exact rfl));all_goals(intro hc;try simp only[hcs]at hc;try(exfalso;first|contradiction|omega))))
    apply CW.loop [4, 15, 77, 78, 79, 80, 81, 82, 83, 84, 85, 86, 87, 88] (fun j : Nat => j ≤ n) (fun j => [(15, .int .i64 (j : Int))]) (fun j => St w NoF [arI b10 (sl1 n i ll sl t), arI b9 ll, arI b8 (al1 n i al t y1), tkI b6 t a' c', rdA (some ⟨bl, ol, none⟩) (iv l)]) (fun j => n - j)
    · exact fun w' hw' => ⟨0, by omega, ⟨rfl, trivial⟩, hw'⟩
    · intro j g2 hj
      by_cases hjn : j < n
      · have hsafe := safe_ok (y1 := y1) hS hy1 j hjn
        repeat'(first|(apply CW.reg_heldC)|(apply kp;iterate 2 exact rfl)|apply jJ|(apply jE;exact rfl)|(apply jp;exact rfl)|(apply jc;kernel_rfl)|((first|apply kf|apply kn|apply ke|apply kx|apply kc|apply kb);iterate 2 exact rfl)|((first|apply kz|apply ky);(·exact rfl);(·repeat(first|exact iO|exact iR rfl|apply iT));iterate 2 exact rfl)|(apply kg;iterate 2 exact rfl)|(apply kG;iterate 3 exact rfl)|(apply kB;(iterate 2 exact rfl);intro _)|(apply kA;exact rfl;intro _)|(apply Go.Hb.kK;(iterate 4 exact rfl);intro _)|(apply kU;(iterate 2 exact rfl);(·repeat(first|exact sH _ _ _|apply sT));(first|exact nfL_eq rfl|exact rfl);exact rfl)|((first|apply kh|apply kl);(iterate 2 exact rfl);(first|decide|omega);exact rfl)|((first|(apply kR;iterate 2 exact rfl)|(apply kQ;exact rfl));all_goals(intro hc;try simp only[hcs]at hc;try(exfalso;first|contradiction|omega))))
        all_goals (
          apply DW.quiet [0, 1, 2, 3, 4, 5, 6]
          · decide +kernel
          · first | exact fun _ h => h | exact fun _ h => St.sub h (by repeat (first | exact List.Sublist.refl _ | apply List.Sublist.cons_cons | apply List.Sublist.cons))
          repeat'(first|(apply yp;iterate 3 exact rfl)|(apply QL.ev;(·exact rfl);(·first|((first|apply Ez|apply Ey);(·exact rfl);(·repeat(first|exact iO|exact iR rfl|apply iT));exact rfl)|((first|apply Ev.fieldAddr|apply Ev.len|apply EqOf.eq|apply EqOf.ne|apply Ev.conv|apply Ev.buildN);exact rfl)|((first|apply Ev.shr|apply Ev.shl);(iterate 2 exact rfl);first|decide|omega));·exact rfl)|(apply QL.ev; (· exact rfl); (· first | (apply Ev.indexArr; (· exact rfl); (· exact rfl); (· omega); (· omega)) | (apply Ev.load; (· exact rfl); (· intro w' hw'; first | exact cellI (b := b8) hw' (by (repeat (first | exact mH _ _ | apply mT))) (q1 _) (by first | omega | (rw [al1_len (by assumption)]; omega) | (rw [al2_len (by assumption)]; omega)) | exact cellI (b := b9) hw' (by (repeat (first | exact mH _ _ | apply mT))) (q1 _) (by first | omega | (unfold ll1; rw [List.length_set]; omega)) | exact cellI (b := b10) hw' (by (repeat (first | exact mH _ _ | apply mT))) (q1 _) (by first | omega | (unfold sl1; rw [List.length_set]; omega)))) | (apply Ev.min2; (· exact rfl); (· exact rfl)) | (apply addA3; (· exact rfl); (· exact rfl); (· omega); (· omega)) | (apply Ev.add; (· exact rfl); (· exact rfl); (· omega); (· omega))); (· exact rfl))|(apply yq;iterate 5 exact rfl)|(apply QL.evg;(iterate 3 exact rfl);(·first|((first|apply Ez|apply Ey);(·exact rfl);(·repeat(first|exact iO|exact iR rfl|apply iT));exact rfl)|((first|apply Ev.fieldAddr|apply Ev.len|apply EqOf.eq|apply EqOf.ne|apply Ev.conv|apply Ev.buildN);exact rfl)|((first|apply Ev.shr|apply Ev.shl);(iterate 2 exact rfl);first|decide|omega));·exact rfl)|(apply yn;iterate 4 exact rfl)|((apply QL.split;iterate 3 exact rfl);all_goals(intro hc;try simp only[hcs]at hc;try(exfalso;first|contradiction|omega)))|apply QL.nil)
          all_goals (show DW _ _ _ _ _ _ _ _))
        all_goals (first | (apply DW.done_thn; (· decide +kernel)) | (apply DW.done; (· decide +kernel)))
        repeat'(first|(apply kp;iterate 2 exact rfl)|apply jJ|(apply jE;exact rfl)|(apply jp;exact rfl)|(apply jc;kernel_rfl)|((first|apply kf|apply kn|apply ke|apply kx|apply kc|apply kb);iterate 2 exact rfl)|((first|apply kz|apply ky);(·exact rfl);(·repeat(first|exact iO|exact iR rfl|apply iT));iterate 2 exact rfl)|(apply kg;iterate 2 exact rfl)|(apply kG;iterate 3 exact rfl)|(apply kB;(iterate 2 exact rfl);intro _)|(apply kA;exact rfl;intro _)|(apply Go.Hb.kK;(iterate 4 exact rfl);intro _)|(apply kU;(iterate 2 exact rfl);(·repeat(first|exact sH _ _ _|apply sT));(first|exact nfL_eq rfl|exact rfl);exact rfl)|((first|apply kh|apply kl);(iterate 2 exact rfl);(first|decide|omega);exact rfl)|(apply addX;(iterate 2 exact rfl);(iterate 2(first|omega|(dsimp only;omega)));exact rfl)|((first|(apply kR;iterate 2 exact rfl)|(apply kQ;exact rfl));all_goals(intro hc;try simp only[hcs]at hc;try(exfalso;first|contradiction|omega))))
        apply At.again (j + 1) (by omega)
        · (repeat (first | exact Out.refl _ _ | exact Out.mix | (apply Out.upd; (· exact rfl)) | (apply Out.updL; (· exact rfl)) | (apply Out.mixs; (· exact rfl))))
        · exact ⟨rfl, trivial⟩
        · exact fun w' hw' => hw'
        · omega
      · have hie : n = j := by omega
        subst hie
        clear hjn hj
        repeat'(first|(apply kp;iterate 2 exact rfl)|apply jJ|(apply jE;exact rfl)|(apply jp;exact rfl)|((first|apply kf|apply kn|apply ke|apply kx|apply kc|apply kb);iterate 2 exact rfl)|((first|apply kz|apply ky);(·exact rfl);(·repeat(first|exact iO|exact iR rfl|apply iT));iterate 2 exact rfl)|(apply kg;iterate 2 exact rfl)|(apply kG;iterate 3 exact rfl)|(apply kB;(iterate 2 exact rfl);intro _)|(apply kA;exact rfl;intro _)|(apply Go.Hb.kK;(iterate 4 exact rfl);intro _)|(apply kU;(iterate 2 exact rfl);(·repeat(first|exact sH _ _ _|apply sT));(first|exact nfL_eq rfl|exact rfl);exact rfl)|((first|apply kh|apply kl);(iterate 2 exact rfl);(first|decide|omega);exact rfl)|(apply LR.ev; (· first | (apply Ev.indexArr; (· exact rfl); (· exact rfl); (· omega); (· omega)) | (apply Ev.load; (· exact rfl); (· intro w' hw'; first | exact cellI (b := b8) hw' (by (repeat (first | exact mH _ _ | apply mT))) (q1 _) (by first | omega | (rw [al1_len (by assumption)]; omega) | (rw [al2_len (by assumption)]; omega)) | exact cellI (b := b9) hw' (by (repeat (first | exact mH _ _ | apply mT))) (q1 _) (by first | omega | (unfold ll1; rw [List.length_set]; omega)) | exact cellI (b := b10) hw' (by (repeat (first | exact mH _ _ | apply mT))) (q1 _) (by first | omega | (unfold sl1; rw [List.length_set]; omega)))) | (apply Ev.min2; (· exact rfl); (· exact rfl)) | (apply addA3; (· exact rfl); (· exact rfl); (· omega); (· omega)) | (apply Ev.add; (· exact rfl); (· exact rfl); (· omega); (· omega))); (· exact rfl))|((first|(apply kR;iterate 2 exact rfl)|(apply kQ;exact rfl));all_goals(intro hc;try simp only[hcs]at hc;try(exfalso;first|contradiction|omega))))
        all_goals (
          have hy2 := and_3 (x.fdiv (2 ^ min (Int.toNat 2) IntKind.i64.bits))
          generalize andI IntKind.i64 (x.fdiv (2 ^ min (Int.toNat 2) IntKind.i64.bits)) 3 = y2 at hy2 ⊢)
        · refine LR.store_obj (v := .int .i64 (t.seq + y2)) (z := arI b8 (al1 n i al t y1)) (z' := arI b8 ((al1 n i al t y1).set (i % n) (t.seq + y2))) rfl rfl (by (repeat (first | exact sH _ _ _ | apply sT))) rfl (st_arr (by simp only [Int.toNat_natCast, Nat.zero_add, Nat.mul_one]) (by rw [al1_len hS]; omega)) (Asrt.dep_own _ _) ?_
          repeat'(first|(apply kp;iterate 2 exact rfl)|apply jJ|(apply jE;exact rfl)|(apply jp;exact rfl)|((first|apply kf|apply kn|apply ke|apply kx|apply kc|apply kb);iterate 2 exact rfl)|((first|apply kz|apply ky);(·exact rfl);(·repeat(first|exact iO|exact iR rfl|apply iT));iterate 2 exact rfl)|(apply kg;iterate 2 exact rfl)|(apply kG;iterate 3 exact rfl)|(apply kB;(iterate 2 exact rfl);intro _)|(apply kA;exact rfl;intro _)|(apply Go.Hb.kK;(iterate 4 exact rfl);intro _)|(apply kU;(iterate 2 exact rfl);(·repeat(first|exact sH _ _ _|apply sT));(first|exact nfL_eq rfl|exact rfl);exact rfl)|((first|apply kh|apply kl);(iterate 2 exact rfl);(first|decide|omega);exact rfl)|((first|(apply kR;iterate 2 exact rfl)|(apply kQ;exact rfl));all_goals(intro hc;try simp only[hcs]at hc;try(exfalso;first|contradiction|omega))))
          refine CW.sub (D := St w NoF [arI b10 (sl1 n i ll sl t), arI b9 ll, arI b8 (al2 n i al t y1 y2), tkI b6 (tk1 t y2) a' c', rdA (some ⟨bl, ol, none⟩) (iv l)]) ?_ (fun w' h => by
            have e : al2 n i al t y1 y2 = (al1 n i al t y1).set (i % n) (t.seq + y2) := by unfold al2; rw [if_pos (by assumption)]
            rw [e]; exact h)
          have hask := hS.ask
          have hal2 := al2_len (y1 := y1) (y2 := y2) hS
          have hage := al2_ge (y1 := y1) (y2 := y2) hS hy1 hy2.1
          have hA2 := hage (i % n) hkn
          have hV := tokB_visit (g := []) (may_ok (y1 := y1) (y2 := y2) hS hl2 hy1 hy2.1 hy2.2)
          have hhop : (tk2 n i al t y1 y2).hop = (i : Int) + 2 := by have h1 := hV.2; have h2 := hS.hop; show (visitT _ _ _ _).hop = _; rw [h1]; show t.hop + 1 = _; omega
          have hE : tokE (tk2 n i al t y1 y2) = 0 := by unfold tokE; exact if_pos hV.1
          have hseq2 : (tk2 n i al t y1 y2).seq = t.seq + y2 := by rw [tk2_eq hS hl2 hy1 hy2.1 hy2.2]
          repeat'(first|(apply CW.reg_sinkC 7; (· exact rfl); (· decide +kernel))|(apply kp;iterate 2 exact rfl)|apply jJ|(apply jE;exact rfl)|(apply jp;exact rfl)|(apply jc;kernel_rfl)|((first|apply kf|apply kn|apply ke|apply kx|apply kc|apply kb);iterate 2 exact rfl)|((first|apply kz|apply ky);(·exact rfl);(·repeat(first|exact iO|exact iR rfl|apply iT));iterate 2 exact rfl)|(apply kg;iterate 2 exact rfl)|(apply kG;iterate 3 exact rfl)|(apply kB;(iterate 2 exact rfl);intro _)|(apply kA;exact rfl;intro _)|(apply Go.Hb.kK;(iterate 4 exact rfl);intro _)|(apply kU;(iterate 2 exact rfl);(·repeat(first|exact sH _ _ _|apply sT));(first|exact nfL_eq rfl|exact rfl);exact rfl)|((first|apply kh|apply kl);(iterate 2 exact rfl);(first|decide|omega);exact rfl)|((first|(apply kR;iterate 2 exact rfl)|(apply kQ;exact rfl));all_goals(intro hc;try simp only[hcs]at hc;try(exfalso;first|contradiction|omega))))
          all_goals (
            apply DW.quiet [0, 1, 2, 3, 4, 5]
            · decide +kernel
            · first | exact fun _ h => h | exact fun _ h => St.sub h (by repeat (first | exact List.Sublist.refl _ | apply List.Sublist.cons_cons | apply List.Sublist.cons))
            repeat'(first|(apply yp;iterate 3 exact rfl)|(apply QL.ev;(·exact rfl);(·first|((first|apply Ez|apply Ey);(·exact rfl);(·repeat(first|exact iO|exact iR rfl|apply iT));exact rfl)|((first|apply Ev.fieldAddr|apply Ev.len|apply EqOf.eq|apply EqOf.ne|apply Ev.conv|apply Ev.buildN);exact rfl)|((first|apply Ev.shr|apply Ev.shl);(iterate 2 exact rfl);first|decide|omega));·exact rfl)|(apply QL.ev; (· exact rfl); (· first | (apply Ev.indexArr; (· exact rfl); (· exact rfl); (· omega); (· omega)) | (apply Ev.load; (· exact rfl); (· intro w' hw'; first | exact cellI (b := b8) hw' (by (repeat (first | exact mH _ _ | apply mT))) (q1 _) (by first | omega | (rw [al1_len (by assumption)]; omega) | (rw [al2_len (by assumption)]; omega)) | exact cellI (b := b9) hw' (by (repeat (first | exact mH _ _ | apply mT))) (q1 _) (by first | omega | (unfold ll1; rw [List.length_set]; omega)) | exact cellI (b := b10) hw' (by (repeat (first | exact mH _ _ | apply mT))) (q1 _) (by first | omega | (unfold sl1; rw [List.length_set]; omega)))) | (apply Ev.min2; (· exact rfl); (· exact rfl)) | (apply addA3; (· exact rfl); (· exact rfl); (· omega); (· omega)) | (apply Ev.add; (· exact rfl); (· exact rfl); (· omega); (· omega))); (· exact rfl))|(apply yq;iterate 5 exact rfl)|(apply QL.evg;(iterate 3 exact rfl);(·first|((first|apply Ez|apply Ey);(·exact rfl);(·repeat(first|exact iO|exact iR rfl|apply iT));exact rfl)|((first|apply Ev.fieldAddr|apply Ev.len|apply EqOf.eq|apply EqOf.ne|apply Ev.conv|apply Ev.buildN);exact rfl)|((first|apply Ev.shr|apply Ev.shl);(iterate 2 exact rfl);first|decide|omega));·exact rfl)|(apply yn;iterate 4 exact rfl)|((apply QL.split;iterate 3 exact rfl);all_goals(intro hc;try simp only[hcs]at hc;try(exfalso;first|contradiction|omega)))|apply QL.nil)
            all_goals (show DW _ _ _ _ _ _ _ _))
          all_goals (
            apply DW.loud 6
            · exact rfl
            · decide +kernel
            repeat'(first|(apply kg;iterate 2 exact rfl)|(apply kG;iterate 3 exact rfl)|apply kM|(apply kp;iterate 2 exact rfl)|((first|apply kz|apply ky);(·exact rfl);(·repeat(first|exact iO|exact iR rfl|apply iT));iterate 2 exact rfl)|(apply Go.Hb.kK;(iterate 4 exact rfl);intro _)|(apply kU;(iterate 2 exact rfl);(·repeat(first|exact sH _ _ _|apply sT));(first|exact nfL_eq rfl|exact rfl);exact rfl)|(apply kB;(iterate 2 exact rfl);intro _)|(apply kA;exact rfl;intro _)|(apply LR.call; (· exact rfl); (intro w1 h1; refine (t14 (tk1 t y2) a' c' (1 + ((i % n : Nat) : Int)) (gd (al2 n i al t y1 y2) (i % n)) none 0 [] w1 (by rw [show (tk1 t y2).ask = [] from hask]; exact Rd.nil _ _) hz (by rw [show (tk1 t y2).ask = [] from hask]; simp) (Rd.nil _ _) (by simp)).mono ?_; rintro v w2 ⟨a2, c2, rfl, hn⟩; have hz2 := ownsAt_nz hn.own; refine LR.back (St.newOd h1 hn) ?_; clear hn h1)))
            all_goals (refine At.stage_same (fun _ h => St.sub h (by repeat (first | exact List.Sublist.refl _ | apply List.Sublist.cons_cons | apply List.Sublist.cons))) ?_))
          all_goals (apply DW.done; (· decide +kernel))
          all_goals apply At.sink
          refine LR.store_obj (v := (tk2 n i al t y1 y2).val a2 c2) (z := tkI b6 (tk1 t y2) a' c') (z' := tkI b6 (tk2 n i al t y1 y2) a2 c2) rfl rfl (by (repeat (first | exact sH _ _ _ | apply sT))) rfl st_tok (Asrt.dep_own _ _) ?_
          repeat'(first|(apply kp;iterate 2 exact rfl)|apply jJ|(apply jE;exact rfl)|(apply jp;exact rfl)|(apply jc;kernel_rfl)|((first|apply kf|apply kn|apply ke|apply kx|apply kc|apply kb);iterate 2 exact rfl)|((first|apply kz|apply ky);(·exact rfl);(·repeat(first|exact iO|exact iR rfl|apply iT));iterate 2 exact rfl)|(apply kg;iterate 2 exact rfl)|(apply kG;iterate 3 exact rfl)|(apply kB;(iterate 2 exact rfl);intro _)|(apply kA;exact rfl;intro _)|(apply Go.Hb.kK;(iterate 4 exact rfl);intro _)|(apply kU;(iterate 2 exact rfl);(·repeat(first|exact sH _ _ _|apply sT));(first|exact nfL_eq rfl|exact rfl);exact rfl)|((first|apply kh|apply kl);(iterate 2 exact rfl);(first|decide|omega);exact rfl)|(apply kq; (· exact rfl); (· intro w1 h1; have hq := CallsTo.q (t16 (tk2 n i al t y1 y2) a2 c2 w1 (h1.rd_of_odl (by (repeat (first | exact mH _ _ | apply mT)))) (by have := (tok_bd hE).2.2.2.2.2.2.2.2; omega)) h1; rw [hE] at hq; exact hq))|(apply addX;(iterate 2 exact rfl);(iterate 2(first|omega|(dsimp only;omega)));exact rfl)|(apply LR.ev; (· first | (apply Ev.indexArr; (· exact rfl); (· exact rfl); (· omega); (· omega)) | (apply Ev.load; (· exact rfl); (· intro w' hw'; first | exact cellI (b := b8) hw' (by (repeat (first | exact mH _ _ | apply mT))) (q1 _) (by first | omega | (rw [al1_len (by assumption)]; omega) | (rw [al2_len (by assumption)]; omega)) | exact cellI (b := b9) hw' (by (repeat (first | exact mH _ _ | apply mT))) (q1 _) (by first | omega | (unfold ll1; rw [List.length_set]; omega)) | exact cellI (b := b10) hw' (by (repeat (first | exact mH _ _ | apply mT))) (q1 _) (by first | omega | (unfold sl1; rw [List.length_set]; omega)))) | (apply Ev.min2; (· exact rfl); (· exact rfl)) | (apply addA3; (· exact rfl); (· exact rfl); (· omega); (· omega)) | (apply Ev.add; (· exact rfl); (· exact rfl); (· omega); (· omega))); (· exact rfl))|((first|(apply kR;iterate 2 exact rfl)|(apply kQ;exact rfl));all_goals(intro hc;try simp only[hcs]at hc;try(exfalso;first|contradiction|omega))))
          refine LR.store_obj (v := .int .i64 (tk2 n i al t y1 y2).aru) (z := arI b9 ll) (z' := arI b9 (ll1 n i al ll t y1 y2)) rfl rfl (by (repeat (first | exact sH _ _ _ | apply sT))) rfl (st_arr (by simp only [Int.toNat_natCast, Nat.zero_add, Nat.mul_one]) (by omega)) (Asrt.dep_own _ _) ?_
          repeat'(first|(apply kp;iterate 2 exact rfl)|apply jJ|(apply jE;exact rfl)|(apply jp;exact rfl)|(apply jc;kernel_rfl)|((first|apply kf|apply kn|apply ke|apply kx|apply kc|apply kb);iterate 2 exact rfl)|((first|apply kz|apply ky);(·exact rfl);(·repeat(first|exact iO|exact iR rfl|apply iT));iterate 2 exact rfl)|(apply kg;iterate 2 exact rfl)|(apply kG;iterate 3 exact rfl)|(apply kB;(iterate 2 exact rfl);intro _)|(apply kA;exact rfl;intro _)|(apply Go.Hb.kK;(iterate 4 exact rfl);intro _)|(apply kU;(iterate 2 exact rfl);(·repeat(first|exact sH _ _ _|apply sT));(first|exact nfL_eq rfl|exact rfl);exact rfl)|((first|apply kh|apply kl);(iterate 2 exact rfl);(first|decide|omega);exact rfl)|((first|(apply kR;iterate 2 exact rfl)|(apply kQ;exact rfl));all_goals(intro hc;try simp only[hcs]at hc;try(exfalso;first|contradiction|omega))))
          obtain ⟨qn, hqn⟩ := and_7n (x.fdiv (2 ^ min (Int.toNat 4) IntKind.i64.bits))
          generalize andI IntKind.i64 (x.fdiv (2 ^ min (Int.toNat 4) IntKind.i64.bits)) 7 = qi at hqn ⊢
          subst hqn
          have hjj : qn % n < n := Nat.mod_lt _ (by omega)
          have hA3 := hage (qn % n) hjj
          have hab3 := hS.ab (qn % n) hjj
          repeat'(first|(apply CW.reg_sinkC 12; (· exact rfl); (· decide +kernel))|(apply kp;iterate 2 exact rfl)|apply jJ|(apply jE;exact rfl)|(apply jp;exact rfl)|(apply jc;kernel_rfl)|((first|apply kf|apply kn|apply ke|apply kx|apply kc|apply kb);iterate 2 exact rfl)|((first|apply kz|apply ky);(·exact rfl);(·repeat(first|exact iO|exact iR rfl|apply iT));iterate 2 exact rfl)|(apply kg;iterate 2 exact rfl)|(apply kG;iterate 3 exact rfl)|(apply kB;(iterate 2 exact rfl);intro _)|(apply kA;exact rfl;intro _)|(apply Go.Hb.kK;(iterate 4 exact rfl);intro _)|(apply kU;(iterate 2 exact rfl);(·repeat(first|exact sH _ _ _|apply sT));(first|exact nfL_eq rfl|exact rfl);exact rfl)|((first|apply kh|apply kl);(iterate 2 exact rfl);(first|decide|omega);exact rfl)|(apply LR.ev; (· apply remQ (a := qn) (b := n) (q := qn % n) rfl; (· exact rfl); (· exact rfl); (· omega)); (· exact rfl))|((first|(apply kR;iterate 2 exact rfl)|(apply kQ;exact rfl));all_goals(intro hc;try simp only[hcs]at hc;try(exfalso;first|contradiction|omega))))
          all_goals (
            apply DW.quiet [0, 1, 2, 3, 4, 5, 6, 7, 8, 9, 10, 11]
            · decide +kernel
            · first | exact fun _ h => h | exact fun _ h => St.sub h (by repeat (first | exact List.Sublist.refl _ | apply List.Sublist.cons_cons | apply List.Sublist.cons))
            repeat'(first|(apply yp;iterate 3 exact rfl)|(apply QL.ev;(·exact rfl);(·first|((first|apply Ez|apply Ey);(·exact rfl);(·repeat(first|exact iO|exact iR rfl|apply iT));exact rfl)|((first|apply Ev.fieldAddr|apply Ev.len|apply EqOf.eq|apply EqOf.ne|apply Ev.conv|apply Ev.buildN);exact rfl)|((first|apply Ev.shr|apply Ev.shl);(iterate 2 exact rfl);first|decide|omega));·exact rfl)|(apply QL.ev; (· exact rfl); (· first | (apply Ev.indexArr; (· exact rfl); (· exact rfl); (· omega); (· omega)) | (apply Ev.load; (· exact rfl); (· intro w' hw'; first | exact cellI (b := b8) hw' (by (repeat (first | exact mH _ _ | apply mT))) (q1 _) (by first | omega | (rw [al1_len (by assumption)]; omega) | (rw [al2_len (by assumption)]; omega)) | exact cellI (b := b9) hw' (by (repeat (first | exact mH _ _ | apply mT))) (q1 _) (by first | omega | (unfold ll1; rw [List.length_set]; omega)) | exact cellI (b := b10) hw' (by (repeat (first | exact mH _ _ | apply mT))) (q1 _) (by first | omega | (unfold sl1; rw [List.length_set]; omega)))) | (apply Ev.min2; (· exact rfl); (· exact rfl)) | (apply addA3; (· exact rfl); (· exact rfl); (· omega); (· omega)) | (apply Ev.add; (· exact rfl); (· exact rfl); (· omega); (· omega))); (· exact rfl))|(apply yq;iterate 5 exact rfl)|(apply QL.evg;(iterate 3 exact rfl);(·first|((first|apply Ez|apply Ey);(·exact rfl);(·repeat(first|exact iO|exact iR rfl|apply iT));exact rfl)|((first|apply Ev.fieldAddr|apply Ev.len|apply EqOf.eq|apply EqOf.ne|apply Ev.conv|apply Ev.buildN);exact rfl)|((first|apply Ev.shr|apply Ev.shl);(iterate 2 exact rfl);first|decide|omega));·exact rfl)|(apply yn;iterate 4 exact rfl)|((apply QL.split;iterate 3 exact rfl);all_goals(intro hc;try simp only[hcs]at hc;try(exfalso;first|contradiction|omega)))|apply QL.nil)
            all_goals (show DW _ _ _ _ _ _ _ _))
          all_goals (apply DW.done; (· decide +kernel))
          all_goals apply At.sink
          have hy3 := and_3 (x.fdiv (2 ^ min (Int.toNat 7) IntKind.i64.bits))
          generalize andI IntKind.i64 (x.fdiv (2 ^ min (Int.toNat 7) IntKind.i64.bits)) 3 = y3 at hy3 ⊢
          refine LR.store_obj (v := .int .i64 (if gd (al2 n i al t y1 y2) (qn % n) + y3 < (tk2 n i al t y1 y2).seq then gd (al2 n i al t y1 y2) (qn % n) + y3 else (tk2 n i al t y1 y2).seq)) (z := arI b8 (al2 n i al t y1 y2)) (z' := arI b8 (al3 n i al t y1 y2 y3 (qn % n))) rfl rfl (by (repeat (first | exact sH _ _ _ | apply sT))) rfl (st_arr (by simp only [Int.toNat_natCast, Nat.zero_add, Nat.mul_one]) (by omega)) (Asrt.dep_own _ _) ?_
          repeat'(first|(apply kp;iterate 2 exact rfl)|apply jJ|(apply jE;exact rfl)|(apply jp;exact rfl)|(apply jc;kernel_rfl)|((first|apply kf|apply kn|apply ke|apply kx|apply kc|apply kb);iterate 2 exact rfl)|((first|apply kz|apply ky);(·exact rfl);(·repeat(first|exact iO|exact iR rfl|apply iT));iterate 2 exact rfl)|(apply kg;iterate 2 exact rfl)|(apply kG;iterate 3 exact rfl)|(apply kB;(iterate 2 exact rfl);intro _)|(apply kA;exact rfl;intro _)|(apply Go.Hb.kK;(iterate 4 exact rfl);intro _)|(apply kU;(iterate 2 exact rfl);(·repeat(first|exact sH _ _ _|apply sT));(first|exact nfL_eq rfl|exact rfl);exact rfl)|((first|apply kh|apply kl);(iterate 2 exact rfl);(first|decide|omega);exact rfl)|(apply addX;(iterate 2 exact rfl);(iterate 2(first|omega|(dsimp only;omega)));exact rfl)|((first|(apply kR;iterate 2 exact rfl)|(apply kQ;exact rfl));all_goals(intro hc;try simp only[hcs]at hc;try(exfalso;first|contradiction|omega))))
          refine At.again (⟨i + 1, al3 n i al t y1 y2 y3 (qn % n), ll1 n i al ll t y1 y2, sl1 n i ll sl t, tk2 n i al t y1 y2, a2, c2⟩ : Sst) ⟨by simp only; omega, by simp only; omega, hS.step hl2 hy1 hy2.1 hy2.2 hy3.1 hjj, hz2⟩ ?_ ⟨rfl, trivial⟩ (fun w' hw' => hw'.sub (by (repeat (first | exact List.Sublist.refl _ | apply List.Sublist.cons_cons | apply List.Sublist.cons)))) (by simp only; omega)
          (repeat (first | exact Out.refl _ _ | exact Out.mix | (apply Out.upd; (· exact rfl)) | (apply Out.updL; (· exact rfl)) | (apply Out.mixs; (· exact rfl))))
        · refine CW.sub (D := St w NoF [arI b10 (sl1 n i ll sl t), arI b9 ll, arI b8 (al2 n i al t y1 y2), tkI b6 (tk1 t y2) a' c', rdA (some ⟨bl, ol, none⟩) (iv l)]) ?_ (fun w' h => by
            have e : al2 n i al t y1 y2 = al1 n i al t y1 := by unfold al2; rw [if_neg (by assumption)]
            rw [e]; exact h)
          have hask := hS.ask
          have hal2 := al2_len (y1 := y1) (y2 := y2) hS
          have hage := al2_ge (y1 := y1) (y2 := y2) hS hy1 hy2.1
          have hA2 := hage (i % n) hkn
          have hV := tokB_visit (g := []) (may_ok (y1 := y1) (y2 := y2) hS hl2 hy1 hy2.1 hy2.2)
          have hhop : (tk2 n i al t y1 y2).hop = (i : Int) + 2 := by have h1 := hV.2; have h2 := hS.hop; show (visitT _ _ _ _).hop = _; rw [h1]; show t.hop + 1 = _; omega
          have hE : tokE (tk2 n i al t y1 y2) = 0 := by unfold tokE; exact if_pos hV.1
          have hseq2 : (tk2 n i al t y1 y2).seq = t.seq + y2 := by rw [tk2_eq hS hl2 hy1 hy2.1 hy2.2]
          repeat'(first|(apply CW.reg_sinkC 7; (· exact rfl); (· decide +kernel))|(apply kp;iterate 2 exact rfl)|apply jJ|(apply jE;exact rfl)|(apply jp;exact rfl)|(apply jc;kernel_rfl)|((first|apply kf|apply kn|apply ke|apply kx|apply kc|apply kb);iterate 2 exact rfl)|((first|apply kz|apply ky);(·exact rfl);(·repeat(first|exact iO|exact iR rfl|apply iT));iterate 2 exact rfl)|(apply kg;iterate 2 exact rfl)|(apply kG;iterate 3 exact rfl)|(apply kB;(iterate 2 exact rfl);intro _)|(apply kA;exact rfl;intro _)|(apply Go.Hb.kK;(iterate 4 exact rfl);intro _)|(apply kU;(iterate 2 exact rfl);(·repeat(first|exact sH _ _ _|apply sT));(first|exact nfL_eq rfl|exact rfl);exact rfl)|((first|apply kh|apply kl);(iterate 2 exact rfl);(first|decide|omega);exact rfl)|((first|(apply kR;iterate 2 exact rfl)|(apply kQ;exact rfl));all_goals(intro hc;try simp only[hcs]at hc;try(exfalso;first|contradiction|omega))))
          all_goals (
            apply DW.quiet [0, 1, 2, 3, 4, 5]
            · decide +kernel
            · first | exact fun _ h => h | exact fun _ h => St.sub h (by repeat (first | exact List.Sublist.refl _ | apply List.Sublist.cons_cons | apply List.Sublist.cons))
            repeat'(first|(apply yp;iterate 3 exact rfl)|(apply QL.ev;(·exact rfl);(·first|((first|apply Ez|apply Ey);(·exact rfl);(·repeat(first|exact iO|exact iR rfl|apply iT));exact rfl)|((first|apply Ev.fieldAddr|apply Ev.len|apply EqOf.eq|apply EqOf.ne|apply Ev.conv|apply Ev.buildN);exact rfl)|((first|apply Ev.shr|apply Ev.shl);(iterate 2 exact rfl);first|decide|omega));·exact rfl)|(apply QL.ev; (· exact rfl); (· first | (apply Ev.indexArr; (· exact rfl); (· exact rfl); (· omega); (· omega)) | (apply Ev.load; (· exact rfl); (· intro w' hw'; first | exact cellI (b := b8) hw' (by (repeat (first | exact mH _ _ | apply mT))) (q1 _) (by first | omega | (rw [al1_len (by assumption)]; omega) | (rw [al2_len (by assumption)]; omega)) | exact cellI (b := b9) hw' (by (repeat (first | exact mH _ _ | apply mT))) (q1 _) (by first | omega | (unfold ll1; rw [List.length_set]; omega)) | exact cellI (b := b10) hw' (by (repeat (first | exact mH _ _ | apply mT))) (q1 _) (by first | omega | (unfold sl1; rw [List.length_set]; omega)))) | (apply Ev.min2; (· exact rfl); (· exact rfl)) | (apply addA3; (· exact rfl); (· exact rfl); (· omega); (· omega)) | (apply Ev.add; (· exact rfl); (· exact rfl); (· omega); (· omega))); (· exact rfl))|(apply yq;iterate 5 exact rfl)|(apply QL.evg;(iterate 3 exact rfl);(·first|((first|apply Ez|apply Ey);(·exact rfl);(·repeat(first|exact iO|exact iR rfl|apply iT));exact rfl)|((first|apply Ev.fieldAddr|apply Ev.len|apply EqOf.eq|apply EqOf.ne|apply Ev.conv|apply Ev.buildN);exact rfl)|((first|apply Ev.shr|apply Ev.shl);(iterate 2 exact rfl);first|decide|omega));·exact rfl)|(apply yn;iterate 4 exact rfl)|((apply QL.split;iterate 3 exact rfl);all_goals(intro hc;try simp only[hcs]at hc;try(exfalso;first|contradiction|omega)))|apply QL.nil)
            all_goals (show DW _ _ _ _ _ _ _ _))
          all_goals (
            apply DW.loud 6
            · exact rfl
            · decide +kernel
            repeat'(first|(apply kg;iterate 2 exact rfl)|(apply kG;iterate 3 exact rfl)|apply kM|(apply kp;iterate 2 exact rfl)|((first|apply kz|apply ky);(·exact rfl);(·repeat(first|exact iO|exact iR rfl|apply iT));iterate 2 exact rfl)|(apply Go.Hb.kK;(iterate 4 exact rfl);intro _)|(apply kU;(iterate 2 exact rfl);(·repeat(first|exact sH _ _ _|apply sT));(first|exact nfL_eq rfl|exact rfl);exact rfl)|(apply kB;(iterate 2 exact rfl);intro _)|(apply kA;exact rfl;intro _)|(apply LR.call; (· exact rfl); (intro w1 h1; refine (t14 (tk1 t y2) a' c' (1 + ((i % n : Nat) : Int)) (gd (al2 n i al t y1 y2) (i % n)) none 0 [] w1 (by rw [show (tk1 t y2).ask = [] from hask]; exact Rd.nil _ _) hz (by rw [show (tk1 t y2).ask = [] from hask]; simp) (Rd.nil _ _) (by simp)).mono ?_; rintro v w2 ⟨a2, c2, rfl, hn⟩; have hz2 := ownsAt_nz hn.own; refine LR.back (St.newOd h1 hn) ?_; clear hn h1)))
            all_goals (refine At.stage_same (fun _ h => St.sub h (by repeat (first | exact List.Sublist.refl _ | apply List.Sublist.cons_cons | apply List.Sublist.cons))) ?_))
          all_goals (apply DW.done; (· decide +kernel))
          all_goals apply At.sink
          refine LR.store_obj (v := (tk2 n i al t y1 y2).val a2 c2) (z := tkI b6 (tk1 t y2) a' c') (z' := tkI b6 (tk2 n i al t y1 y2) a2 c2) rfl rfl (by (repeat (first | exact sH _ _ _ | apply sT))) rfl st_tok (Asrt.dep_own _ _) ?_
          repeat'(first|(apply kp;iterate 2 exact rfl)|apply jJ|(apply jE;exact rfl)|(apply jp;exact rfl)|(apply jc;kernel_rfl)|((first|apply kf|apply kn|apply ke|apply kx|apply kc|apply kb);iterate 2 exact rfl)|((first|apply kz|apply ky);(·exact rfl);(·repeat(first|exact iO|exact iR rfl|apply iT));iterate 2 exact rfl)|(apply kg;iterate 2 exact rfl)|(apply kG;iterate 3 exact rfl)|(apply kB;(iterate 2 exact rfl);intro _)|(apply kA;exact rfl;intro _)|(apply Go.Hb.kK;(iterate 4 exact rfl);intro _)|(apply kU;(iterate 2 exact rfl);(·repeat(first|exact sH _ _ _|apply sT));(first|exact nfL_eq rfl|exact rfl);exact rfl)|((first|apply kh|apply kl);(iterate 2 exact rfl);(first|decide|omega);exact rfl)|(apply kq; (· exact rfl); (· intro w1 h1; have hq := CallsTo.q (t16 (tk2 n i al t y1 y2) a2 c2 w1 (h1.rd_of_odl (by (repeat (first | exact mH _ _ | apply mT)))) (by have := (tok_bd hE).2.2.2.2.2.2.2.2; omega)) h1; rw [hE] at hq; exact hq))|(apply addX;(iterate 2 exact rfl);(iterate 2(first|omega|(dsimp only;omega)));exact rfl)|(apply LR.ev; (· first | (apply Ev.indexArr; (· exact rfl); (· exact rfl); (· omega); (· omega)) | (apply Ev.load; (· exact rfl); (· intro w' hw'; first | exact cellI (b := b8) hw' (by (repeat (first | exact mH _ _ | apply mT))) (q1 _) (by first | omega | (rw [al1_len (by assumption)]; omega) | (rw [al2_len (by assumption)]; omega)) | exact cellI (b := b9) hw' (by (repeat (first | exact mH _ _ | apply mT))) (q1 _) (by first | omega | (unfold ll1; rw [List.length_set]; omega)) | exact cellI (b := b10) hw' (by (repeat (first | exact mH _ _ | apply mT))) (q1 _) (by first | omega | (unfold sl1; rw [List.length_set]; omega)))) | (apply Ev.min2; (· exact rfl); (· exact rfl)) | (apply addA3; (· exact rfl); (· exact rfl); (· omega); (· omega)) | (apply Ev.add; (· exact rfl); (· exact rfl); (· omega); (· omega))); (· exact rfl))|((first|(apply kR;iterate 2 exact rfl)|(apply kQ;exact rfl));all_goals(intro hc;try simp only[hcs]at hc;try(exfalso;first|contradiction|omega))))
          refine LR.store_obj (v := .int .i64 (tk2 n i al t y1 y2).aru) (z := arI b9 ll) (z' := arI b9 (ll1 n i al ll t y1 y2)) rfl rfl (by (repeat (first | exact sH _ _ _ | apply sT))) rfl (st_arr (by simp only [Int.toNat_natCast, Nat.zero_add, Nat.mul_one]) (by omega)) (Asrt.dep_own _ _) ?_
          repeat'(first|(apply kp;iterate 2 exact rfl)|apply jJ|(apply jE;exact rfl)|(apply jp;exact rfl)|(apply jc;kernel_rfl)|((first|apply kf|apply kn|apply ke|apply kx|apply kc|apply kb);iterate 2 exact rfl)|((first|apply kz|apply ky);(·exact rfl);(·repeat(first|exact iO|exact iR rfl|apply iT));iterate 2 exact rfl)|(apply kg;iterate 2 exact rfl)|(apply kG;iterate 3 exact rfl)|(apply kB;(iterate 2 exact rfl);intro _)|(apply kA;exact rfl;intro _)|(apply Go.Hb.kK;(iterate 4 exact rfl);intro _)|(apply kU;(iterate 2 exact rfl);(·repeat(first|exact sH _ _ _|apply sT));(first|exact nfL_eq rfl|exact rfl);exact rfl)|((first|apply kh|apply kl);(iterate 2 exact rfl);(first|decide|omega);exact rfl)|((first|(apply kR;iterate 2 exact rfl)|(apply kQ;exact rfl));all_goals(intro hc;try simp only[hcs]at hc;try(exfalso;first|contradiction|omega))))
          obtain ⟨qn, hqn⟩ := and_7n (x.fdiv (2 ^ min (Int.toNat 4) IntKind.i64.bits))
          generalize andI IntKind.i64 (x.fdiv (2 ^ min (Int.toNat 4) IntKind.i64.bits)) 7 = qi at hqn ⊢
          subst hqn
          have hjj : qn % n < n := Nat.mod_lt _ (by omega)
          have hA3 := hage (qn % n) hjj
          have hab3 := hS.ab (qn % n) hjj
          repeat'(first|(apply CW.reg_sinkC 12; (· exact rfl); (· decide +kernel))|(apply kp;iterate 2 exact rfl)|apply jJ|(apply jE;exact rfl)|(apply jp;exact rfl)|(apply jc;kernel_rfl)|((first|apply kf|apply kn|apply ke|apply kx|apply kc|apply kb);iterate 2 exact rfl)|((first|apply kz|apply ky);(·exact rfl);(·repeat(first|exact iO|exact iR rfl|apply iT));iterate 2 exact rfl)|(apply kg;iterate 2 exact rfl)|(apply kG;iterate 3 exact rfl)|(apply kB;(iterate 2 exact rfl);intro _)|(apply kA;exact rfl;intro _)|(apply Go.Hb.kK;(iterate 4 exact rfl);intro _)|(apply kU;(iterate 2 exact rfl);(·repeat(first|exact sH _ _ _|apply sT));(first|exact nfL_eq rfl|exact rfl);exact rfl)|((first|apply kh|apply kl);(iterate 2 exact rfl);(first|decide|omega);exact rfl)|(apply LR.ev; (· apply remQ (a := qn) (b := n) (q := qn % n) rfl; (· exact rfl); (· exact rfl); (· omega)); (· exact rfl))|((first|(apply kR;iterate 2 exact rfl)|(apply kQ;exact rfl));all_goals(intro hc;try simp only[hcs]at hc;try(exfalso;first|contradiction|omega))))
          all_goals (
            apply DW.quiet [0, 1, 2, 3, 4, 5, 6, 7, 8, 9, 10, 11]
            · decide +kernel
            · first | exact fun _ h => h | exact fun _ h => St.sub h (by repeat (first | exact List.Sublist.refl _ | apply List.Sublist.cons_cons | apply List.Sublist.cons))
            repeat'(first|(apply yp;iterate 3 exact rfl)|(apply QL.ev;(·exact rfl);(·first|((first|apply Ez|apply Ey);(·exact rfl);(·repeat(first|exact iO|exact iR rfl|apply iT));exact rfl)|((first|apply Ev.fieldAddr|apply Ev.len|apply EqOf.eq|apply EqOf.ne|apply Ev.conv|apply Ev.buildN);exact rfl)|((first|apply Ev.shr|apply Ev.shl);(iterate 2 exact rfl);first|decide|omega));·exact rfl)|(apply QL.ev; (· exact rfl); (· first | (apply Ev.indexArr; (· exact rfl); (· exact rfl); (· omega); (· omega)) | (apply Ev.load; (· exact rfl); (· intro w' hw'; first | exact cellI (b := b8) hw' (by (repeat (first | exact mH _ _ | apply mT))) (q1 _) (by first | omega | (rw [al1_len (by assumption)]; omega) | (rw [al2_len (by assumption)]; omega)) | exact cellI (b := b9) hw' (by (repeat (first | exact mH _ _ | apply mT))) (q1 _) (by first | omega | (unfold ll1; rw [List.length_set]; omega)) | exact cellI (b := b10) hw' (by (repeat (first | exact mH _ _ | apply mT))) (q1 _) (by first | omega | (unfold sl1; rw [List.length_set]; omega)))) | (apply Ev.min2; (· exact rfl); (· exact rfl)) | (apply addA3; (· exact rfl); (· exact rfl); (· omega); (· omega)) | (apply Ev.add; (· exact rfl); (· exact rfl); (· omega); (· omega))); (· exact rfl))|(apply yq;iterate 5 exact rfl)|(apply QL.evg;(iterate 3 exact rfl);(·first|((first|apply Ez|apply Ey);(·exact rfl);(·repeat(first|exact iO|exact iR rfl|apply iT));exact rfl)|((first|apply Ev.fieldAddr|apply Ev.len|apply EqOf.eq|apply EqOf.ne|apply Ev.conv|apply Ev.buildN);exact rfl)|((first|apply Ev.shr|apply Ev.shl);(iterate 2 exact rfl);first|decide|omega));·exact rfl)|(apply yn;iterate 4 exact rfl)|((apply QL.split;iterate 3 exact rfl);all_goals(intro hc;try simp only[hcs]at hc;try(exfalso;first|contradiction|omega)))|apply QL.nil)
            all_goals (show DW _ _ _ _ _ _ _ _))
          all_goals (apply DW.done; (· decide +kernel))
          all_goals apply At.sink
          have hy3 := and_3 (x.fdiv (2 ^ min (Int.toNat 7) IntKind.i64.bits))
          generalize andI IntKind.i64 (x.fdiv (2 ^ min (Int.toNat 7) IntKind.i64.bits)) 3 = y3 at hy3 ⊢
          refine LR.store_obj (v := .int .i64 (if gd (al2 n i al t y1 y2) (qn % n) + y3 < (tk2 n i al t y1 y2).seq then gd (al2 n i al t y1 y2) (qn % n) + y3 else (tk2 n i al t y1 y2).seq)) (z := arI b8 (al2 n i al t y1 y2)) (z' := arI b8 (al3 n i al t y1 y2 y3 (qn % n))) rfl rfl (by (repeat (first | exact sH _ _ _ | apply sT))) rfl (st_arr (by simp only [Int.toNat_natCast, Nat.zero_add, Nat.mul_one]) (by omega)) (Asrt.dep_own _ _) ?_
          repeat'(first|(apply kp;iterate 2 exact rfl)|apply jJ|(apply jE;exact rfl)|(apply jp;exact rfl)|(apply jc;kernel_rfl)|((first|apply kf|apply kn|apply ke|apply kx|apply kc|apply kb);iterate 2 exact rfl)|((first|apply kz|apply ky);(·exact rfl);(·repeat(first|exact iO|exact iR rfl|apply iT));iterate 2 exact rfl)|(apply kg;iterate 2 exact rfl)|(apply kG;iterate 3 exact rfl)|(apply kB;(iterate 2 exact rfl);intro _)|(apply kA;exact rfl;intro _)|(apply Go.Hb.kK;(iterate 4 exact rfl);intro _)|(apply kU;(iterate 2 exact rfl);(·repeat(first|exact sH _ _ _|apply sT));(first|exact nfL_eq rfl|exact rfl);exact rfl)|((first|apply kh|apply kl);(iterate 2 exact rfl);(first|decide|omega);exact rfl)|(apply addX;(iterate 2 exact rfl);(iterate 2(first|omega|(dsimp only;omega)));exact rfl)|((first|(apply kR;iterate 2 exact rfl)|(apply kQ;exact rfl));all_goals(intro hc;try simp only[hcs]at hc;try(exfalso;first|contradiction|omega))))
          refine At.again (⟨i + 1, al3 n i al t y1 y2 y3 (qn % n), ll1 n i al ll t y1 y2, sl1 n i ll sl t, tk2 n i al t y1 y2, a2, c2⟩ : Sst) ⟨by simp only; omega, by simp only; omega, hS.step hl2 hy1 hy2.1 hy2.2 hy3.1 hjj, hz2⟩ ?_ ⟨rfl, trivial⟩ (fun w' hw' => hw'.sub (by (repeat (first | exact List.Sublist.refl _ | apply List.Sublist.cons_cons | apply List.Sublist.cons)))) (by simp only; omega)
          (repeat (first | exact Out.refl _ _ | exact Out.mix | (apply Out.upd; (· exact rfl)) | (apply Out.updL; (· exact rfl)) | (apply Out.mixs; (· exact rfl))))
  · repeat'(first|(apply kp;iterate 2 exact rfl)|apply jJ|(apply jE;exact rfl)|(apply jp;exact rfl)|(apply jc;kernel_rfl)|((first|apply kf|apply kn|apply ke|apply kx|apply kc|apply kb);iterate 2 exact rfl)|((first|apply kz|apply ky);(·exact rfl);(·repeat(first|exact iO|exact iR rfl|apply iT));iterate 2 exact rfl)|(apply kg;iterate 2 exact rfl)|(apply kG;iterate 3 exact rfl)|(apply kB;(iterate 2 exact rfl);intro _)|(apply kA;exact rfl;intro _)|(apply Go.Hb.kK;(iterate 4 exact rfl);intro _)|(apply kU;(iterate 2 exact rfl);(·repeat(first|exact sH _ _ _|apply sT));(first|exact nfL_eq rfl|exact rfl);exact rfl)|((first|apply kh|apply kl);(iterate 2 exact rfl);(first|decide|omega);exact rfl)|((first|(apply kR;iterate 2 exact rfl)|(apply kQ;exact rfl));all_goals(intro hc;try simp only[hcs]at hc;try(exfalso;first|contradiction|omega))))
    all_goals (
      (apply ret1; (· exact rfl); intro w' hS)
      exact ⟨rfl, hS.toKeep⟩)
end Go.Proofs.Ythmmmbphknoagaa

namespace Go.Proofs.Ythmmmbphknoagaa
open Go.Hb
attribute [local irreducible] LR CW At Ev thn blk finK noG again CallsTo DW QL dnext
set_option linter.unusedSimpArgs false
set_option linter.unusedVariables false
set_option maxRecDepth 100000

def askL (t : Tk) (g : List Int) : List Int := Lib.compact (sortI (t.ask ++ gapsQ t.seq g))
theorem askL_asc (t : Tk) (g : List Int) : (askL t g).Pairwise (· < ·) := comp_sort_asc _
theorem askL_mem {t : Tk} (g : List Int) (h : tokE t = 0) (x : Int) : x ∈ askL t g ↔ x ∈ t.ask ++ g ∧ 0 < x ∧ x ≤ t.seq := by
  have ha := (tokB_ask (tok_b h)).2.1
  unfold askL
  rw [comp_sort_mem, List.mem_append, List.mem_append]
  unfold gapsQ withinB
  simp only [List.mem_filter, Bool.and_eq_true, decide_eq_true_eq]
  constructor
  · rintro (h1 | ⟨h1, h2⟩)
    · have := ha x h1; exact ⟨.inl h1, by omega, by omega⟩
    · exact ⟨.inr h1, by omega, by omega⟩
  · rintro ⟨h1 | h1, h2, h3⟩
    · exact .inl h1
    · exact .inr ⟨h1, by omega, by omega⟩
theorem last_snoc (l : List Int) (z x : Int) : lastI z (l ++ [x]) = x := by
  unfold lastI; rw [List.getLastD_eq_getLast?, List.getLast?_append]; simp
theorem take_snoc {L : List Int} {k : Nat} (h : k < L.length) : L.take (k + 1) = L.take k ++ [L[k]] := by
  rw [List.take_add_one, List.getElem?_eq_getElem h, Option.toList_some]
def vis2 (t : Tk) (node aru : Int) (l : List Int) : Tk := { vis1 t node aru with ask := l }
theorem visit_is {t : Tk} {node aru : Int} {g : List Int} (h : mayV t node aru = true) : visitT t node aru g = vis2 t node aru ((askL t g).take 16) := by
  unfold visitT
  rw [if_pos h]
  rfl
structure Lst where
  k : Nat
  a : Option Addr
  c : Nat
set_option maxHeartbeats 2000000 in
theorem t15 (t : Tk) (a : Option Addr) (c : Nat) (node aru : Int) (ag : Option Addr) (cg : Nat) (g : List Int) (w : World) (hr : Rd w a (iv t.ask)) (hm : t.ask.length ≤ 17592186043904) (hrg : Rd w ag (iv g)) (hmg : g.length ≤ 17592186043904) :
    CallsTo Try.prog 15 [t.val a c, .int .i64 node, .int .i64 aru, .slice ag g.length cg] w fun v w' => ∃ a' c', v = (visitT t node aru g).val a' c' ∧ NewSl w w' (.slice a' (visitT t node aru g).ask.length c') 3 1 (visitT t node aru g).ask.length (iv (visitT t node aru g).ask) := by
  refine go_in (n := 86) (St.rd2 hr hrg) Try.func15 rfl rfl ?_
  repeat'(first|(apply kB;(iterate 2 exact rfl);intro b4)|(apply kA;exact rfl;(first|(have := b8;clear this;intro b9)|intro b8))|(apply kp;iterate 2 exact rfl)|apply jJ|(apply jE;exact rfl)|(apply jp;exact rfl)|(apply jc;kernel_rfl)|((first|apply kf|apply kn|apply ke|apply kx|apply kc|apply kb);iterate 2 exact rfl)|((first|apply kz|apply ky);(·exact rfl);(·repeat(first|exact iO|exact iR rfl|apply iT));iterate 2 exact rfl)|(apply kg;iterate 2 exact rfl)|(apply kG;iterate 3 exact rfl)|(apply kB;(iterate 2 exact rfl);intro _)|(apply kA;exact rfl;intro _)|(apply Go.Hb.kK;(iterate 4 exact rfl);intro _)|(apply kU;(iterate 2 exact rfl);(·repeat(first|exact sH _ _ _|apply sT));(first|exact nfL_eq rfl|exact rfl);exact rfl)|((first|apply kh|apply kl);(iterate 2 exact rfl);(first|decide|omega);exact rfl)|(apply kq; (· exact rfl); (· intro w1 h1; exact CallsTo.q (t17 t a c w1 (h1.rd_of (by (repeat (first | exact mH _ _ | apply mT)))) (by omega)) h1))|(apply addX;(iterate 2 exact rfl);(have := tok_bd (by assumption); omega);(have := tok_bd (by assumption); omega);exact rfl)|(apply LR.ev; (· apply Ev.min2; (· exact rfl); (· exact rfl)); (· exact rfl))|((first|(apply kR;iterate 2 exact rfl)|(apply kQ;exact rfl));all_goals(intro hc;try simp only[hcs]at hc;try(exfalso;first|contradiction|omega))))
  all_goals (
    first
    | ((apply ret1c; (· exact rfl); (· exact inferInstance); (· exact rfl); (· (repeat (first | exact List.Mem.head _ | apply List.Mem.tail))); (· exact rfl); intro w' hS)
       have e : visitT t node aru g = noTk := by unfold visitT mayV; rw [if_neg]; first | (rw [tok_nb (by assumption)]; simp; done) | (have hbd := tok_bd (by assumption); unfold withinB; simp; intros; omega)
       rw [e]
       exact ⟨none, 0, rfl, hS.toKeep, World.ownsRow_nil _ _ _ _⟩)
    | skip)
  all_goals (try (exfalso; have hbd := tok_bd (by assumption); omega))
  all_goals (
    have hE : tokE t = 0 := by assumption
    have hbd := tok_bd hE
    have hmay : mayV t node aru = true := by
      unfold mayV withinB
      rw [tok_b hE]
      simp only [Bool.true_and, Bool.and_eq_true, Bool.not_eq_true', decide_eq_false_iff_not, decide_eq_true_eq]
      refine ⟨⟨?_, ?_⟩, ?_⟩ <;> omega
    refine CW.sub (D := St w NoF [tkI b9 (vis2 t node aru []) none 0, tkI b8 noTk none 0, tkI b4 t a c, rdA a (iv t.ask), rdA ag (iv g)]) ?_ (fun w' h => by
      show St w NoF [.own b9 (.cells #[.int .i64 t.r1, .int .i64 t.r2, .int .i64 (t.hop + 1), .int .i64 t.seq, .int .i64 (aruV t node aru).1, .int .i64 (aruV t node aru).2, .int .i64 t.stamp, .int .i64 t.idle, .slice none 0 0] 26 (0, 0)), .own b8 (.cells (noTk.cells none 0).toArray 26 (0, 0)), .own b4 (.cells (t.cells a c).toArray 26 (0, 0)), rdA a (iv t.ask), rdA ag (iv g)] w'
      first
      | (refine (fun (e : aruV t node aru = (if t.seq < aru then t.seq else aru, 0)) => ?_) (aruV_a ?_ ?_)
         · rw [e]; exact h
         · omega
         · assumption)
      | (refine (fun (e : aruV t node aru = (if t.seq < aru then t.seq else aru, node)) => ?_) (aruV_b ?_ ?_)
         · rw [e]; exact h
         · omega
         · assumption)
      | (refine (fun (e : aruV t node aru = (t.aru, t.low)) => ?_) (aruV_c ?_)
         · rw [e]; exact h
         · omega)))
  all_goals (
    have hLa := askL_asc t g
    have hLm := askL_mem g hE
    have hV := visit_is (g := g) hmay
    generalize askL t g = L at hLa hLm hV
    apply CW.loop [10, 66, 67, 68, 69, 70, 71, 72, 73, 74, 75, 76, 77, 78, 79, 80, 81, 82, 83, 84] (fun s : Lst => s.k ≤ 16 ∧ s.k ≤ L.length) (fun s => [(10, .int .i64 (lastI 0 (L.take s.k)))])
      (fun s => St w NoF [osl (.slice s.a s.k s.c) 3 1 s.k (iv (L.take s.k)), .own b9 (.cells #[.int .i64 t.r1, .int .i64 t.r2, .int .i64 (t.hop + 1), .int .i64 t.seq, .int .i64 (aruV t node aru).1, .int .i64 (aruV t node aru).2, .int .i64 t.stamp, .int .i64 t.idle, .slice s.a s.k s.c] 26 (0, 0)), tkI b8 noTk none 0, tkI b4 t a c, rdA a (iv t.ask), rdA ag (iv g)]) (fun s => 16 - s.k)
    · exact fun w' hw' => ⟨⟨0, none, 0⟩, ⟨by simp, by simp⟩, ⟨rfl, trivial⟩, hw'.nilsl 3 1⟩
    rintro ⟨k, a2, c2⟩ g1 ⟨hk, hkL⟩
    simp only at hk hkL ⊢
    have hfin : ∀ w', k = 16 ∨ k = L.length → St w NoF [osl (.slice a2 k c2) 3 1 k (iv (L.take k))] w' → ∃ a' c', (.agg #[.int .i64 t.r1, .int .i64 t.r2, .int .i64 (t.hop + 1), .int .i64 t.seq, .int .i64 (aruV t node aru).1, .int .i64 (aruV t node aru).2, .int .i64 t.stamp, .int .i64 t.idle, .slice a2 k c2]) = (visitT t node aru g).val a' c' ∧ NewSl w w' (Value.slice a' (visitT t node aru g).ask.length c') 3 1 (visitT t node aru g).ask.length (iv (visitT t node aru g).ask) := by
      intro w' hc hS
      have hT : L.take 16 = L.take k := by
        rcases hc with e | e
        · rw [e]
        · rw [e, List.take_of_length_le (Nat.le_refl _), List.take_of_length_le (by omega)]
      have hl : (L.take k).length = k := by rw [List.length_take]; omega
      rw [hV, hT]
      refine ⟨a2, c2, ?_, ?_⟩
      · show _ = Value.agg #[.int .i64 t.r1, .int .i64 t.r2, .int .i64 (t.hop + 1), .int .i64 t.seq, .int .i64 (aruV t node aru).1, .int .i64 (aruV t node aru).2, .int .i64 t.stamp, .int .i64 t.idle, .slice a2 (L.take k).length c2]
        rw [hl]
      · show NewSl w w' (Value.slice a2 (L.take k).length c2) 3 1 (L.take k).length (iv (L.take k))
        rw [hl]
        exact hS.toNew (mH _ _)
    have hnext := least_next hLa hLm k
    have hcall : ∀ w1, St w NoF [osl (.slice a2 k c2) 3 1 k (iv (L.take k)), .own b9 (.cells #[.int .i64 t.r1, .int .i64 t.r2, .int .i64 (t.hop + 1), .int .i64 t.seq, .int .i64 (aruV t node aru).1, .int .i64 (aruV t node aru).2, .int .i64 t.stamp, .int .i64 t.idle, .slice a2 k c2] 26 (0, 0)), tkI b8 noTk none 0, tkI b4 t a c, rdA a (iv t.ask), rdA ag (iv g)] w1 → CallsTo Try.prog 55 [.slice a t.ask.length c, .slice ag g.length cg, .int .i64 (lastI 0 (L.take k)), .int .i64 t.seq] w1 (fun v w' => v = .int .i64 ((L[k]?).getD 0) ∧ St w NoF [osl (.slice a2 k c2) 3 1 k (iv (L.take k)), .own b9 (.cells #[.int .i64 t.r1, .int .i64 t.r2, .int .i64 (t.hop + 1), .int .i64 t.seq, .int .i64 (aruV t node aru).1, .int .i64 (aruV t node aru).2, .int .i64 t.stamp, .int .i64 t.idle, .slice a2 k c2] 26 (0, 0)), tkI b8 noTk none 0, tkI b4 t a c, rdA a (iv t.ask), rdA ag (iv g)] w') := fun w1 h1 => by
      rw [← hnext]
      exact CallsTo.q (t55 a c t.ask ag cg g (lastI 0 (L.take k)) t.seq w1 (h1.rd_of (by (repeat (first | exact mH _ _ | apply mT)))) (h1.rd_of (by (repeat (first | exact mH _ _ | apply mT)))) hm hmg) h1
    by_cases hkl : k < L.length
    · have hpos : 0 < L[k] := ((hLm _).1 (List.getElem_mem hkl)).2.1
      rw [List.getElem?_eq_getElem hkl] at hcall
      simp only [Option.getD_some] at hcall
      have htk := take_snoc hkl
      repeat'(first|(apply Go.Hb.kK;(iterate 4 exact rfl);intro bs)|(apply kp;iterate 2 exact rfl)|apply jJ|(apply jE;exact rfl)|(apply jp;exact rfl)|(apply jc;kernel_rfl)|((first|apply kf|apply kn|apply ke|apply kx|apply kc|apply kb);iterate 2 exact rfl)|((first|apply kz|apply ky);(·exact rfl);(·repeat(first|exact iO|exact iR rfl|apply iT));iterate 2 exact rfl)|(apply kg;iterate 2 exact rfl)|(apply kG;iterate 3 exact rfl)|(apply kB;(iterate 2 exact rfl);intro _)|(apply kA;exact rfl;intro _)|(apply Go.Hb.kK;(iterate 4 exact rfl);intro _)|(apply kU;(iterate 2 exact rfl);(·repeat(first|exact sH _ _ _|apply sT));(first|exact nfL_eq rfl|exact rfl);exact rfl)|((first|apply kh|apply kl);(iterate 2 exact rfl);(first|decide|omega);exact rfl)|(apply kq; (· exact rfl); (· exact fun w1 h1 => hcall w1 h1))|(apply LR.append (xs := iv (L.take k)) (news := [Value.int .i64 L[k]]) (m := 1); (· exact rfl); (· exact rfl); (· intro a' c'; (repeat (first | exact sH _ _ _ | apply sT))); (· exact fun w' hw' => hw'.rd_of_blk (mH _ _)); (· exact fun hx => by cases hx); (· exact rfl); (· exact rfl); (· omega); (· unfold maxLen; omega); (· exact rfl); (intro a3 c3))|((first|(apply kR;iterate 2 exact rfl)|(apply kQ;exact rfl));all_goals(intro hc;try simp only[hcs]at hc;try(exfalso;first|contradiction|omega))))
      · refine At.again (⟨k + 1, a3, c3⟩ : Lst) ⟨by simp only; omega, by simp only; omega⟩ ?_ ⟨?_, trivial⟩ ?_ (by simp only; omega)
        · (repeat (first | exact Out.refl _ _ | exact Out.mix | (apply Out.upd; (· exact rfl)) | (apply Out.updL; (· exact rfl)) | (apply Out.mixs; (· exact rfl))))
        · simp only
          rw [htk, last_snoc]
          rfl
        · intro w' hw'
          simp only
          rw [htk]
          have e : iv (L.take k ++ [L[k]]) = iv (L.take k) ++ [Value.int .i64 L[k]] := by unfold iv; rw [List.map_append]; rfl
          rw [e]
          exact hw'.sub (by (repeat (first | exact List.Sublist.refl _ | apply List.Sublist.cons_cons | apply List.Sublist.cons)))
      · (apply ret1c; (· exact rfl); (· exact inferInstance); (· exact rfl); (· (repeat (first | exact List.Mem.head _ | apply List.Mem.tail))); (· exact rfl); intro w' hS)
        exact hfin _ (by omega) (hS.sub (by (repeat (first | exact List.Sublist.refl _ | apply List.Sublist.cons_cons | apply List.Sublist.cons))))
    · rw [List.getElem?_eq_none (by omega)] at hcall
      repeat'(first|(apply kp;iterate 2 exact rfl)|apply jJ|(apply jE;exact rfl)|(apply jp;exact rfl)|(apply jc;kernel_rfl)|((first|apply kf|apply kn|apply ke|apply kx|apply kc|apply kb);iterate 2 exact rfl)|((first|apply kz|apply ky);(·exact rfl);(·repeat(first|exact iO|exact iR rfl|apply iT));iterate 2 exact rfl)|(apply kg;iterate 2 exact rfl)|(apply kG;iterate 3 exact rfl)|(apply kB;(iterate 2 exact rfl);intro _)|(apply kA;exact rfl;intro _)|(apply Go.Hb.kK;(iterate 4 exact rfl);intro _)|(apply kU;(iterate 2 exact rfl);(·repeat(first|exact sH _ _ _|apply sT));(first|exact nfL_eq rfl|exact rfl);exact rfl)|((first|apply kh|apply kl);(iterate 2 exact rfl);(first|decide|omega);exact rfl)|(apply kq; (· exact rfl); (· exact fun w1 h1 => hcall w1 h1))|((first|(apply kR;iterate 2 exact rfl)|(apply kQ;exact rfl));all_goals(intro hc;try simp only[hcs]at hc;try(exfalso;first|contradiction|omega))))
      all_goals (
        (apply ret1c; (· exact rfl); (· exact inferInstance); (· exact rfl); (· (repeat (first | exact List.Mem.head _ | apply List.Mem.tail))); (· exact rfl); intro w' hS)
        exact hfin _ (by omega) (hS.sub (by (repeat (first | exact List.Sublist.refl _ | apply List.Sublist.cons_cons | apply List.Sublist.cons))))))
end Go.Proofs.Ythmmmbphknoagaa

namespace Go.Proofs.Ythmmmbphknoagaa
open Go.Hb
set_option linter.unusedSimpArgs false
set_option linter.unusedVariables false
set_option maxRecDepth 100000

theorem ints_of : ∀ (css : List (List Value)), (∀ c ∈ css, ∃ n : Int, c = [.int .i64 n] ∧ i64 n) → ∃ l : List Int, css.flatten = iv l ∧ l.length = css.length ∧ ∀ x ∈ l, i64 x
  | [], _ => ⟨[], rfl, rfl, fun p hp => by simp at hp⟩
  | c :: r, h => by
    obtain ⟨n, rfl, hp⟩ := h c List.mem_cons_self
    obtain ⟨l, h1, h2, h3⟩ := ints_of r fun c hc => h c (List.mem_cons_of_mem _ hc)
    refine ⟨n :: l, by rw [List.flatten_cons, h1]; rfl, by simp [h2], fun q hq => ?_⟩
    rcases List.mem_cons.1 hq with rfl | hq
    · exact hp
    · exact h3 q hq
theorem opn_ints : Opn Try.prog 24 (fun w cs => ∃ (a : Option Addr) (c : Nat) (l : List Int), cs = [.slice a l.length c] ∧ Rd w a (iv l) ∧ (∀ x ∈ l, i64 x) ∧ (a = none → c = 0) ∧ l.length ≤ c ∧ l.length ≤ 17592186043904) := by
  refine (opn_slice Try.underlying24 (sz := 1) (by_ := 8) (by kernel_rfl) (by omega) (by kernel_rfl) opn_i64).mono ?_
  rintro w cs ⟨a, len, cap, css, rfl, rfl, hg, hr, hz, hc, hm⟩
  obtain ⟨l, h1, h2, h3⟩ := ints_of css fun c hc => (hg c hc).1
  rw [h1] at hr
  have hm : css.length * 8 ≤ 140737488351232 := hm
  exact ⟨a, cap, l, by rw [h2], hr, h3, hz, by omega, by omega⟩
def TkI (t : Tk) : Prop := i64 t.r1 ∧ i64 t.r2 ∧ i64 t.hop ∧ i64 t.seq ∧ i64 t.aru ∧ i64 t.low ∧ i64 t.stamp ∧ i64 t.idle ∧ ∀ x ∈ t.ask, i64 x
theorem opn_tok : Opn Try.prog 26 (fun w cs => ∃ (t : Tk) (a : Option Addr) (c : Nat), cs = t.cells a c ∧ Rd w a (iv t.ask) ∧ TkI t ∧ (a = none → c = 0) ∧ t.ask.length ≤ c ∧ t.ask.length ≤ 17592186043904) := by
  refine (opn_struct Try.underlying26).mono fun w cs ⟨hl, h⟩ => ?_
  have hl : cs.length = 9 := hl
  match cs, hl with
  | [y0, y1, y2, y3, y4, y5, y6, y7, y8], hl =>
    obtain ⟨x0, x1, h0, g0, g1⟩ := h 0 _ rfl _ opn_ring
    obtain ⟨x2, h2, g2⟩ := h 1 _ rfl _ opn_i64
    obtain ⟨x3, h3, g3⟩ := h 2 _ rfl _ opn_i64
    obtain ⟨x4, h4, g4⟩ := h 3 _ rfl _ opn_i64
    obtain ⟨x5, h5, g5⟩ := h 4 _ rfl _ opn_i64
    obtain ⟨x6, h6, g6⟩ := h 5 _ rfl _ opn_i64
    obtain ⟨x7, h7, g7⟩ := h 6 _ rfl _ opn_i64
    obtain ⟨a, c, l, h8, hr, hb, hz, hc, hm⟩ := h 7 _ rfl _ opn_ints
    have k0 : [y0, y1] = [Value.int .i64 x0, .int .i64 x1] := h0
    have k2 : [y2] = [Value.int .i64 x2] := h2
    have k3 : [y3] = [Value.int .i64 x3] := h3
    have k4 : [y4] = [Value.int .i64 x4] := h4
    have k5 : [y5] = [Value.int .i64 x5] := h5
    have k6 : [y6] = [Value.int .i64 x6] := h6
    have k7 : [y7] = [Value.int .i64 x7] := h7
    have k8 : [y8] = [Value.slice a l.length c] := h8
    simp only [List.cons.injEq, and_true] at k0 k2 k3 k4 k5 k6 k7 k8
    exact ⟨⟨x0, x1, x2, x3, x4, x5, x6, x7, l⟩, a, c, by rw [k0.1, k0.2, k2, k3, k4, k5, k6, k7, k8]; rfl, hr, ⟨g0, g1, g2, g3, g4, g5, g6, g7, hb⟩, hz, hc, hm⟩
structure Vst where
  node : Int
  aru : Int
  gaps : List Int
def Vst.cells (v : Vst) (a : Option Addr) (c : Nat) : List Value := [.int .i64 v.node, .int .i64 v.aru, .slice a v.gaps.length c]
def Vst.val (v : Vst) (a : Option Addr) (c : Nat) : Value := .agg (v.cells a c).toArray
def VstI (v : Vst) : Prop := i64 v.node ∧ i64 v.aru ∧ ∀ x ∈ v.gaps, i64 x
theorem opn_at : Opn Try.prog 28 (fun w cs => ∃ (v : Vst) (a : Option Addr) (c : Nat), cs = v.cells a c ∧ Rd w a (iv v.gaps) ∧ VstI v ∧ (a = none → c = 0) ∧ v.gaps.length ≤ c ∧ v.gaps.length ≤ 17592186043904) := by
  refine (opn_struct Try.underlying28).mono fun w cs ⟨hl, h⟩ => ?_
  have hl : cs.length = 3 := hl
  match cs, hl with
  | [y0, y1, y2], hl =>
    obtain ⟨x0, h0, g0⟩ := h 0 _ rfl _ opn_i64
    obtain ⟨x1, h1, g1⟩ := h 1 _ rfl _ opn_i64
    obtain ⟨a, c, l, h2, hr, hb, hz, hc, hm⟩ := h 2 _ rfl _ opn_ints
    have k0 : [y0] = [Value.int .i64 x0] := h0
    have k1 : [y1] = [Value.int .i64 x1] := h1
    have k2 : [y2] = [Value.slice a l.length c] := h2
    simp only [List.cons.injEq, and_true] at k0 k1 k2
    exact ⟨⟨x0, x1, l⟩, a, c, by rw [k0, k1, k2]; rfl, hr, ⟨g0, g1, hb⟩, hz, hc, hm⟩
end Go.Proofs.Ythmmmbphknoagaa
