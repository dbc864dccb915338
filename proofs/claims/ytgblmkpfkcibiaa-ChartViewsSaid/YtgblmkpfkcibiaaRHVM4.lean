/-
  View answers as the chapter says. Conditions: none.
-/
import Derived.Test.YtgblmkpfkcibiaaRHVM3
import Derived.OpenShut

set_option linter.unusedSimpArgs false
set_option linter.unusedVariables false
namespace Go.Proofs.Ytgblmkpfkcibiaa
open Go.Hb
attribute [local irreducible] LR CW At Ev thn blk finK noG again CallsTo DW QL dnext TW DP gpost
set_option maxRecDepth 100000

instance : DecidableEq Plc := fun a b =>
  if h : a.ring = b.ring ∧ a.seq = b.seq ∧ a.rep = b.rep ∧ a.members = b.members then isTrue (by cases a; cases b; simp_all)
  else isFalse (fun e => h (by subst e; exact ⟨rfl, rfl, rfl, rfl⟩))
theorem plc_eq (a b : Plc) : decide ([a.ring, a.seq, a.rep, a.members] = [b.ring, b.seq, b.rep, b.members]) = decide (a = b) := by
  rw [decide_eq_decide]
  cases a; cases b; simp
set_option maxHeartbeats 1000000 in
theorem m25 (a b : Option Addr) (ca cb : Nat) (la lb : List Plc) (w : World) (ha : Rd w a (pcs la)) (hb : Rd w b (pcs lb)) (hm : la.length ≤ 17592186043904) :
    CallsTo Try.prog 25 [.slice a la.length ca, .slice b lb.length cb] w fun v w' => v = .bool (decide (la = lb)) ∧ Grew w w' := by
  refine go_in (n := 26) (St.rd2 ha hb) Try.func25 rfl rfl ?_
  by_cases hl : la.length = lb.length
  rotate_left
  · repeat'(first|refine kv' ?_|apply jJ|refine jE' ?_|refine jp' ?_|(apply jc;kernel_rfl)|refine kg' ?_|refine kG' ?_|refine kB' fun _=>?_|refine kA' fun _=>?_|refine kK' fun _=>?_|refine kU' ?_|((first|refine kR' ?_ ?_|refine kQ' ?_ ?_);all_goals(intro hc;try simp only[hcs]at hc;try(exfalso;first|contradiction|omega))))
    (apply ret1; (· exact rfl); intro w' hS)
    refine ⟨congrArg Value.bool ?_, hS.toKeep⟩
    have : la ≠ lb := fun e => hl (by rw [e])
    simp [this]
  repeat'(first|refine kv' ?_|apply jJ|refine jE' ?_|refine jp' ?_|(apply jc;kernel_rfl)|refine kg' ?_|refine kG' ?_|refine kB' fun _=>?_|refine kA' fun _=>?_|refine kK' fun _=>?_|refine kU' ?_|((first|refine kR' ?_ ?_|refine kQ' ?_ ?_);all_goals(intro hc;try simp only[hcs]at hc;try(exfalso;first|contradiction|omega))))
  apply CW.loop [4, 5, 11, 12, 13, 14, 15, 16, 17, 18, 19, 20, 21, 22, 23, 24, 25] (fun i : Nat => i ≤ la.length ∧ la.take i = lb.take i) (fun i : Nat => [(5, Value.int .i64 i)]) (fun i => St w NoF [rdA a (pcs la), rdA b (pcs lb)]) (fun i => la.length - i)
  · exact fun w' hw' => ⟨0, ⟨by omega, by simp⟩, ⟨rfl, trivial⟩, hw'⟩
  intro i g ⟨hi, heq⟩
  by_cases hlt : i < la.length
  · obtain ⟨ba, oa, rfl⟩ := ha.form (fun e => by have h1 := congrArg List.length e; rw [pcs_length, List.length_nil] at h1; omega)
    obtain ⟨bb, ob, rfl⟩ := hb.form (fun e => by have h1 := congrArg List.length e; rw [pcs_length, List.length_nil] at h1; omega)
    have hlb : i < lb.length := by omega
    obtain ⟨x, hx⟩ : ∃ x, la[i] = x := ⟨_, rfl⟩
    obtain ⟨y, hy⟩ : ∃ y, lb[i] = y := ⟨_, rfl⟩
    have hlx : la[i]? = some x := by rw [List.getElem?_eq_getElem hlt, hx]
    have hly : lb[i]? = some y := by rw [List.getElem?_eq_getElem hlb, hy]
    have hpe := plc_eq x y
    repeat'(first|(apply LR.ev; (· apply Ev.load_agg_at (cs := [Value.int .i64 x.ring, .int .i64 x.seq, .int .i64 x.rep, .int .i64 x.members]); (· exact rfl); (· exact rfl); (· intro w' hw'; refine pcs_cell (x := x) (hw'.rd_of (mH _ _)) hlx ?_; (· simp; done))); (· exact rfl))|(apply LR.ev; (· apply Ev.load_agg_at (cs := [Value.int .i64 y.ring, .int .i64 y.seq, .int .i64 y.rep, .int .i64 y.members]); (· exact rfl); (· exact rfl); (· intro w' hw'; refine pcs_cell (x := y) (hw'.rd_of (mT _ (mH _ _))) hly ?_; (· simp; done))); (· exact rfl))|refine kv' ?_|apply jJ|refine jE' ?_|refine jp' ?_|(apply jc;kernel_rfl)|refine kg' ?_|refine kG' ?_|refine kB' fun _=>?_|refine kA' fun _=>?_|refine kK' fun _=>?_|refine kU' ?_|(apply idxX;(iterate 2 exact rfl);(iterate 2(first|omega|(dsimp only;omega)));exact rfl)|(apply addX;(iterate 2 exact rfl);(iterate 2(first|omega|(dsimp only;omega)));exact rfl)|((first|refine kR' ?_ ?_|refine kQ' ?_ ?_);all_goals(intro hc;try simp only[hcs]at hc;try(exfalso;first|contradiction|omega))))
    · (apply ret1; (· exact rfl); intro w' hS)
      refine ⟨congrArg Value.bool ?_, hS.toKeep⟩
      have : la ≠ lb := fun e => by
        subst e
        rw [hlx] at hly
        cases hly
        simp_all
      simp [this]
    · refine At.again (i + 1) ⟨by omega, ?_⟩ ?_ ⟨rfl, trivial⟩ (fun w' hw' => hw') (by omega)
      · have hxy : x = y := by cases x; cases y; simp_all
        rw [List.take_add_one, List.take_add_one, hlx, hly, heq, hxy]
      · (repeat (first | exact Out.refl _ _ | exact Out.mix | (apply Out.upd; (· exact rfl)) | (apply Out.updL; (· exact rfl)) | (apply Out.mixs; (· exact rfl))))
  · have hie : i = la.length := by omega
    subst hie
    repeat'(first|refine kv' ?_|apply jJ|refine jE' ?_|refine jp' ?_|(apply jc;kernel_rfl)|refine kg' ?_|refine kG' ?_|refine kB' fun _=>?_|refine kA' fun _=>?_|refine kK' fun _=>?_|refine kU' ?_|((first|refine kR' ?_ ?_|refine kQ' ?_ ?_);all_goals(intro hc;try simp only[hcs]at hc;try(exfalso;first|contradiction|omega))))
    (apply ret1; (· exact rfl); intro w' hS)
    refine ⟨congrArg Value.bool ?_, hS.toKeep⟩
    rw [List.take_length, hl, List.take_length] at heq
    simp [heq]
theorem m23 (a : Option Addr) (c : Nat) (K : List Plc) (w : World) (hk : Rd w a (pcs K)) (hz : a = none → c = 0) (hm : K.length * 32 ≤ 140737488355328) : CallsTo Try.prog 23 [.slice a K.length c] w fun v w' => plR w w' v K := by
  refine go_in (n := 7) (St.rd1 hk) Try.func23 rfl rfl ?_
  repeat'(first|refine kv' ?_|apply jJ|refine jE' ?_|refine jp' ?_|(apply jc;kernel_rfl)|refine kg' ?_|refine kG' ?_|refine kB' fun _=>?_|refine kA' fun _=>?_|refine kK' fun _=>?_|refine kU' ?_|((first|refine kR' ?_ ?_|refine kQ' ?_ ?_);all_goals(intro hc;try simp only[hcs]at hc;try(exfalso;first|contradiction|omega))))
  refine LR.append_nil (news := pcs K) rfl rfl (fun w' hw' => hw'.rd_of (List.Mem.head _)) (fun hx => ?_) (pcs_length K) (pcs_ones K) (by omega) (by unfold maxLen; omega) rfl fun a' c' => ?_
  · subst hx
    have h1 := hk.none_nil
    have h2 := pcs_length K
    rw [h1, List.length_nil] at h2
    exact ⟨by omega, hz rfl⟩
  repeat'(first|refine kv' ?_|apply jJ|refine jE' ?_|refine jp' ?_|(apply jc;kernel_rfl)|refine kg' ?_|refine kG' ?_|refine kB' fun _=>?_|refine kA' fun _=>?_|refine kK' fun _=>?_|refine kU' ?_|((first|refine kR' ?_ ?_|refine kQ' ?_ ?_);all_goals(intro hc;try simp only[hcs]at hc;try(exfalso;first|contradiction|omega))))
  (apply ret1; (· exact rfl); intro w' hS)
  exact ⟨_, _, rfl, hS.toNew (List.Mem.head _)⟩
def threeP : Pln := ⟨[14, 56, 96], [⟨3, 0, 1⟩, ⟨5, 1, 2⟩]⟩
def threeA (b1 b2 : Nat) : PlA := ⟨some ⟨b1, 0, none⟩, 3, some ⟨b2, 0, none⟩, 2⟩
abbrev thr1 (b1 : Nat) : Asrt := .own b1 (.cells (iv [14, 56, 96]).toArray 3 (0, 0))
abbrev thr2 (b2 : Nat) : Asrt := .own b2 (.cells (gv [⟨3, 0, 1⟩, ⟨5, 1, 2⟩]).toArray 34 (0, 0))
theorem m33 (w : World) : CallsTo Try.prog 33 [] w fun v w' => ∃ b1 b2, v = threeP.val (threeA b1 b2) ∧ New1 (both (thr1 b1) (thr2 b2)) w w' := by
  refine go_in (n := 6) (St.refl _ NoF) Try.func33 rfl rfl ?_
  repeat'(first|(refine kK' (T := 22) fun b1 => ?_)|(refine kK' (T := 23) fun b2 => ?_)|refine kv' ?_|apply jJ|refine jE' ?_|refine jp' ?_|(apply jc;kernel_rfl)|refine kg' ?_|refine kG' ?_|refine kB' fun _=>?_|refine kA' fun _=>?_|refine kK' fun _=>?_|refine kU' ?_|((first|refine kR' ?_ ?_|refine kQ' ?_ ?_);all_goals(intro hc;try simp only[hcs]at hc;try(exfalso;first|contradiction|omega))))
  (apply ret1c; (· exact rfl); (· exact inferInstance); (· exact rfl); (· (repeat (first | exact List.Mem.head _ | apply List.Mem.tail))); (· exact rfl); intro w' hS)
  refine ⟨b1, b2, rfl, ?_⟩
  have h1 : St w NoF [thr1 b1, thr2 b2] w' := (hS.sub (L' := [thr2 b2, thr1 b1]) subZ).swap
  exact (h1.join rfl rfl).new1 rfl
def plcA (ring members : Int) : Plc := ⟨ring, 1 + ring, 1, members⟩
theorem m34 (ring members : Int) (w : World) (h : -1000 ≤ ring ∧ ring ≤ 1000) : CallsTo Try.prog 34 [.int .i64 ring, .int .i64 members] w fun v w' => v = (plcA ring members).val ∧ Grew w w' := by
  refine go_in (n := 11) (St.refl _ NoF) Try.func34 rfl rfl ?_
  repeat'(first|refine kv' ?_|apply jJ|refine jE' ?_|refine jp' ?_|(apply jc;kernel_rfl)|refine kg' ?_|refine kG' ?_|refine kB' fun _=>?_|refine kA' fun _=>?_|refine kK' fun _=>?_|refine kU' ?_|(apply addX;(iterate 2 exact rfl);(iterate 2(first|omega|(dsimp only;omega)));exact rfl)|((first|refine kR' ?_ ?_|refine kQ' ?_ ?_);all_goals(intro hc;try simp only[hcs]at hc;try(exfalso;first|contradiction|omega))))
  (apply ret1c; (· exact rfl); (· exact inferInstance); (· exact rfl); (· (repeat (first | exact List.Mem.head _ | apply List.Mem.tail))); (· exact rfl); intro w' hS)
  exact ⟨rfl, hS.toKeep⟩
theorem own_rdM {b : Nat} {cs : List Value} {E : Nat} {w : World} (h : (Asrt.own b (.cells cs.toArray E (0, 0))).holds w) : Rd w (some ⟨b, 0, none⟩) cs := fun j v hj => ⟨_, rfl, by rw [addr_add, cell_own h]; simpa using hj⟩
theorem threeI : PlI threeP := ⟨by decide, by decide, by decide⟩
theorem thR {w : World} {b1 b2 : Nat} (h : (both (thr1 b1) (thr2 b2)).holds w) : PlR w threeP (threeA b1 b2) := ⟨own_rdM h.1, own_rdM h.2.1⟩
theorem th_dep {b1 b2 : Nat} : (both (thr1 b1) (thr2 b2)).dep := both_dep (Asrt.dep_own _ _) (Asrt.dep_own _ _)
section
variable {P : Program} {C : World → Prop} {f : Frm} {T T' E : TypeId} {x y : Operand} {sz by_ b o k c : Nat} {q : IntKind} {j : Int}
theorem Ev_hi [h : SliceOf P T E sz by_] (hx : f.ev x = .slice (some ⟨b, o, none⟩) k c) (hy : f.ev y = .int q j) (h0 : 0 ≤ j) (h1 : j ≤ c) : Ev P C f (.slice T x none (some y) none) T' (.slice (some ⟨b, o, none⟩) j.toNat c) := by
  have := Ev.slice_hi (C := C) (T := T) (T' := T') (h := h) hx hy h0 h1
  rwa [subA0] at this
theorem Ev_lo [h : SliceOf P T E sz by_] (hx : f.ev x = .slice (some ⟨b, o, none⟩) k c) (hy : f.ev y = .int q j) (h0 : 0 ≤ j) (h1 : j ≤ k) (h2 : ¬ c = j.toNat) : Ev P C f (.slice T x (some y) none none) T' (.slice (some ⟨b, o + j.toNat * sz, none⟩) (k - j.toNat) (c - j.toNat)) := by
  have := Ev.slice_lo (C := C) (T := T) (T' := T') (h := h) hx hy h0 h1
  unfold subA at this
  rw [if_neg h2] at this
  simpa [addr_add] using this
end
def knownW : List Plc := [plcA 0 14, plcA 1 24, plcA 2 96]
theorem w_chk : chkP threeP.R threeP.G = true := by decide +kernel
theorem w_far : farT threeP.R threeP.G 3 0 = some 1 := by decide +kernel
theorem w_sides : sidesT threeP.R threeP.G 3 = [0, 1] := by decide +kernel
theorem w_gws : gwsT threeP.R threeP.G 1 = [3, 5] := by decide +kernel
theorem w_view0 : viewP (threeP.R, threeP.G) 0 knownW = [plcA 0 14, plcA 1 24] := by decide +kernel
theorem w_view2 : viewP (threeP.R, threeP.G) 2 knownW = [plcA 2 96] := by decide +kernel
theorem w_lrn : lrnP [] (plcA 1 24) = [plcA 1 24] := by decide +kernel
theorem rd_from8 {w : World} {b : Nat} (h : Rd w (some ⟨b, 0, none⟩) (pcs knownW)) : Rd w (some ⟨b, 8, none⟩) (pcs [plcA 2 96]) := by
  intro j v hj
  have h2 := h.cell (j := 8 + j) (v := v) (by rw [show pcs knownW = pcs [plcA 0 14, plcA 1 24] ++ pcs [plcA 2 96] from rfl, List.getElem?_append_right (by show 8 ≤ 8 + j; omega), show 8 + j - (pcs [plcA 0 14, plcA 1 24]).length = j by show 8 + j - 8 = j; omega]; exact hj)
  exact ⟨_, rfl, by rw [addr_add]; rwa [Nat.zero_add] at h2⟩
set_option maxHeartbeats 4000000 in
theorem m22 (w : World) : CallsTo Try.prog 22 [] w fun v w' => v = .bool true ∧ Grew w w' := by
  refine go_in (n := 57) (St.refl _ NoF) Try.func22 rfl rfl ?_
  repeat'(first|(apply CW.reg_heldC)|(refine kK' (T := 37) fun bk => ?_)|refine kv' ?_|apply jJ|refine jE' ?_|refine jp' ?_|(apply jc;kernel_rfl)|refine kg' ?_|refine kG' ?_|refine kB' fun _=>?_|refine kA' fun _=>?_|refine kK' fun _=>?_|refine kU' ?_|(apply kq; (· exact rfl); (· intro w1 h1; first | (have hq := CallsTo.q (m13 threeP (threeA b1 b2) w1 (thR (h1.holds (both (thr1 b1) (thr2 b2)) memZ)) threeI) h1; rw [w_chk] at hq; exact hq) | (have hq := CallsTo.q (m15 threeP (threeA b1 b2) 3 0 w1 (thR (h1.holds (both (thr1 b1) (thr2 b2)) memZ)) threeI) h1; rw [w_far] at hq; exact hq) | exact CallsTo.q (m34 0 14 w1 (by decide)) h1 | exact CallsTo.q (m34 1 24 w1 (by decide)) h1 | exact CallsTo.q (m34 2 96 w1 (by decide)) h1 | exact CallsTo.q (show CallsTo Try.prog 17 [.slice a7 2 c7, .slice _ 2 2] w1 _ from t19 a7 _ c7 2 [0, 1] [0, 1] w1 (h1.rd_of_own memZ) (h1.rd_of_blk memZ) (by decide)) h1 | exact CallsTo.q (show CallsTo Try.prog 17 [.slice a8 2 c8, .slice _ 2 2] w1 _ from t19 a8 _ c8 2 [3, 5] [3, 5] w1 (h1.rd_of_own memZ) (h1.rd_of_blk memZ) (by decide)) h1 | exact CallsTo.q (show CallsTo Try.prog 25 [.slice a9 2 c9, .slice (some ⟨bk, 0, none⟩) 2 3] w1 _ from m25 a9 (some ⟨bk, 0, none⟩) c9 3 [plcA 0 14, plcA 1 24] [plcA 0 14, plcA 1 24] w1 (h1.rd_of_own memZ) (Rd.take 8 (h1.rd_of_blk (b := bk) (cs := pcs knownW) memZ)) (by decide)) h1 | exact CallsTo.q (show CallsTo Try.prog 25 [.slice a9 1 c9, .slice (some ⟨bk, 8, none⟩) 1 1] w1 _ from m25 a9 (some ⟨bk, 8, none⟩) c9 1 [plcA 2 96] [plcA 2 96] w1 (h1.rd_of_own memZ) (rd_from8 (h1.rd_of_blk (b := bk) (cs := pcs knownW) memZ)) (by decide)) h1))|(apply LR.call; (· exact rfl); (intro w1 h1; first | (refine CallsTo.mono (show CallsTo Try.prog 33 [] w1 _ from m33 w1) ?_; rintro v w2 ⟨b1, b2, rfl, hn⟩; refine LR.back (h1.got hn th_dep) ?_; clear hn h1) | (refine CallsTo.mono (show CallsTo Try.prog 18 [threeP.val (threeA b1 b2), .int .i64 3] w1 _ from m18 threeP (threeA b1 b2) 3 w1 (thR (h1.holds (both (thr1 b1) (thr2 b2)) memZ)) threeI) ?_; rintro v w2 ⟨a7, c7, rfl, hn⟩; rw [w_sides] at hn ⊢; refine LR.back (h1.newSl hn) ?_; clear hn h1) | (refine CallsTo.mono (show CallsTo Try.prog 20 [threeP.val (threeA b1 b2), .int .i64 1] w1 _ from m20 threeP (threeA b1 b2) 1 w1 (thR (h1.holds (both (thr1 b1) (thr2 b2)) memZ)) threeI) ?_; rintro v w2 ⟨a8, c8, rfl, hn⟩; rw [w_gws] at hn ⊢; refine LR.back (h1.newSl hn) ?_; clear hn h1) | (refine CallsTo.mono (show CallsTo Try.prog 24 [threeP.val (threeA b1 b2), .int .i64 0, .slice (some ⟨bk, 0, none⟩) 3 3] w1 _ from m24 threeP (threeA b1 b2) threeI 0 knownW (some ⟨bk, 0, none⟩) 3 w1 (thR (h1.holds (both (thr1 b1) (thr2 b2)) memZ)) (h1.rd_of_blk memZ) (by decide)) ?_; rintro v w2 ⟨a9, c9, rfl, hn⟩; rw [w_view0] at hn ⊢; refine LR.back (h1.newSl hn) ?_; clear hn h1) | (refine CallsTo.mono (show CallsTo Try.prog 24 [threeP.val (threeA b1 b2), .int .i64 2, .slice (some ⟨bk, 0, none⟩) 3 3] w1 _ from m24 threeP (threeA b1 b2) threeI 2 knownW (some ⟨bk, 0, none⟩) 3 w1 (thR (h1.holds (both (thr1 b1) (thr2 b2)) memZ)) (h1.rd_of_blk memZ) (by decide)) ?_; rintro v w2 ⟨a9, c9, rfl, hn⟩; rw [w_view2] at hn ⊢; refine LR.back (h1.newSl hn) ?_; clear hn h1) | (refine CallsTo.mono (show CallsTo Try.prog 27 [.slice none 0 0, (plcA 1 24).val] w1 _ from m27 sort_few [] none 0 (plcA 1 24) w1 (Rd.nil _ _) (fun _ => rfl) (by decide) (by decide) (by decide)) ?_; rintro v w2 ⟨a10, c10, rfl, hn⟩; rw [w_lrn] at hn ⊢; refine LR.back (h1.newSl hn) ?_; clear hn h1)))|((first|refine kR' ?_ ?_|refine kQ' ?_ ?_);all_goals(intro hc;try simp only[hcs]at hc;try(exfalso;first|contradiction|omega))))
  all_goals (
    apply DW.loud 0
    · exact rfl
    · decide +kernel
    repeat'(first|refine kg' ?_|refine kG' ?_|apply kM|refine kv' ?_|refine kK' fun _=>?_|refine kU' ?_|refine kB' fun _=>?_|refine kA' fun _=>?_|(apply kq; (· exact rfl); (· intro w1 h1; first | (have hq := CallsTo.q (m13 threeP (threeA b1 b2) w1 (thR (h1.holds (both (thr1 b1) (thr2 b2)) memZ)) threeI) h1; rw [w_chk] at hq; exact hq) | (have hq := CallsTo.q (m15 threeP (threeA b1 b2) 3 0 w1 (thR (h1.holds (both (thr1 b1) (thr2 b2)) memZ)) threeI) h1; rw [w_far] at hq; exact hq) | exact CallsTo.q (m34 0 14 w1 (by decide)) h1 | exact CallsTo.q (m34 1 24 w1 (by decide)) h1 | exact CallsTo.q (m34 2 96 w1 (by decide)) h1 | exact CallsTo.q (show CallsTo Try.prog 17 [.slice a7 2 c7, .slice _ 2 2] w1 _ from t19 a7 _ c7 2 [0, 1] [0, 1] w1 (h1.rd_of_own memZ) (h1.rd_of_blk memZ) (by decide)) h1 | exact CallsTo.q (show CallsTo Try.prog 17 [.slice a8 2 c8, .slice _ 2 2] w1 _ from t19 a8 _ c8 2 [3, 5] [3, 5] w1 (h1.rd_of_own memZ) (h1.rd_of_blk memZ) (by decide)) h1 | exact CallsTo.q (show CallsTo Try.prog 25 [.slice a9 2 c9, .slice (some ⟨bk, 0, none⟩) 2 3] w1 _ from m25 a9 (some ⟨bk, 0, none⟩) c9 3 [plcA 0 14, plcA 1 24] [plcA 0 14, plcA 1 24] w1 (h1.rd_of_own memZ) (Rd.take 8 (h1.rd_of_blk (b := bk) (cs := pcs knownW) memZ)) (by decide)) h1 | exact CallsTo.q (show CallsTo Try.prog 25 [.slice a9 1 c9, .slice (some ⟨bk, 8, none⟩) 1 1] w1 _ from m25 a9 (some ⟨bk, 8, none⟩) c9 1 [plcA 2 96] [plcA 2 96] w1 (h1.rd_of_own memZ) (rd_from8 (h1.rd_of_blk (b := bk) (cs := pcs knownW) memZ)) (by decide)) h1))|(apply LR.call; (· exact rfl); (intro w1 h1; first | (refine CallsTo.mono (show CallsTo Try.prog 33 [] w1 _ from m33 w1) ?_; rintro v w2 ⟨b1, b2, rfl, hn⟩; refine LR.back (h1.got hn th_dep) ?_; clear hn h1) | (refine CallsTo.mono (show CallsTo Try.prog 18 [threeP.val (threeA b1 b2), .int .i64 3] w1 _ from m18 threeP (threeA b1 b2) 3 w1 (thR (h1.holds (both (thr1 b1) (thr2 b2)) memZ)) threeI) ?_; rintro v w2 ⟨a7, c7, rfl, hn⟩; rw [w_sides] at hn ⊢; refine LR.back (h1.newSl hn) ?_; clear hn h1) | (refine CallsTo.mono (show CallsTo Try.prog 20 [threeP.val (threeA b1 b2), .int .i64 1] w1 _ from m20 threeP (threeA b1 b2) 1 w1 (thR (h1.holds (both (thr1 b1) (thr2 b2)) memZ)) threeI) ?_; rintro v w2 ⟨a8, c8, rfl, hn⟩; rw [w_gws] at hn ⊢; refine LR.back (h1.newSl hn) ?_; clear hn h1) | (refine CallsTo.mono (show CallsTo Try.prog 24 [threeP.val (threeA b1 b2), .int .i64 0, .slice (some ⟨bk, 0, none⟩) 3 3] w1 _ from m24 threeP (threeA b1 b2) threeI 0 knownW (some ⟨bk, 0, none⟩) 3 w1 (thR (h1.holds (both (thr1 b1) (thr2 b2)) memZ)) (h1.rd_of_blk memZ) (by decide)) ?_; rintro v w2 ⟨a9, c9, rfl, hn⟩; rw [w_view0] at hn ⊢; refine LR.back (h1.newSl hn) ?_; clear hn h1) | (refine CallsTo.mono (show CallsTo Try.prog 24 [threeP.val (threeA b1 b2), .int .i64 2, .slice (some ⟨bk, 0, none⟩) 3 3] w1 _ from m24 threeP (threeA b1 b2) threeI 2 knownW (some ⟨bk, 0, none⟩) 3 w1 (thR (h1.holds (both (thr1 b1) (thr2 b2)) memZ)) (h1.rd_of_blk memZ) (by decide)) ?_; rintro v w2 ⟨a9, c9, rfl, hn⟩; rw [w_view2] at hn ⊢; refine LR.back (h1.newSl hn) ?_; clear hn h1) | (refine CallsTo.mono (show CallsTo Try.prog 27 [.slice none 0 0, (plcA 1 24).val] w1 _ from m27 sort_few [] none 0 (plcA 1 24) w1 (Rd.nil _ _) (fun _ => rfl) (by decide) (by decide) (by decide)) ?_; rintro v w2 ⟨a10, c10, rfl, hn⟩; rw [w_lrn] at hn ⊢; refine LR.back (h1.newSl hn) ?_; clear hn h1))))
    all_goals (refine At.stage_same (fun _ h => St.sub h subZ) ?_))
  all_goals (
    apply DW.loud 1
    · exact rfl
    · decide +kernel
    repeat'(first|refine kg' ?_|refine kG' ?_|apply kM|refine kv' ?_|refine kK' fun _=>?_|refine kU' ?_|refine kB' fun _=>?_|refine kA' fun _=>?_|(apply kq; (· exact rfl); (· intro w1 h1; first | (have hq := CallsTo.q (m13 threeP (threeA b1 b2) w1 (thR (h1.holds (both (thr1 b1) (thr2 b2)) memZ)) threeI) h1; rw [w_chk] at hq; exact hq) | (have hq := CallsTo.q (m15 threeP (threeA b1 b2) 3 0 w1 (thR (h1.holds (both (thr1 b1) (thr2 b2)) memZ)) threeI) h1; rw [w_far] at hq; exact hq) | exact CallsTo.q (m34 0 14 w1 (by decide)) h1 | exact CallsTo.q (m34 1 24 w1 (by decide)) h1 | exact CallsTo.q (m34 2 96 w1 (by decide)) h1 | exact CallsTo.q (show CallsTo Try.prog 17 [.slice a7 2 c7, .slice _ 2 2] w1 _ from t19 a7 _ c7 2 [0, 1] [0, 1] w1 (h1.rd_of_own memZ) (h1.rd_of_blk memZ) (by decide)) h1 | exact CallsTo.q (show CallsTo Try.prog 17 [.slice a8 2 c8, .slice _ 2 2] w1 _ from t19 a8 _ c8 2 [3, 5] [3, 5] w1 (h1.rd_of_own memZ) (h1.rd_of_blk memZ) (by decide)) h1 | exact CallsTo.q (show CallsTo Try.prog 25 [.slice a9 2 c9, .slice (some ⟨bk, 0, none⟩) 2 3] w1 _ from m25 a9 (some ⟨bk, 0, none⟩) c9 3 [plcA 0 14, plcA 1 24] [plcA 0 14, plcA 1 24] w1 (h1.rd_of_own memZ) (Rd.take 8 (h1.rd_of_blk (b := bk) (cs := pcs knownW) memZ)) (by decide)) h1 | exact CallsTo.q (show CallsTo Try.prog 25 [.slice a9 1 c9, .slice (some ⟨bk, 8, none⟩) 1 1] w1 _ from m25 a9 (some ⟨bk, 8, none⟩) c9 1 [plcA 2 96] [plcA 2 96] w1 (h1.rd_of_own memZ) (rd_from8 (h1.rd_of_blk (b := bk) (cs := pcs knownW) memZ)) (by decide)) h1))|(apply LR.call; (· exact rfl); (intro w1 h1; first | (refine CallsTo.mono (show CallsTo Try.prog 33 [] w1 _ from m33 w1) ?_; rintro v w2 ⟨b1, b2, rfl, hn⟩; refine LR.back (h1.got hn th_dep) ?_; clear hn h1) | (refine CallsTo.mono (show CallsTo Try.prog 18 [threeP.val (threeA b1 b2), .int .i64 3] w1 _ from m18 threeP (threeA b1 b2) 3 w1 (thR (h1.holds (both (thr1 b1) (thr2 b2)) memZ)) threeI) ?_; rintro v w2 ⟨a7, c7, rfl, hn⟩; rw [w_sides] at hn ⊢; refine LR.back (h1.newSl hn) ?_; clear hn h1) | (refine CallsTo.mono (show CallsTo Try.prog 20 [threeP.val (threeA b1 b2), .int .i64 1] w1 _ from m20 threeP (threeA b1 b2) 1 w1 (thR (h1.holds (both (thr1 b1) (thr2 b2)) memZ)) threeI) ?_; rintro v w2 ⟨a8, c8, rfl, hn⟩; rw [w_gws] at hn ⊢; refine LR.back (h1.newSl hn) ?_; clear hn h1) | (refine CallsTo.mono (show CallsTo Try.prog 24 [threeP.val (threeA b1 b2), .int .i64 0, .slice (some ⟨bk, 0, none⟩) 3 3] w1 _ from m24 threeP (threeA b1 b2) threeI 0 knownW (some ⟨bk, 0, none⟩) 3 w1 (thR (h1.holds (both (thr1 b1) (thr2 b2)) memZ)) (h1.rd_of_blk memZ) (by decide)) ?_; rintro v w2 ⟨a9, c9, rfl, hn⟩; rw [w_view0] at hn ⊢; refine LR.back (h1.newSl hn) ?_; clear hn h1) | (refine CallsTo.mono (show CallsTo Try.prog 24 [threeP.val (threeA b1 b2), .int .i64 2, .slice (some ⟨bk, 0, none⟩) 3 3] w1 _ from m24 threeP (threeA b1 b2) threeI 2 knownW (some ⟨bk, 0, none⟩) 3 w1 (thR (h1.holds (both (thr1 b1) (thr2 b2)) memZ)) (h1.rd_of_blk memZ) (by decide)) ?_; rintro v w2 ⟨a9, c9, rfl, hn⟩; rw [w_view2] at hn ⊢; refine LR.back (h1.newSl hn) ?_; clear hn h1) | (refine CallsTo.mono (show CallsTo Try.prog 27 [.slice none 0 0, (plcA 1 24).val] w1 _ from m27 sort_few [] none 0 (plcA 1 24) w1 (Rd.nil _ _) (fun _ => rfl) (by decide) (by decide) (by decide)) ?_; rintro v w2 ⟨a10, c10, rfl, hn⟩; rw [w_lrn] at hn ⊢; refine LR.back (h1.newSl hn) ?_; clear hn h1))))
    all_goals (refine At.stage_same (fun _ h => St.sub h subZ) ?_))
  all_goals (
    apply DW.quiet [2, 3]
    · decide +kernel
    · first | exact fun _ h => h | exact fun _ h => St.sub h subZ
    repeat'(first|(apply QL.evg; (iterate 3 exact rfl); (· apply Ev_hi; (· exact rfl); (· exact rfl); (· decide); (· decide)); (· exact rfl))|(apply QL.evg; (iterate 3 exact rfl); (· apply Ev_lo; (· exact rfl); (· exact rfl); (· decide); (· decide); (· decide)); (· exact rfl))|refine yv' ?_|refine uv' ?_|refine un' ?_|(refine us' ?_ ?_;all_goals(intro hc;try simp only[hcs]at hc;try(exfalso;first|contradiction|omega)))|apply QL.nil)
    all_goals (show DW _ _ _ _ _ _ _ _))
  apply DP.begin []
  refine DP.more (PI.lr 6 19 [(16, .bool true)] (fun b => .slice (some ⟨b, 0, none⟩) 2 2) (fun b => [.own b (.cells ([.int .i64 0, .int .i64 1] : List Value).toArray 3 (0, 0))]) rfl (fun b x hx => by simp only [List.mem_singleton] at hx; subst hx; rfl) ?_) ?_
  · intro h w2
    apply kg
    · exact rfl
    · exact rfl
    apply kK
    · exact rfl
    · exact rfl
    · exact rfl
    · exact rfl
    intro b
    apply kM
    exact At.made rfl
  refine DP.go 4 [6] [19] [[16]] rfl rfl rfl rfl (by decide +kernel) ⟨⟨rfl, trivial⟩, fun _ _ _ => trivial, trivial⟩ (fun A w' hA => St.sub hA (by simp only [List.cons_append, List.nil_append]; repeat (first | exact List.nil_sublist _ | exact List.Sublist.refl _ | apply List.Sublist.cons_cons | apply List.Sublist.cons))) ?_
  intro gg A LA hLA
  simp only [List.cons_append, List.nil_append] at hLA
  subst hLA
  repeat'(first|refine kg' ?_|refine kG' ?_|apply kM|refine kv' ?_|refine kK' fun _=>?_|refine kU' ?_|refine kB' fun _=>?_|refine kA' fun _=>?_|(apply kq; (· exact rfl); (· intro w1 h1; first | (have hq := CallsTo.q (m13 threeP (threeA b1 b2) w1 (thR (h1.holds (both (thr1 b1) (thr2 b2)) memZ)) threeI) h1; rw [w_chk] at hq; exact hq) | (have hq := CallsTo.q (m15 threeP (threeA b1 b2) 3 0 w1 (thR (h1.holds (both (thr1 b1) (thr2 b2)) memZ)) threeI) h1; rw [w_far] at hq; exact hq) | exact CallsTo.q (m34 0 14 w1 (by decide)) h1 | exact CallsTo.q (m34 1 24 w1 (by decide)) h1 | exact CallsTo.q (m34 2 96 w1 (by decide)) h1 | exact CallsTo.q (show CallsTo Try.prog 17 [.slice a7 2 c7, .slice _ 2 2] w1 _ from t19 a7 _ c7 2 [0, 1] [0, 1] w1 (h1.rd_of_own memZ) (h1.rd_of_blk memZ) (by decide)) h1 | exact CallsTo.q (show CallsTo Try.prog 17 [.slice a8 2 c8, .slice _ 2 2] w1 _ from t19 a8 _ c8 2 [3, 5] [3, 5] w1 (h1.rd_of_own memZ) (h1.rd_of_blk memZ) (by decide)) h1 | exact CallsTo.q (show CallsTo Try.prog 25 [.slice a9 2 c9, .slice (some ⟨bk, 0, none⟩) 2 3] w1 _ from m25 a9 (some ⟨bk, 0, none⟩) c9 3 [plcA 0 14, plcA 1 24] [plcA 0 14, plcA 1 24] w1 (h1.rd_of_own memZ) (Rd.take 8 (h1.rd_of_blk (b := bk) (cs := pcs knownW) memZ)) (by decide)) h1 | exact CallsTo.q (show CallsTo Try.prog 25 [.slice a9 1 c9, .slice (some ⟨bk, 8, none⟩) 1 1] w1 _ from m25 a9 (some ⟨bk, 8, none⟩) c9 1 [plcA 2 96] [plcA 2 96] w1 (h1.rd_of_own memZ) (rd_from8 (h1.rd_of_blk (b := bk) (cs := pcs knownW) memZ)) (by decide)) h1))|(apply LR.call; (· exact rfl); (intro w1 h1; first | (refine CallsTo.mono (show CallsTo Try.prog 33 [] w1 _ from m33 w1) ?_; rintro v w2 ⟨b1, b2, rfl, hn⟩; refine LR.back (h1.got hn th_dep) ?_; clear hn h1) | (refine CallsTo.mono (show CallsTo Try.prog 18 [threeP.val (threeA b1 b2), .int .i64 3] w1 _ from m18 threeP (threeA b1 b2) 3 w1 (thR (h1.holds (both (thr1 b1) (thr2 b2)) memZ)) threeI) ?_; rintro v w2 ⟨a7, c7, rfl, hn⟩; rw [w_sides] at hn ⊢; refine LR.back (h1.newSl hn) ?_; clear hn h1) | (refine CallsTo.mono (show CallsTo Try.prog 20 [threeP.val (threeA b1 b2), .int .i64 1] w1 _ from m20 threeP (threeA b1 b2) 1 w1 (thR (h1.holds (both (thr1 b1) (thr2 b2)) memZ)) threeI) ?_; rintro v w2 ⟨a8, c8, rfl, hn⟩; rw [w_gws] at hn ⊢; refine LR.back (h1.newSl hn) ?_; clear hn h1) | (refine CallsTo.mono (show CallsTo Try.prog 24 [threeP.val (threeA b1 b2), .int .i64 0, .slice (some ⟨bk, 0, none⟩) 3 3] w1 _ from m24 threeP (threeA b1 b2) threeI 0 knownW (some ⟨bk, 0, none⟩) 3 w1 (thR (h1.holds (both (thr1 b1) (thr2 b2)) memZ)) (h1.rd_of_blk memZ) (by decide)) ?_; rintro v w2 ⟨a9, c9, rfl, hn⟩; rw [w_view0] at hn ⊢; refine LR.back (h1.newSl hn) ?_; clear hn h1) | (refine CallsTo.mono (show CallsTo Try.prog 24 [threeP.val (threeA b1 b2), .int .i64 2, .slice (some ⟨bk, 0, none⟩) 3 3] w1 _ from m24 threeP (threeA b1 b2) threeI 2 knownW (some ⟨bk, 0, none⟩) 3 w1 (thR (h1.holds (both (thr1 b1) (thr2 b2)) memZ)) (h1.rd_of_blk memZ) (by decide)) ?_; rintro v w2 ⟨a9, c9, rfl, hn⟩; rw [w_view2] at hn ⊢; refine LR.back (h1.newSl hn) ?_; clear hn h1) | (refine CallsTo.mono (show CallsTo Try.prog 27 [.slice none 0 0, (plcA 1 24).val] w1 _ from m27 sort_few [] none 0 (plcA 1 24) w1 (Rd.nil _ _) (fun _ => rfl) (by decide) (by decide) (by decide)) ?_; rintro v w2 ⟨a10, c10, rfl, hn⟩; rw [w_lrn] at hn ⊢; refine LR.back (h1.newSl hn) ?_; clear hn h1))))
  apply At.pdone (ds := [19]) rfl
  · repeat (first | exact MixR.base _ | (apply MixR.upd; case hd => exact rfl))
  · repeat (first | exact Tl.nil | apply Tl.cons)
  · exact (fun A w' hA => St.sub hA (by simp only [List.cons_append, List.nil_append]; repeat (first | exact List.nil_sublist _ | exact List.Sublist.refl _ | apply List.Sublist.cons_cons | apply List.Sublist.cons)))
  refine DP.go 5 [6] [19] [[16]] rfl rfl rfl rfl (by decide +kernel) ⟨⟨rfl, trivial⟩, fun _ _ _ => trivial, trivial⟩ (fun A w' hA => St.sub hA (by simp only [List.cons_append, List.nil_append]; repeat (first | exact List.nil_sublist _ | exact List.Sublist.refl _ | apply List.Sublist.cons_cons | apply List.Sublist.cons))) ?_
  intro gg A LA hLA
  simp only [List.cons_append, List.nil_append] at hLA
  subst hLA
  repeat'(first|refine kg' ?_|refine kG' ?_|apply kM|refine kv' ?_|refine kK' fun _=>?_|refine kU' ?_|refine kB' fun _=>?_|refine kA' fun _=>?_|(apply kq; (· exact rfl); (· intro w1 h1; first | (have hq := CallsTo.q (m13 threeP (threeA b1 b2) w1 (thR (h1.holds (both (thr1 b1) (thr2 b2)) memZ)) threeI) h1; rw [w_chk] at hq; exact hq) | (have hq := CallsTo.q (m15 threeP (threeA b1 b2) 3 0 w1 (thR (h1.holds (both (thr1 b1) (thr2 b2)) memZ)) threeI) h1; rw [w_far] at hq; exact hq) | exact CallsTo.q (m34 0 14 w1 (by decide)) h1 | exact CallsTo.q (m34 1 24 w1 (by decide)) h1 | exact CallsTo.q (m34 2 96 w1 (by decide)) h1 | exact CallsTo.q (show CallsTo Try.prog 17 [.slice a7 2 c7, .slice _ 2 2] w1 _ from t19 a7 _ c7 2 [0, 1] [0, 1] w1 (h1.rd_of_own memZ) (h1.rd_of_blk memZ) (by decide)) h1 | exact CallsTo.q (show CallsTo Try.prog 17 [.slice a8 2 c8, .slice _ 2 2] w1 _ from t19 a8 _ c8 2 [3, 5] [3, 5] w1 (h1.rd_of_own memZ) (h1.rd_of_blk memZ) (by decide)) h1 | exact CallsTo.q (show CallsTo Try.prog 25 [.slice a9 2 c9, .slice (some ⟨bk, 0, none⟩) 2 3] w1 _ from m25 a9 (some ⟨bk, 0, none⟩) c9 3 [plcA 0 14, plcA 1 24] [plcA 0 14, plcA 1 24] w1 (h1.rd_of_own memZ) (Rd.take 8 (h1.rd_of_blk (b := bk) (cs := pcs knownW) memZ)) (by decide)) h1 | exact CallsTo.q (show CallsTo Try.prog 25 [.slice a9 1 c9, .slice (some ⟨bk, 8, none⟩) 1 1] w1 _ from m25 a9 (some ⟨bk, 8, none⟩) c9 1 [plcA 2 96] [plcA 2 96] w1 (h1.rd_of_own memZ) (rd_from8 (h1.rd_of_blk (b := bk) (cs := pcs knownW) memZ)) (by decide)) h1))|(apply LR.call; (· exact rfl); (intro w1 h1; first | (refine CallsTo.mono (show CallsTo Try.prog 33 [] w1 _ from m33 w1) ?_; rintro v w2 ⟨b1, b2, rfl, hn⟩; refine LR.back (h1.got hn th_dep) ?_; clear hn h1) | (refine CallsTo.mono (show CallsTo Try.prog 18 [threeP.val (threeA b1 b2), .int .i64 3] w1 _ from m18 threeP (threeA b1 b2) 3 w1 (thR (h1.holds (both (thr1 b1) (thr2 b2)) memZ)) threeI) ?_; rintro v w2 ⟨a7, c7, rfl, hn⟩; rw [w_sides] at hn ⊢; refine LR.back (h1.newSl hn) ?_; clear hn h1) | (refine CallsTo.mono (show CallsTo Try.prog 20 [threeP.val (threeA b1 b2), .int .i64 1] w1 _ from m20 threeP (threeA b1 b2) 1 w1 (thR (h1.holds (both (thr1 b1) (thr2 b2)) memZ)) threeI) ?_; rintro v w2 ⟨a8, c8, rfl, hn⟩; rw [w_gws] at hn ⊢; refine LR.back (h1.newSl hn) ?_; clear hn h1) | (refine CallsTo.mono (show CallsTo Try.prog 24 [threeP.val (threeA b1 b2), .int .i64 0, .slice (some ⟨bk, 0, none⟩) 3 3] w1 _ from m24 threeP (threeA b1 b2) threeI 0 knownW (some ⟨bk, 0, none⟩) 3 w1 (thR (h1.holds (both (thr1 b1) (thr2 b2)) memZ)) (h1.rd_of_blk memZ) (by decide)) ?_; rintro v w2 ⟨a9, c9, rfl, hn⟩; rw [w_view0] at hn ⊢; refine LR.back (h1.newSl hn) ?_; clear hn h1) | (refine CallsTo.mono (show CallsTo Try.prog 24 [threeP.val (threeA b1 b2), .int .i64 2, .slice (some ⟨bk, 0, none⟩) 3 3] w1 _ from m24 threeP (threeA b1 b2) threeI 2 knownW (some ⟨bk, 0, none⟩) 3 w1 (thR (h1.holds (both (thr1 b1) (thr2 b2)) memZ)) (h1.rd_of_blk memZ) (by decide)) ?_; rintro v w2 ⟨a9, c9, rfl, hn⟩; rw [w_view2] at hn ⊢; refine LR.back (h1.newSl hn) ?_; clear hn h1) | (refine CallsTo.mono (show CallsTo Try.prog 27 [.slice none 0 0, (plcA 1 24).val] w1 _ from m27 sort_few [] none 0 (plcA 1 24) w1 (Rd.nil _ _) (fun _ => rfl) (by decide) (by decide) (by decide)) ?_; rintro v w2 ⟨a10, c10, rfl, hn⟩; rw [w_lrn] at hn ⊢; refine LR.back (h1.newSl hn) ?_; clear hn h1))))
  apply At.pdone (ds := [19]) rfl
  · repeat (first | exact MixR.base _ | (apply MixR.upd; case hd => exact rfl))
  · repeat (first | exact Tl.nil | apply Tl.cons)
  · exact (fun A w' hA => St.sub hA (by simp only [List.cons_append, List.nil_append]; repeat (first | exact List.nil_sublist _ | exact List.Sublist.refl _ | apply List.Sublist.cons_cons | apply List.Sublist.cons)))
  refine DP.take 6 19 (fun b => .slice (some ⟨b, 0, none⟩) 2 2) (fun b => [.own b (.cells ([.int .i64 0, .int .i64 1] : List Value).toArray 3 (0, 0))]) [] [19] [[16]] rfl rfl rfl rfl rfl rfl rfl (by decide +kernel) ⟨⟨rfl, trivial⟩, fun _ _ _ => trivial, trivial⟩ (fun A w' hA => St.sub hA (by simp only [List.cons_append, List.nil_append]; repeat (first | exact List.nil_sublist _ | exact List.Sublist.refl _ | apply List.Sublist.cons_cons | apply List.Sublist.cons))) (fun bp19 => ?_)
  refine DP.nil ?_
  refine DW.castL (by simp only [List.cons_append, List.nil_append]; exact rfl) ?_
  all_goals (
    apply DW.loud 7
    · exact rfl
    · decide +kernel
    repeat'(first|refine kg' ?_|refine kG' ?_|apply kM|refine kv' ?_|refine kK' fun _=>?_|refine kU' ?_|refine kB' fun _=>?_|refine kA' fun _=>?_|(apply kq; (· exact rfl); (· intro w1 h1; first | (have hq := CallsTo.q (m13 threeP (threeA b1 b2) w1 (thR (h1.holds (both (thr1 b1) (thr2 b2)) memZ)) threeI) h1; rw [w_chk] at hq; exact hq) | (have hq := CallsTo.q (m15 threeP (threeA b1 b2) 3 0 w1 (thR (h1.holds (both (thr1 b1) (thr2 b2)) memZ)) threeI) h1; rw [w_far] at hq; exact hq) | exact CallsTo.q (m34 0 14 w1 (by decide)) h1 | exact CallsTo.q (m34 1 24 w1 (by decide)) h1 | exact CallsTo.q (m34 2 96 w1 (by decide)) h1 | exact CallsTo.q (show CallsTo Try.prog 17 [.slice a7 2 c7, .slice _ 2 2] w1 _ from t19 a7 _ c7 2 [0, 1] [0, 1] w1 (h1.rd_of_own memZ) (h1.rd_of_blk memZ) (by decide)) h1 | exact CallsTo.q (show CallsTo Try.prog 17 [.slice a8 2 c8, .slice _ 2 2] w1 _ from t19 a8 _ c8 2 [3, 5] [3, 5] w1 (h1.rd_of_own memZ) (h1.rd_of_blk memZ) (by decide)) h1 | exact CallsTo.q (show CallsTo Try.prog 25 [.slice a9 2 c9, .slice (some ⟨bk, 0, none⟩) 2 3] w1 _ from m25 a9 (some ⟨bk, 0, none⟩) c9 3 [plcA 0 14, plcA 1 24] [plcA 0 14, plcA 1 24] w1 (h1.rd_of_own memZ) (Rd.take 8 (h1.rd_of_blk (b := bk) (cs := pcs knownW) memZ)) (by decide)) h1 | exact CallsTo.q (show CallsTo Try.prog 25 [.slice a9 1 c9, .slice (some ⟨bk, 8, none⟩) 1 1] w1 _ from m25 a9 (some ⟨bk, 8, none⟩) c9 1 [plcA 2 96] [plcA 2 96] w1 (h1.rd_of_own memZ) (rd_from8 (h1.rd_of_blk (b := bk) (cs := pcs knownW) memZ)) (by decide)) h1))|(apply LR.call; (· exact rfl); (intro w1 h1; first | (refine CallsTo.mono (show CallsTo Try.prog 33 [] w1 _ from m33 w1) ?_; rintro v w2 ⟨b1, b2, rfl, hn⟩; refine LR.back (h1.got hn th_dep) ?_; clear hn h1) | (refine CallsTo.mono (show CallsTo Try.prog 18 [threeP.val (threeA b1 b2), .int .i64 3] w1 _ from m18 threeP (threeA b1 b2) 3 w1 (thR (h1.holds (both (thr1 b1) (thr2 b2)) memZ)) threeI) ?_; rintro v w2 ⟨a7, c7, rfl, hn⟩; rw [w_sides] at hn ⊢; refine LR.back (h1.newSl hn) ?_; clear hn h1) | (refine CallsTo.mono (show CallsTo Try.prog 20 [threeP.val (threeA b1 b2), .int .i64 1] w1 _ from m20 threeP (threeA b1 b2) 1 w1 (thR (h1.holds (both (thr1 b1) (thr2 b2)) memZ)) threeI) ?_; rintro v w2 ⟨a8, c8, rfl, hn⟩; rw [w_gws] at hn ⊢; refine LR.back (h1.newSl hn) ?_; clear hn h1) | (refine CallsTo.mono (show CallsTo Try.prog 24 [threeP.val (threeA b1 b2), .int .i64 0, .slice (some ⟨bk, 0, none⟩) 3 3] w1 _ from m24 threeP (threeA b1 b2) threeI 0 knownW (some ⟨bk, 0, none⟩) 3 w1 (thR (h1.holds (both (thr1 b1) (thr2 b2)) memZ)) (h1.rd_of_blk memZ) (by decide)) ?_; rintro v w2 ⟨a9, c9, rfl, hn⟩; rw [w_view0] at hn ⊢; refine LR.back (h1.newSl hn) ?_; clear hn h1) | (refine CallsTo.mono (show CallsTo Try.prog 24 [threeP.val (threeA b1 b2), .int .i64 2, .slice (some ⟨bk, 0, none⟩) 3 3] w1 _ from m24 threeP (threeA b1 b2) threeI 2 knownW (some ⟨bk, 0, none⟩) 3 w1 (thR (h1.holds (both (thr1 b1) (thr2 b2)) memZ)) (h1.rd_of_blk memZ) (by decide)) ?_; rintro v w2 ⟨a9, c9, rfl, hn⟩; rw [w_view2] at hn ⊢; refine LR.back (h1.newSl hn) ?_; clear hn h1) | (refine CallsTo.mono (show CallsTo Try.prog 27 [.slice none 0 0, (plcA 1 24).val] w1 _ from m27 sort_few [] none 0 (plcA 1 24) w1 (Rd.nil _ _) (fun _ => rfl) (by decide) (by decide) (by decide)) ?_; rintro v w2 ⟨a10, c10, rfl, hn⟩; rw [w_lrn] at hn ⊢; refine LR.back (h1.newSl hn) ?_; clear hn h1))))
    all_goals (refine At.stage_same (fun _ h => St.sub h subZ) ?_))
  all_goals (
    apply DW.quiet [8, 9]
    · decide +kernel
    · first | exact fun _ h => h | exact fun _ h => St.sub h subZ
    repeat'(first|(apply QL.evg; (iterate 3 exact rfl); (· apply Ev_hi; (· exact rfl); (· exact rfl); (· decide); (· decide)); (· exact rfl))|(apply QL.evg; (iterate 3 exact rfl); (· apply Ev_lo; (· exact rfl); (· exact rfl); (· decide); (· decide); (· decide)); (· exact rfl))|refine yv' ?_|refine uv' ?_|refine un' ?_|(refine us' ?_ ?_;all_goals(intro hc;try simp only[hcs]at hc;try(exfalso;first|contradiction|omega)))|apply QL.nil)
    all_goals (show DW _ _ _ _ _ _ _ _))
  apply DP.begin []
  refine DP.more (PI.lr 12 25 [(22, .bool true)] (fun b => .slice (some ⟨b, 0, none⟩) 2 2) (fun b => [.own b (.cells ([.int .i64 3, .int .i64 5] : List Value).toArray 3 (0, 0))]) rfl (fun b x hx => by simp only [List.mem_singleton] at hx; subst hx; rfl) ?_) ?_
  · intro h w2
    apply kg
    · exact rfl
    · exact rfl
    apply kK
    · exact rfl
    · exact rfl
    · exact rfl
    · exact rfl
    intro b
    apply kM
    exact At.made rfl
  refine DP.go 10 [12] [25] [[22]] rfl rfl rfl rfl (by decide +kernel) ⟨⟨rfl, trivial⟩, fun _ _ _ => trivial, trivial⟩ (fun A w' hA => St.sub hA (by simp only [List.cons_append, List.nil_append]; repeat (first | exact List.nil_sublist _ | exact List.Sublist.refl _ | apply List.Sublist.cons_cons | apply List.Sublist.cons))) ?_
  intro gg A LA hLA
  simp only [List.cons_append, List.nil_append] at hLA
  subst hLA
  repeat'(first|refine kg' ?_|refine kG' ?_|apply kM|refine kv' ?_|refine kK' fun _=>?_|refine kU' ?_|refine kB' fun _=>?_|refine kA' fun _=>?_|(apply kq; (· exact rfl); (· intro w1 h1; first | (have hq := CallsTo.q (m13 threeP (threeA b1 b2) w1 (thR (h1.holds (both (thr1 b1) (thr2 b2)) memZ)) threeI) h1; rw [w_chk] at hq; exact hq) | (have hq := CallsTo.q (m15 threeP (threeA b1 b2) 3 0 w1 (thR (h1.holds (both (thr1 b1) (thr2 b2)) memZ)) threeI) h1; rw [w_far] at hq; exact hq) | exact CallsTo.q (m34 0 14 w1 (by decide)) h1 | exact CallsTo.q (m34 1 24 w1 (by decide)) h1 | exact CallsTo.q (m34 2 96 w1 (by decide)) h1 | exact CallsTo.q (show CallsTo Try.prog 17 [.slice a7 2 c7, .slice _ 2 2] w1 _ from t19 a7 _ c7 2 [0, 1] [0, 1] w1 (h1.rd_of_own memZ) (h1.rd_of_blk memZ) (by decide)) h1 | exact CallsTo.q (show CallsTo Try.prog 17 [.slice a8 2 c8, .slice _ 2 2] w1 _ from t19 a8 _ c8 2 [3, 5] [3, 5] w1 (h1.rd_of_own memZ) (h1.rd_of_blk memZ) (by decide)) h1 | exact CallsTo.q (show CallsTo Try.prog 25 [.slice a9 2 c9, .slice (some ⟨bk, 0, none⟩) 2 3] w1 _ from m25 a9 (some ⟨bk, 0, none⟩) c9 3 [plcA 0 14, plcA 1 24] [plcA 0 14, plcA 1 24] w1 (h1.rd_of_own memZ) (Rd.take 8 (h1.rd_of_blk (b := bk) (cs := pcs knownW) memZ)) (by decide)) h1 | exact CallsTo.q (show CallsTo Try.prog 25 [.slice a9 1 c9, .slice (some ⟨bk, 8, none⟩) 1 1] w1 _ from m25 a9 (some ⟨bk, 8, none⟩) c9 1 [plcA 2 96] [plcA 2 96] w1 (h1.rd_of_own memZ) (rd_from8 (h1.rd_of_blk (b := bk) (cs := pcs knownW) memZ)) (by decide)) h1))|(apply LR.call; (· exact rfl); (intro w1 h1; first | (refine CallsTo.mono (show CallsTo Try.prog 33 [] w1 _ from m33 w1) ?_; rintro v w2 ⟨b1, b2, rfl, hn⟩; refine LR.back (h1.got hn th_dep) ?_; clear hn h1) | (refine CallsTo.mono (show CallsTo Try.prog 18 [threeP.val (threeA b1 b2), .int .i64 3] w1 _ from m18 threeP (threeA b1 b2) 3 w1 (thR (h1.holds (both (thr1 b1) (thr2 b2)) memZ)) threeI) ?_; rintro v w2 ⟨a7, c7, rfl, hn⟩; rw [w_sides] at hn ⊢; refine LR.back (h1.newSl hn) ?_; clear hn h1) | (refine CallsTo.mono (show CallsTo Try.prog 20 [threeP.val (threeA b1 b2), .int .i64 1] w1 _ from m20 threeP (threeA b1 b2) 1 w1 (thR (h1.holds (both (thr1 b1) (thr2 b2)) memZ)) threeI) ?_; rintro v w2 ⟨a8, c8, rfl, hn⟩; rw [w_gws] at hn ⊢; refine LR.back (h1.newSl hn) ?_; clear hn h1) | (refine CallsTo.mono (show CallsTo Try.prog 24 [threeP.val (threeA b1 b2), .int .i64 0, .slice (some ⟨bk, 0, none⟩) 3 3] w1 _ from m24 threeP (threeA b1 b2) threeI 0 knownW (some ⟨bk, 0, none⟩) 3 w1 (thR (h1.holds (both (thr1 b1) (thr2 b2)) memZ)) (h1.rd_of_blk memZ) (by decide)) ?_; rintro v w2 ⟨a9, c9, rfl, hn⟩; rw [w_view0] at hn ⊢; refine LR.back (h1.newSl hn) ?_; clear hn h1) | (refine CallsTo.mono (show CallsTo Try.prog 24 [threeP.val (threeA b1 b2), .int .i64 2, .slice (some ⟨bk, 0, none⟩) 3 3] w1 _ from m24 threeP (threeA b1 b2) threeI 2 knownW (some ⟨bk, 0, none⟩) 3 w1 (thR (h1.holds (both (thr1 b1) (thr2 b2)) memZ)) (h1.rd_of_blk memZ) (by decide)) ?_; rintro v w2 ⟨a9, c9, rfl, hn⟩; rw [w_view2] at hn ⊢; refine LR.back (h1.newSl hn) ?_; clear hn h1) | (refine CallsTo.mono (show CallsTo Try.prog 27 [.slice none 0 0, (plcA 1 24).val] w1 _ from m27 sort_few [] none 0 (plcA 1 24) w1 (Rd.nil _ _) (fun _ => rfl) (by decide) (by decide) (by decide)) ?_; rintro v w2 ⟨a10, c10, rfl, hn⟩; rw [w_lrn] at hn ⊢; refine LR.back (h1.newSl hn) ?_; clear hn h1))))
  apply At.pdone (ds := [25]) rfl
  · repeat (first | exact MixR.base _ | (apply MixR.upd; case hd => exact rfl))
  · repeat (first | exact Tl.nil | apply Tl.cons)
  · exact (fun A w' hA => St.sub hA (by simp only [List.cons_append, List.nil_append]; repeat (first | exact List.nil_sublist _ | exact List.Sublist.refl _ | apply List.Sublist.cons_cons | apply List.Sublist.cons)))
  refine DP.go 11 [12] [25] [[22]] rfl rfl rfl rfl (by decide +kernel) ⟨⟨rfl, trivial⟩, fun _ _ _ => trivial, trivial⟩ (fun A w' hA => St.sub hA (by simp only [List.cons_append, List.nil_append]; repeat (first | exact List.nil_sublist _ | exact List.Sublist.refl _ | apply List.Sublist.cons_cons | apply List.Sublist.cons))) ?_
  intro gg A LA hLA
  simp only [List.cons_append, List.nil_append] at hLA
  subst hLA
  repeat'(first|refine kg' ?_|refine kG' ?_|apply kM|refine kv' ?_|refine kK' fun _=>?_|refine kU' ?_|refine kB' fun _=>?_|refine kA' fun _=>?_|(apply kq; (· exact rfl); (· intro w1 h1; first | (have hq := CallsTo.q (m13 threeP (threeA b1 b2) w1 (thR (h1.holds (both (thr1 b1) (thr2 b2)) memZ)) threeI) h1; rw [w_chk] at hq; exact hq) | (have hq := CallsTo.q (m15 threeP (threeA b1 b2) 3 0 w1 (thR (h1.holds (both (thr1 b1) (thr2 b2)) memZ)) threeI) h1; rw [w_far] at hq; exact hq) | exact CallsTo.q (m34 0 14 w1 (by decide)) h1 | exact CallsTo.q (m34 1 24 w1 (by decide)) h1 | exact CallsTo.q (m34 2 96 w1 (by decide)) h1 | exact CallsTo.q (show CallsTo Try.prog 17 [.slice a7 2 c7, .slice _ 2 2] w1 _ from t19 a7 _ c7 2 [0, 1] [0, 1] w1 (h1.rd_of_own memZ) (h1.rd_of_blk memZ) (by decide)) h1 | exact CallsTo.q (show CallsTo Try.prog 17 [.slice a8 2 c8, .slice _ 2 2] w1 _ from t19 a8 _ c8 2 [3, 5] [3, 5] w1 (h1.rd_of_own memZ) (h1.rd_of_blk memZ) (by decide)) h1 | exact CallsTo.q (show CallsTo Try.prog 25 [.slice a9 2 c9, .slice (some ⟨bk, 0, none⟩) 2 3] w1 _ from m25 a9 (some ⟨bk, 0, none⟩) c9 3 [plcA 0 14, plcA 1 24] [plcA 0 14, plcA 1 24] w1 (h1.rd_of_own memZ) (Rd.take 8 (h1.rd_of_blk (b := bk) (cs := pcs knownW) memZ)) (by decide)) h1 | exact CallsTo.q (show CallsTo Try.prog 25 [.slice a9 1 c9, .slice (some ⟨bk, 8, none⟩) 1 1] w1 _ from m25 a9 (some ⟨bk, 8, none⟩) c9 1 [plcA 2 96] [plcA 2 96] w1 (h1.rd_of_own memZ) (rd_from8 (h1.rd_of_blk (b := bk) (cs := pcs knownW) memZ)) (by decide)) h1))|(apply LR.call; (· exact rfl); (intro w1 h1; first | (refine CallsTo.mono (show CallsTo Try.prog 33 [] w1 _ from m33 w1) ?_; rintro v w2 ⟨b1, b2, rfl, hn⟩; refine LR.back (h1.got hn th_dep) ?_; clear hn h1) | (refine CallsTo.mono (show CallsTo Try.prog 18 [threeP.val (threeA b1 b2), .int .i64 3] w1 _ from m18 threeP (threeA b1 b2) 3 w1 (thR (h1.holds (both (thr1 b1) (thr2 b2)) memZ)) threeI) ?_; rintro v w2 ⟨a7, c7, rfl, hn⟩; rw [w_sides] at hn ⊢; refine LR.back (h1.newSl hn) ?_; clear hn h1) | (refine CallsTo.mono (show CallsTo Try.prog 20 [threeP.val (threeA b1 b2), .int .i64 1] w1 _ from m20 threeP (threeA b1 b2) 1 w1 (thR (h1.holds (both (thr1 b1) (thr2 b2)) memZ)) threeI) ?_; rintro v w2 ⟨a8, c8, rfl, hn⟩; rw [w_gws] at hn ⊢; refine LR.back (h1.newSl hn) ?_; clear hn h1) | (refine CallsTo.mono (show CallsTo Try.prog 24 [threeP.val (threeA b1 b2), .int .i64 0, .slice (some ⟨bk, 0, none⟩) 3 3] w1 _ from m24 threeP (threeA b1 b2) threeI 0 knownW (some ⟨bk, 0, none⟩) 3 w1 (thR (h1.holds (both (thr1 b1) (thr2 b2)) memZ)) (h1.rd_of_blk memZ) (by decide)) ?_; rintro v w2 ⟨a9, c9, rfl, hn⟩; rw [w_view0] at hn ⊢; refine LR.back (h1.newSl hn) ?_; clear hn h1) | (refine CallsTo.mono (show CallsTo Try.prog 24 [threeP.val (threeA b1 b2), .int .i64 2, .slice (some ⟨bk, 0, none⟩) 3 3] w1 _ from m24 threeP (threeA b1 b2) threeI 2 knownW (some ⟨bk, 0, none⟩) 3 w1 (thR (h1.holds (both (thr1 b1) (thr2 b2)) memZ)) (h1.rd_of_blk memZ) (by decide)) ?_; rintro v w2 ⟨a9, c9, rfl, hn⟩; rw [w_view2] at hn ⊢; refine LR.back (h1.newSl hn) ?_; clear hn h1) | (refine CallsTo.mono (show CallsTo Try.prog 27 [.slice none 0 0, (plcA 1 24).val] w1 _ from m27 sort_few [] none 0 (plcA 1 24) w1 (Rd.nil _ _) (fun _ => rfl) (by decide) (by decide) (by decide)) ?_; rintro v w2 ⟨a10, c10, rfl, hn⟩; rw [w_lrn] at hn ⊢; refine LR.back (h1.newSl hn) ?_; clear hn h1))))
  apply At.pdone (ds := [25]) rfl
  · repeat (first | exact MixR.base _ | (apply MixR.upd; case hd => exact rfl))
  · repeat (first | exact Tl.nil | apply Tl.cons)
  · exact (fun A w' hA => St.sub hA (by simp only [List.cons_append, List.nil_append]; repeat (first | exact List.nil_sublist _ | exact List.Sublist.refl _ | apply List.Sublist.cons_cons | apply List.Sublist.cons)))
  refine DP.take 12 25 (fun b => .slice (some ⟨b, 0, none⟩) 2 2) (fun b => [.own b (.cells ([.int .i64 3, .int .i64 5] : List Value).toArray 3 (0, 0))]) [] [25] [[22]] rfl rfl rfl rfl rfl rfl rfl (by decide +kernel) ⟨⟨rfl, trivial⟩, fun _ _ _ => trivial, trivial⟩ (fun A w' hA => St.sub hA (by simp only [List.cons_append, List.nil_append]; repeat (first | exact List.nil_sublist _ | exact List.Sublist.refl _ | apply List.Sublist.cons_cons | apply List.Sublist.cons))) (fun bp25 => ?_)
  refine DP.nil ?_
  refine DW.castL (by simp only [List.cons_append, List.nil_append]; exact rfl) ?_
  all_goals (
    apply DW.loud 13
    · exact rfl
    · decide +kernel
    repeat'(first|refine kg' ?_|refine kG' ?_|apply kM|refine kv' ?_|refine kK' fun _=>?_|refine kU' ?_|refine kB' fun _=>?_|refine kA' fun _=>?_|(apply kq; (· exact rfl); (· intro w1 h1; first | (have hq := CallsTo.q (m13 threeP (threeA b1 b2) w1 (thR (h1.holds (both (thr1 b1) (thr2 b2)) memZ)) threeI) h1; rw [w_chk] at hq; exact hq) | (have hq := CallsTo.q (m15 threeP (threeA b1 b2) 3 0 w1 (thR (h1.holds (both (thr1 b1) (thr2 b2)) memZ)) threeI) h1; rw [w_far] at hq; exact hq) | exact CallsTo.q (m34 0 14 w1 (by decide)) h1 | exact CallsTo.q (m34 1 24 w1 (by decide)) h1 | exact CallsTo.q (m34 2 96 w1 (by decide)) h1 | exact CallsTo.q (show CallsTo Try.prog 17 [.slice a7 2 c7, .slice _ 2 2] w1 _ from t19 a7 _ c7 2 [0, 1] [0, 1] w1 (h1.rd_of_own memZ) (h1.rd_of_blk memZ) (by decide)) h1 | exact CallsTo.q (show CallsTo Try.prog 17 [.slice a8 2 c8, .slice _ 2 2] w1 _ from t19 a8 _ c8 2 [3, 5] [3, 5] w1 (h1.rd_of_own memZ) (h1.rd_of_blk memZ) (by decide)) h1 | exact CallsTo.q (show CallsTo Try.prog 25 [.slice a9 2 c9, .slice (some ⟨bk, 0, none⟩) 2 3] w1 _ from m25 a9 (some ⟨bk, 0, none⟩) c9 3 [plcA 0 14, plcA 1 24] [plcA 0 14, plcA 1 24] w1 (h1.rd_of_own memZ) (Rd.take 8 (h1.rd_of_blk (b := bk) (cs := pcs knownW) memZ)) (by decide)) h1 | exact CallsTo.q (show CallsTo Try.prog 25 [.slice a9 1 c9, .slice (some ⟨bk, 8, none⟩) 1 1] w1 _ from m25 a9 (some ⟨bk, 8, none⟩) c9 1 [plcA 2 96] [plcA 2 96] w1 (h1.rd_of_own memZ) (rd_from8 (h1.rd_of_blk (b := bk) (cs := pcs knownW) memZ)) (by decide)) h1))|(apply LR.call; (· exact rfl); (intro w1 h1; first | (refine CallsTo.mono (show CallsTo Try.prog 33 [] w1 _ from m33 w1) ?_; rintro v w2 ⟨b1, b2, rfl, hn⟩; refine LR.back (h1.got hn th_dep) ?_; clear hn h1) | (refine CallsTo.mono (show CallsTo Try.prog 18 [threeP.val (threeA b1 b2), .int .i64 3] w1 _ from m18 threeP (threeA b1 b2) 3 w1 (thR (h1.holds (both (thr1 b1) (thr2 b2)) memZ)) threeI) ?_; rintro v w2 ⟨a7, c7, rfl, hn⟩; rw [w_sides] at hn ⊢; refine LR.back (h1.newSl hn) ?_; clear hn h1) | (refine CallsTo.mono (show CallsTo Try.prog 20 [threeP.val (threeA b1 b2), .int .i64 1] w1 _ from m20 threeP (threeA b1 b2) 1 w1 (thR (h1.holds (both (thr1 b1) (thr2 b2)) memZ)) threeI) ?_; rintro v w2 ⟨a8, c8, rfl, hn⟩; rw [w_gws] at hn ⊢; refine LR.back (h1.newSl hn) ?_; clear hn h1) | (refine CallsTo.mono (show CallsTo Try.prog 24 [threeP.val (threeA b1 b2), .int .i64 0, .slice (some ⟨bk, 0, none⟩) 3 3] w1 _ from m24 threeP (threeA b1 b2) threeI 0 knownW (some ⟨bk, 0, none⟩) 3 w1 (thR (h1.holds (both (thr1 b1) (thr2 b2)) memZ)) (h1.rd_of_blk memZ) (by decide)) ?_; rintro v w2 ⟨a9, c9, rfl, hn⟩; rw [w_view0] at hn ⊢; refine LR.back (h1.newSl hn) ?_; clear hn h1) | (refine CallsTo.mono (show CallsTo Try.prog 24 [threeP.val (threeA b1 b2), .int .i64 2, .slice (some ⟨bk, 0, none⟩) 3 3] w1 _ from m24 threeP (threeA b1 b2) threeI 2 knownW (some ⟨bk, 0, none⟩) 3 w1 (thR (h1.holds (both (thr1 b1) (thr2 b2)) memZ)) (h1.rd_of_blk memZ) (by decide)) ?_; rintro v w2 ⟨a9, c9, rfl, hn⟩; rw [w_view2] at hn ⊢; refine LR.back (h1.newSl hn) ?_; clear hn h1) | (refine CallsTo.mono (show CallsTo Try.prog 27 [.slice none 0 0, (plcA 1 24).val] w1 _ from m27 sort_few [] none 0 (plcA 1 24) w1 (Rd.nil _ _) (fun _ => rfl) (by decide) (by decide) (by decide)) ?_; rintro v w2 ⟨a10, c10, rfl, hn⟩; rw [w_lrn] at hn ⊢; refine LR.back (h1.newSl hn) ?_; clear hn h1))))
    all_goals (refine At.stage_same (fun _ h => St.sub h subZ) ?_))
  all_goals (
    apply DW.quiet [14, 15, 16, 17, 18, 19, 20, 21, 22, 24, 26, 27]
    · decide +kernel
    · first | exact fun _ h => h | exact fun _ h => St.sub h subZ
    repeat'(first|(apply QL.evg; (iterate 3 exact rfl); (· apply Ev_hi; (· exact rfl); (· exact rfl); (· decide); (· decide)); (· exact rfl))|(apply QL.evg; (iterate 3 exact rfl); (· apply Ev_lo; (· exact rfl); (· exact rfl); (· decide); (· decide); (· decide)); (· exact rfl))|refine yv' ?_|refine uv' ?_|refine un' ?_|(refine us' ?_ ?_;all_goals(intro hc;try simp only[hcs]at hc;try(exfalso;first|contradiction|omega)))|apply QL.nil)
    all_goals (show DW _ _ _ _ _ _ _ _))
  all_goals (
    apply DW.loud 23
    · exact rfl
    · decide +kernel
    repeat'(first|refine kg' ?_|refine kG' ?_|apply kM|refine kv' ?_|refine kK' fun _=>?_|refine kU' ?_|refine kB' fun _=>?_|refine kA' fun _=>?_|(apply kq; (· exact rfl); (· intro w1 h1; first | (have hq := CallsTo.q (m13 threeP (threeA b1 b2) w1 (thR (h1.holds (both (thr1 b1) (thr2 b2)) memZ)) threeI) h1; rw [w_chk] at hq; exact hq) | (have hq := CallsTo.q (m15 threeP (threeA b1 b2) 3 0 w1 (thR (h1.holds (both (thr1 b1) (thr2 b2)) memZ)) threeI) h1; rw [w_far] at hq; exact hq) | exact CallsTo.q (m34 0 14 w1 (by decide)) h1 | exact CallsTo.q (m34 1 24 w1 (by decide)) h1 | exact CallsTo.q (m34 2 96 w1 (by decide)) h1 | exact CallsTo.q (show CallsTo Try.prog 17 [.slice a7 2 c7, .slice _ 2 2] w1 _ from t19 a7 _ c7 2 [0, 1] [0, 1] w1 (h1.rd_of_own memZ) (h1.rd_of_blk memZ) (by decide)) h1 | exact CallsTo.q (show CallsTo Try.prog 17 [.slice a8 2 c8, .slice _ 2 2] w1 _ from t19 a8 _ c8 2 [3, 5] [3, 5] w1 (h1.rd_of_own memZ) (h1.rd_of_blk memZ) (by decide)) h1 | exact CallsTo.q (show CallsTo Try.prog 25 [.slice a9 2 c9, .slice (some ⟨bk, 0, none⟩) 2 3] w1 _ from m25 a9 (some ⟨bk, 0, none⟩) c9 3 [plcA 0 14, plcA 1 24] [plcA 0 14, plcA 1 24] w1 (h1.rd_of_own memZ) (Rd.take 8 (h1.rd_of_blk (b := bk) (cs := pcs knownW) memZ)) (by decide)) h1 | exact CallsTo.q (show CallsTo Try.prog 25 [.slice a9 1 c9, .slice (some ⟨bk, 8, none⟩) 1 1] w1 _ from m25 a9 (some ⟨bk, 8, none⟩) c9 1 [plcA 2 96] [plcA 2 96] w1 (h1.rd_of_own memZ) (rd_from8 (h1.rd_of_blk (b := bk) (cs := pcs knownW) memZ)) (by decide)) h1))|(apply LR.call; (· exact rfl); (intro w1 h1; first | (refine CallsTo.mono (show CallsTo Try.prog 33 [] w1 _ from m33 w1) ?_; rintro v w2 ⟨b1, b2, rfl, hn⟩; refine LR.back (h1.got hn th_dep) ?_; clear hn h1) | (refine CallsTo.mono (show CallsTo Try.prog 18 [threeP.val (threeA b1 b2), .int .i64 3] w1 _ from m18 threeP (threeA b1 b2) 3 w1 (thR (h1.holds (both (thr1 b1) (thr2 b2)) memZ)) threeI) ?_; rintro v w2 ⟨a7, c7, rfl, hn⟩; rw [w_sides] at hn ⊢; refine LR.back (h1.newSl hn) ?_; clear hn h1) | (refine CallsTo.mono (show CallsTo Try.prog 20 [threeP.val (threeA b1 b2), .int .i64 1] w1 _ from m20 threeP (threeA b1 b2) 1 w1 (thR (h1.holds (both (thr1 b1) (thr2 b2)) memZ)) threeI) ?_; rintro v w2 ⟨a8, c8, rfl, hn⟩; rw [w_gws] at hn ⊢; refine LR.back (h1.newSl hn) ?_; clear hn h1) | (refine CallsTo.mono (show CallsTo Try.prog 24 [threeP.val (threeA b1 b2), .int .i64 0, .slice (some ⟨bk, 0, none⟩) 3 3] w1 _ from m24 threeP (threeA b1 b2) threeI 0 knownW (some ⟨bk, 0, none⟩) 3 w1 (thR (h1.holds (both (thr1 b1) (thr2 b2)) memZ)) (h1.rd_of_blk memZ) (by decide)) ?_; rintro v w2 ⟨a9, c9, rfl, hn⟩; rw [w_view0] at hn ⊢; refine LR.back (h1.newSl hn) ?_; clear hn h1) | (refine CallsTo.mono (show CallsTo Try.prog 24 [threeP.val (threeA b1 b2), .int .i64 2, .slice (some ⟨bk, 0, none⟩) 3 3] w1 _ from m24 threeP (threeA b1 b2) threeI 2 knownW (some ⟨bk, 0, none⟩) 3 w1 (thR (h1.holds (both (thr1 b1) (thr2 b2)) memZ)) (h1.rd_of_blk memZ) (by decide)) ?_; rintro v w2 ⟨a9, c9, rfl, hn⟩; rw [w_view2] at hn ⊢; refine LR.back (h1.newSl hn) ?_; clear hn h1) | (refine CallsTo.mono (show CallsTo Try.prog 27 [.slice none 0 0, (plcA 1 24).val] w1 _ from m27 sort_few [] none 0 (plcA 1 24) w1 (Rd.nil _ _) (fun _ => rfl) (by decide) (by decide) (by decide)) ?_; rintro v w2 ⟨a10, c10, rfl, hn⟩; rw [w_lrn] at hn ⊢; refine LR.back (h1.newSl hn) ?_; clear hn h1))))
    all_goals (refine At.stage_same (fun _ h => St.sub h subZ) ?_))
  all_goals (
    apply DW.loud 25
    · exact rfl
    · decide +kernel
    repeat'(first|refine kg' ?_|refine kG' ?_|apply kM|refine kv' ?_|refine kK' fun _=>?_|refine kU' ?_|refine kB' fun _=>?_|refine kA' fun _=>?_|(apply kq; (· exact rfl); (· intro w1 h1; first | (have hq := CallsTo.q (m13 threeP (threeA b1 b2) w1 (thR (h1.holds (both (thr1 b1) (thr2 b2)) memZ)) threeI) h1; rw [w_chk] at hq; exact hq) | (have hq := CallsTo.q (m15 threeP (threeA b1 b2) 3 0 w1 (thR (h1.holds (both (thr1 b1) (thr2 b2)) memZ)) threeI) h1; rw [w_far] at hq; exact hq) | exact CallsTo.q (m34 0 14 w1 (by decide)) h1 | exact CallsTo.q (m34 1 24 w1 (by decide)) h1 | exact CallsTo.q (m34 2 96 w1 (by decide)) h1 | exact CallsTo.q (show CallsTo Try.prog 17 [.slice a7 2 c7, .slice _ 2 2] w1 _ from t19 a7 _ c7 2 [0, 1] [0, 1] w1 (h1.rd_of_own memZ) (h1.rd_of_blk memZ) (by decide)) h1 | exact CallsTo.q (show CallsTo Try.prog 17 [.slice a8 2 c8, .slice _ 2 2] w1 _ from t19 a8 _ c8 2 [3, 5] [3, 5] w1 (h1.rd_of_own memZ) (h1.rd_of_blk memZ) (by decide)) h1 | exact CallsTo.q (show CallsTo Try.prog 25 [.slice a9 2 c9, .slice (some ⟨bk, 0, none⟩) 2 3] w1 _ from m25 a9 (some ⟨bk, 0, none⟩) c9 3 [plcA 0 14, plcA 1 24] [plcA 0 14, plcA 1 24] w1 (h1.rd_of_own memZ) (Rd.take 8 (h1.rd_of_blk (b := bk) (cs := pcs knownW) memZ)) (by decide)) h1 | exact CallsTo.q (show CallsTo Try.prog 25 [.slice a9 1 c9, .slice (some ⟨bk, 8, none⟩) 1 1] w1 _ from m25 a9 (some ⟨bk, 8, none⟩) c9 1 [plcA 2 96] [plcA 2 96] w1 (h1.rd_of_own memZ) (rd_from8 (h1.rd_of_blk (b := bk) (cs := pcs knownW) memZ)) (by decide)) h1))|(apply LR.call; (· exact rfl); (intro w1 h1; first | (refine CallsTo.mono (show CallsTo Try.prog 33 [] w1 _ from m33 w1) ?_; rintro v w2 ⟨b1, b2, rfl, hn⟩; refine LR.back (h1.got hn th_dep) ?_; clear hn h1) | (refine CallsTo.mono (show CallsTo Try.prog 18 [threeP.val (threeA b1 b2), .int .i64 3] w1 _ from m18 threeP (threeA b1 b2) 3 w1 (thR (h1.holds (both (thr1 b1) (thr2 b2)) memZ)) threeI) ?_; rintro v w2 ⟨a7, c7, rfl, hn⟩; rw [w_sides] at hn ⊢; refine LR.back (h1.newSl hn) ?_; clear hn h1) | (refine CallsTo.mono (show CallsTo Try.prog 20 [threeP.val (threeA b1 b2), .int .i64 1] w1 _ from m20 threeP (threeA b1 b2) 1 w1 (thR (h1.holds (both (thr1 b1) (thr2 b2)) memZ)) threeI) ?_; rintro v w2 ⟨a8, c8, rfl, hn⟩; rw [w_gws] at hn ⊢; refine LR.back (h1.newSl hn) ?_; clear hn h1) | (refine CallsTo.mono (show CallsTo Try.prog 24 [threeP.val (threeA b1 b2), .int .i64 0, .slice (some ⟨bk, 0, none⟩) 3 3] w1 _ from m24 threeP (threeA b1 b2) threeI 0 knownW (some ⟨bk, 0, none⟩) 3 w1 (thR (h1.holds (both (thr1 b1) (thr2 b2)) memZ)) (h1.rd_of_blk memZ) (by decide)) ?_; rintro v w2 ⟨a9, c9, rfl, hn⟩; rw [w_view0] at hn ⊢; refine LR.back (h1.newSl hn) ?_; clear hn h1) | (refine CallsTo.mono (show CallsTo Try.prog 24 [threeP.val (threeA b1 b2), .int .i64 2, .slice (some ⟨bk, 0, none⟩) 3 3] w1 _ from m24 threeP (threeA b1 b2) threeI 2 knownW (some ⟨bk, 0, none⟩) 3 w1 (thR (h1.holds (both (thr1 b1) (thr2 b2)) memZ)) (h1.rd_of_blk memZ) (by decide)) ?_; rintro v w2 ⟨a9, c9, rfl, hn⟩; rw [w_view2] at hn ⊢; refine LR.back (h1.newSl hn) ?_; clear hn h1) | (refine CallsTo.mono (show CallsTo Try.prog 27 [.slice none 0 0, (plcA 1 24).val] w1 _ from m27 sort_few [] none 0 (plcA 1 24) w1 (Rd.nil _ _) (fun _ => rfl) (by decide) (by decide) (by decide)) ?_; rintro v w2 ⟨a10, c10, rfl, hn⟩; rw [w_lrn] at hn ⊢; refine LR.back (h1.newSl hn) ?_; clear hn h1))))
    all_goals (refine At.stage_same (fun _ h => St.sub h subZ) ?_))
  all_goals (
    apply DW.loud 28
    · exact rfl
    · decide +kernel
    repeat'(first|refine kg' ?_|refine kG' ?_|apply kM|refine kv' ?_|refine kK' fun _=>?_|refine kU' ?_|refine kB' fun _=>?_|refine kA' fun _=>?_|(apply kq; (· exact rfl); (· intro w1 h1; first | (have hq := CallsTo.q (m13 threeP (threeA b1 b2) w1 (thR (h1.holds (both (thr1 b1) (thr2 b2)) memZ)) threeI) h1; rw [w_chk] at hq; exact hq) | (have hq := CallsTo.q (m15 threeP (threeA b1 b2) 3 0 w1 (thR (h1.holds (both (thr1 b1) (thr2 b2)) memZ)) threeI) h1; rw [w_far] at hq; exact hq) | exact CallsTo.q (m34 0 14 w1 (by decide)) h1 | exact CallsTo.q (m34 1 24 w1 (by decide)) h1 | exact CallsTo.q (m34 2 96 w1 (by decide)) h1 | exact CallsTo.q (show CallsTo Try.prog 17 [.slice a7 2 c7, .slice _ 2 2] w1 _ from t19 a7 _ c7 2 [0, 1] [0, 1] w1 (h1.rd_of_own memZ) (h1.rd_of_blk memZ) (by decide)) h1 | exact CallsTo.q (show CallsTo Try.prog 17 [.slice a8 2 c8, .slice _ 2 2] w1 _ from t19 a8 _ c8 2 [3, 5] [3, 5] w1 (h1.rd_of_own memZ) (h1.rd_of_blk memZ) (by decide)) h1 | exact CallsTo.q (show CallsTo Try.prog 25 [.slice a9 2 c9, .slice (some ⟨bk, 0, none⟩) 2 3] w1 _ from m25 a9 (some ⟨bk, 0, none⟩) c9 3 [plcA 0 14, plcA 1 24] [plcA 0 14, plcA 1 24] w1 (h1.rd_of_own memZ) (Rd.take 8 (h1.rd_of_blk (b := bk) (cs := pcs knownW) memZ)) (by decide)) h1 | exact CallsTo.q (show CallsTo Try.prog 25 [.slice a9 1 c9, .slice (some ⟨bk, 8, none⟩) 1 1] w1 _ from m25 a9 (some ⟨bk, 8, none⟩) c9 1 [plcA 2 96] [plcA 2 96] w1 (h1.rd_of_own memZ) (rd_from8 (h1.rd_of_blk (b := bk) (cs := pcs knownW) memZ)) (by decide)) h1))|(apply LR.call; (· exact rfl); (intro w1 h1; first | (refine CallsTo.mono (show CallsTo Try.prog 33 [] w1 _ from m33 w1) ?_; rintro v w2 ⟨b1, b2, rfl, hn⟩; refine LR.back (h1.got hn th_dep) ?_; clear hn h1) | (refine CallsTo.mono (show CallsTo Try.prog 18 [threeP.val (threeA b1 b2), .int .i64 3] w1 _ from m18 threeP (threeA b1 b2) 3 w1 (thR (h1.holds (both (thr1 b1) (thr2 b2)) memZ)) threeI) ?_; rintro v w2 ⟨a7, c7, rfl, hn⟩; rw [w_sides] at hn ⊢; refine LR.back (h1.newSl hn) ?_; clear hn h1) | (refine CallsTo.mono (show CallsTo Try.prog 20 [threeP.val (threeA b1 b2), .int .i64 1] w1 _ from m20 threeP (threeA b1 b2) 1 w1 (thR (h1.holds (both (thr1 b1) (thr2 b2)) memZ)) threeI) ?_; rintro v w2 ⟨a8, c8, rfl, hn⟩; rw [w_gws] at hn ⊢; refine LR.back (h1.newSl hn) ?_; clear hn h1) | (refine CallsTo.mono (show CallsTo Try.prog 24 [threeP.val (threeA b1 b2), .int .i64 0, .slice (some ⟨bk, 0, none⟩) 3 3] w1 _ from m24 threeP (threeA b1 b2) threeI 0 knownW (some ⟨bk, 0, none⟩) 3 w1 (thR (h1.holds (both (thr1 b1) (thr2 b2)) memZ)) (h1.rd_of_blk memZ) (by decide)) ?_; rintro v w2 ⟨a9, c9, rfl, hn⟩; rw [w_view0] at hn ⊢; refine LR.back (h1.newSl hn) ?_; clear hn h1) | (refine CallsTo.mono (show CallsTo Try.prog 24 [threeP.val (threeA b1 b2), .int .i64 2, .slice (some ⟨bk, 0, none⟩) 3 3] w1 _ from m24 threeP (threeA b1 b2) threeI 2 knownW (some ⟨bk, 0, none⟩) 3 w1 (thR (h1.holds (both (thr1 b1) (thr2 b2)) memZ)) (h1.rd_of_blk memZ) (by decide)) ?_; rintro v w2 ⟨a9, c9, rfl, hn⟩; rw [w_view2] at hn ⊢; refine LR.back (h1.newSl hn) ?_; clear hn h1) | (refine CallsTo.mono (show CallsTo Try.prog 27 [.slice none 0 0, (plcA 1 24).val] w1 _ from m27 sort_few [] none 0 (plcA 1 24) w1 (Rd.nil _ _) (fun _ => rfl) (by decide) (by decide) (by decide)) ?_; rintro v w2 ⟨a10, c10, rfl, hn⟩; rw [w_lrn] at hn ⊢; refine LR.back (h1.newSl hn) ?_; clear hn h1))))
    all_goals (refine At.stage_same (fun _ h => St.sub h subZ) ?_))
  all_goals (
    apply DW.quiet [29, 30, 32, 34, 35]
    · decide +kernel
    · first | exact fun _ h => h | exact fun _ h => St.sub h subZ
    repeat'(first|(apply QL.evg; (iterate 3 exact rfl); (· apply Ev_hi; (· exact rfl); (· exact rfl); (· decide); (· decide)); (· exact rfl))|(apply QL.evg; (iterate 3 exact rfl); (· apply Ev_lo; (· exact rfl); (· exact rfl); (· decide); (· decide); (· decide)); (· exact rfl))|refine yv' ?_|refine uv' ?_|refine un' ?_|(refine us' ?_ ?_;all_goals(intro hc;try simp only[hcs]at hc;try(exfalso;first|contradiction|omega)))|apply QL.nil)
    all_goals (show DW _ _ _ _ _ _ _ _))
  all_goals (
    apply DW.loud 31
    · exact rfl
    · decide +kernel
    repeat'(first|refine kg' ?_|refine kG' ?_|apply kM|refine kv' ?_|refine kK' fun _=>?_|refine kU' ?_|refine kB' fun _=>?_|refine kA' fun _=>?_|(apply kq; (· exact rfl); (· intro w1 h1; first | (have hq := CallsTo.q (m13 threeP (threeA b1 b2) w1 (thR (h1.holds (both (thr1 b1) (thr2 b2)) memZ)) threeI) h1; rw [w_chk] at hq; exact hq) | (have hq := CallsTo.q (m15 threeP (threeA b1 b2) 3 0 w1 (thR (h1.holds (both (thr1 b1) (thr2 b2)) memZ)) threeI) h1; rw [w_far] at hq; exact hq) | exact CallsTo.q (m34 0 14 w1 (by decide)) h1 | exact CallsTo.q (m34 1 24 w1 (by decide)) h1 | exact CallsTo.q (m34 2 96 w1 (by decide)) h1 | exact CallsTo.q (show CallsTo Try.prog 17 [.slice a7 2 c7, .slice _ 2 2] w1 _ from t19 a7 _ c7 2 [0, 1] [0, 1] w1 (h1.rd_of_own memZ) (h1.rd_of_blk memZ) (by decide)) h1 | exact CallsTo.q (show CallsTo Try.prog 17 [.slice a8 2 c8, .slice _ 2 2] w1 _ from t19 a8 _ c8 2 [3, 5] [3, 5] w1 (h1.rd_of_own memZ) (h1.rd_of_blk memZ) (by decide)) h1 | exact CallsTo.q (show CallsTo Try.prog 25 [.slice a9 2 c9, .slice (some ⟨bk, 0, none⟩) 2 3] w1 _ from m25 a9 (some ⟨bk, 0, none⟩) c9 3 [plcA 0 14, plcA 1 24] [plcA 0 14, plcA 1 24] w1 (h1.rd_of_own memZ) (Rd.take 8 (h1.rd_of_blk (b := bk) (cs := pcs knownW) memZ)) (by decide)) h1 | exact CallsTo.q (show CallsTo Try.prog 25 [.slice a9 1 c9, .slice (some ⟨bk, 8, none⟩) 1 1] w1 _ from m25 a9 (some ⟨bk, 8, none⟩) c9 1 [plcA 2 96] [plcA 2 96] w1 (h1.rd_of_own memZ) (rd_from8 (h1.rd_of_blk (b := bk) (cs := pcs knownW) memZ)) (by decide)) h1))|(apply LR.call; (· exact rfl); (intro w1 h1; first | (refine CallsTo.mono (show CallsTo Try.prog 33 [] w1 _ from m33 w1) ?_; rintro v w2 ⟨b1, b2, rfl, hn⟩; refine LR.back (h1.got hn th_dep) ?_; clear hn h1) | (refine CallsTo.mono (show CallsTo Try.prog 18 [threeP.val (threeA b1 b2), .int .i64 3] w1 _ from m18 threeP (threeA b1 b2) 3 w1 (thR (h1.holds (both (thr1 b1) (thr2 b2)) memZ)) threeI) ?_; rintro v w2 ⟨a7, c7, rfl, hn⟩; rw [w_sides] at hn ⊢; refine LR.back (h1.newSl hn) ?_; clear hn h1) | (refine CallsTo.mono (show CallsTo Try.prog 20 [threeP.val (threeA b1 b2), .int .i64 1] w1 _ from m20 threeP (threeA b1 b2) 1 w1 (thR (h1.holds (both (thr1 b1) (thr2 b2)) memZ)) threeI) ?_; rintro v w2 ⟨a8, c8, rfl, hn⟩; rw [w_gws] at hn ⊢; refine LR.back (h1.newSl hn) ?_; clear hn h1) | (refine CallsTo.mono (show CallsTo Try.prog 24 [threeP.val (threeA b1 b2), .int .i64 0, .slice (some ⟨bk, 0, none⟩) 3 3] w1 _ from m24 threeP (threeA b1 b2) threeI 0 knownW (some ⟨bk, 0, none⟩) 3 w1 (thR (h1.holds (both (thr1 b1) (thr2 b2)) memZ)) (h1.rd_of_blk memZ) (by decide)) ?_; rintro v w2 ⟨a9, c9, rfl, hn⟩; rw [w_view0] at hn ⊢; refine LR.back (h1.newSl hn) ?_; clear hn h1) | (refine CallsTo.mono (show CallsTo Try.prog 24 [threeP.val (threeA b1 b2), .int .i64 2, .slice (some ⟨bk, 0, none⟩) 3 3] w1 _ from m24 threeP (threeA b1 b2) threeI 2 knownW (some ⟨bk, 0, none⟩) 3 w1 (thR (h1.holds (both (thr1 b1) (thr2 b2)) memZ)) (h1.rd_of_blk memZ) (by decide)) ?_; rintro v w2 ⟨a9, c9, rfl, hn⟩; rw [w_view2] at hn ⊢; refine LR.back (h1.newSl hn) ?_; clear hn h1) | (refine CallsTo.mono (show CallsTo Try.prog 27 [.slice none 0 0, (plcA 1 24).val] w1 _ from m27 sort_few [] none 0 (plcA 1 24) w1 (Rd.nil _ _) (fun _ => rfl) (by decide) (by decide) (by decide)) ?_; rintro v w2 ⟨a10, c10, rfl, hn⟩; rw [w_lrn] at hn ⊢; refine LR.back (h1.newSl hn) ?_; clear hn h1))))
    all_goals (refine At.stage_same (fun _ h => St.sub h subZ) ?_))
  all_goals (
    apply DW.loud 33
    · exact rfl
    · decide +kernel
    repeat'(first|refine kg' ?_|refine kG' ?_|apply kM|refine kv' ?_|refine kK' fun _=>?_|refine kU' ?_|refine kB' fun _=>?_|refine kA' fun _=>?_|(apply kq; (· exact rfl); (· intro w1 h1; first | (have hq := CallsTo.q (m13 threeP (threeA b1 b2) w1 (thR (h1.holds (both (thr1 b1) (thr2 b2)) memZ)) threeI) h1; rw [w_chk] at hq; exact hq) | (have hq := CallsTo.q (m15 threeP (threeA b1 b2) 3 0 w1 (thR (h1.holds (both (thr1 b1) (thr2 b2)) memZ)) threeI) h1; rw [w_far] at hq; exact hq) | exact CallsTo.q (m34 0 14 w1 (by decide)) h1 | exact CallsTo.q (m34 1 24 w1 (by decide)) h1 | exact CallsTo.q (m34 2 96 w1 (by decide)) h1 | exact CallsTo.q (show CallsTo Try.prog 17 [.slice a7 2 c7, .slice _ 2 2] w1 _ from t19 a7 _ c7 2 [0, 1] [0, 1] w1 (h1.rd_of_own memZ) (h1.rd_of_blk memZ) (by decide)) h1 | exact CallsTo.q (show CallsTo Try.prog 17 [.slice a8 2 c8, .slice _ 2 2] w1 _ from t19 a8 _ c8 2 [3, 5] [3, 5] w1 (h1.rd_of_own memZ) (h1.rd_of_blk memZ) (by decide)) h1 | exact CallsTo.q (show CallsTo Try.prog 25 [.slice a9 2 c9, .slice (some ⟨bk, 0, none⟩) 2 3] w1 _ from m25 a9 (some ⟨bk, 0, none⟩) c9 3 [plcA 0 14, plcA 1 24] [plcA 0 14, plcA 1 24] w1 (h1.rd_of_own memZ) (Rd.take 8 (h1.rd_of_blk (b := bk) (cs := pcs knownW) memZ)) (by decide)) h1 | exact CallsTo.q (show CallsTo Try.prog 25 [.slice a9 1 c9, .slice (some ⟨bk, 8, none⟩) 1 1] w1 _ from m25 a9 (some ⟨bk, 8, none⟩) c9 1 [plcA 2 96] [plcA 2 96] w1 (h1.rd_of_own memZ) (rd_from8 (h1.rd_of_blk (b := bk) (cs := pcs knownW) memZ)) (by decide)) h1))|(apply LR.call; (· exact rfl); (intro w1 h1; first | (refine CallsTo.mono (show CallsTo Try.prog 33 [] w1 _ from m33 w1) ?_; rintro v w2 ⟨b1, b2, rfl, hn⟩; refine LR.back (h1.got hn th_dep) ?_; clear hn h1) | (refine CallsTo.mono (show CallsTo Try.prog 18 [threeP.val (threeA b1 b2), .int .i64 3] w1 _ from m18 threeP (threeA b1 b2) 3 w1 (thR (h1.holds (both (thr1 b1) (thr2 b2)) memZ)) threeI) ?_; rintro v w2 ⟨a7, c7, rfl, hn⟩; rw [w_sides] at hn ⊢; refine LR.back (h1.newSl hn) ?_; clear hn h1) | (refine CallsTo.mono (show CallsTo Try.prog 20 [threeP.val (threeA b1 b2), .int .i64 1] w1 _ from m20 threeP (threeA b1 b2) 1 w1 (thR (h1.holds (both (thr1 b1) (thr2 b2)) memZ)) threeI) ?_; rintro v w2 ⟨a8, c8, rfl, hn⟩; rw [w_gws] at hn ⊢; refine LR.back (h1.newSl hn) ?_; clear hn h1) | (refine CallsTo.mono (show CallsTo Try.prog 24 [threeP.val (threeA b1 b2), .int .i64 0, .slice (some ⟨bk, 0, none⟩) 3 3] w1 _ from m24 threeP (threeA b1 b2) threeI 0 knownW (some ⟨bk, 0, none⟩) 3 w1 (thR (h1.holds (both (thr1 b1) (thr2 b2)) memZ)) (h1.rd_of_blk memZ) (by decide)) ?_; rintro v w2 ⟨a9, c9, rfl, hn⟩; rw [w_view0] at hn ⊢; refine LR.back (h1.newSl hn) ?_; clear hn h1) | (refine CallsTo.mono (show CallsTo Try.prog 24 [threeP.val (threeA b1 b2), .int .i64 2, .slice (some ⟨bk, 0, none⟩) 3 3] w1 _ from m24 threeP (threeA b1 b2) threeI 2 knownW (some ⟨bk, 0, none⟩) 3 w1 (thR (h1.holds (both (thr1 b1) (thr2 b2)) memZ)) (h1.rd_of_blk memZ) (by decide)) ?_; rintro v w2 ⟨a9, c9, rfl, hn⟩; rw [w_view2] at hn ⊢; refine LR.back (h1.newSl hn) ?_; clear hn h1) | (refine CallsTo.mono (show CallsTo Try.prog 27 [.slice none 0 0, (plcA 1 24).val] w1 _ from m27 sort_few [] none 0 (plcA 1 24) w1 (Rd.nil _ _) (fun _ => rfl) (by decide) (by decide) (by decide)) ?_; rintro v w2 ⟨a10, c10, rfl, hn⟩; rw [w_lrn] at hn ⊢; refine LR.back (h1.newSl hn) ?_; clear hn h1))))
    all_goals (refine At.stage_same (fun _ h => St.sub h subZ) ?_))
  all_goals (
    apply DW.loud 36
    · exact rfl
    · decide +kernel
    repeat'(first|refine kg' ?_|refine kG' ?_|apply kM|refine kv' ?_|refine kK' fun _=>?_|refine kU' ?_|refine kB' fun _=>?_|refine kA' fun _=>?_|(apply kq; (· exact rfl); (· intro w1 h1; first | (have hq := CallsTo.q (m13 threeP (threeA b1 b2) w1 (thR (h1.holds (both (thr1 b1) (thr2 b2)) memZ)) threeI) h1; rw [w_chk] at hq; exact hq) | (have hq := CallsTo.q (m15 threeP (threeA b1 b2) 3 0 w1 (thR (h1.holds (both (thr1 b1) (thr2 b2)) memZ)) threeI) h1; rw [w_far] at hq; exact hq) | exact CallsTo.q (m34 0 14 w1 (by decide)) h1 | exact CallsTo.q (m34 1 24 w1 (by decide)) h1 | exact CallsTo.q (m34 2 96 w1 (by decide)) h1 | exact CallsTo.q (show CallsTo Try.prog 17 [.slice a7 2 c7, .slice _ 2 2] w1 _ from t19 a7 _ c7 2 [0, 1] [0, 1] w1 (h1.rd_of_own memZ) (h1.rd_of_blk memZ) (by decide)) h1 | exact CallsTo.q (show CallsTo Try.prog 17 [.slice a8 2 c8, .slice _ 2 2] w1 _ from t19 a8 _ c8 2 [3, 5] [3, 5] w1 (h1.rd_of_own memZ) (h1.rd_of_blk memZ) (by decide)) h1 | exact CallsTo.q (show CallsTo Try.prog 25 [.slice a9 2 c9, .slice (some ⟨bk, 0, none⟩) 2 3] w1 _ from m25 a9 (some ⟨bk, 0, none⟩) c9 3 [plcA 0 14, plcA 1 24] [plcA 0 14, plcA 1 24] w1 (h1.rd_of_own memZ) (Rd.take 8 (h1.rd_of_blk (b := bk) (cs := pcs knownW) memZ)) (by decide)) h1 | exact CallsTo.q (show CallsTo Try.prog 25 [.slice a9 1 c9, .slice (some ⟨bk, 8, none⟩) 1 1] w1 _ from m25 a9 (some ⟨bk, 8, none⟩) c9 1 [plcA 2 96] [plcA 2 96] w1 (h1.rd_of_own memZ) (rd_from8 (h1.rd_of_blk (b := bk) (cs := pcs knownW) memZ)) (by decide)) h1))|(apply LR.call; (· exact rfl); (intro w1 h1; first | (refine CallsTo.mono (show CallsTo Try.prog 33 [] w1 _ from m33 w1) ?_; rintro v w2 ⟨b1, b2, rfl, hn⟩; refine LR.back (h1.got hn th_dep) ?_; clear hn h1) | (refine CallsTo.mono (show CallsTo Try.prog 18 [threeP.val (threeA b1 b2), .int .i64 3] w1 _ from m18 threeP (threeA b1 b2) 3 w1 (thR (h1.holds (both (thr1 b1) (thr2 b2)) memZ)) threeI) ?_; rintro v w2 ⟨a7, c7, rfl, hn⟩; rw [w_sides] at hn ⊢; refine LR.back (h1.newSl hn) ?_; clear hn h1) | (refine CallsTo.mono (show CallsTo Try.prog 20 [threeP.val (threeA b1 b2), .int .i64 1] w1 _ from m20 threeP (threeA b1 b2) 1 w1 (thR (h1.holds (both (thr1 b1) (thr2 b2)) memZ)) threeI) ?_; rintro v w2 ⟨a8, c8, rfl, hn⟩; rw [w_gws] at hn ⊢; refine LR.back (h1.newSl hn) ?_; clear hn h1) | (refine CallsTo.mono (show CallsTo Try.prog 24 [threeP.val (threeA b1 b2), .int .i64 0, .slice (some ⟨bk, 0, none⟩) 3 3] w1 _ from m24 threeP (threeA b1 b2) threeI 0 knownW (some ⟨bk, 0, none⟩) 3 w1 (thR (h1.holds (both (thr1 b1) (thr2 b2)) memZ)) (h1.rd_of_blk memZ) (by decide)) ?_; rintro v w2 ⟨a9, c9, rfl, hn⟩; rw [w_view0] at hn ⊢; refine LR.back (h1.newSl hn) ?_; clear hn h1) | (refine CallsTo.mono (show CallsTo Try.prog 24 [threeP.val (threeA b1 b2), .int .i64 2, .slice (some ⟨bk, 0, none⟩) 3 3] w1 _ from m24 threeP (threeA b1 b2) threeI 2 knownW (some ⟨bk, 0, none⟩) 3 w1 (thR (h1.holds (both (thr1 b1) (thr2 b2)) memZ)) (h1.rd_of_blk memZ) (by decide)) ?_; rintro v w2 ⟨a9, c9, rfl, hn⟩; rw [w_view2] at hn ⊢; refine LR.back (h1.newSl hn) ?_; clear hn h1) | (refine CallsTo.mono (show CallsTo Try.prog 27 [.slice none 0 0, (plcA 1 24).val] w1 _ from m27 sort_few [] none 0 (plcA 1 24) w1 (Rd.nil _ _) (fun _ => rfl) (by decide) (by decide) (by decide)) ?_; rintro v w2 ⟨a10, c10, rfl, hn⟩; rw [w_lrn] at hn ⊢; refine LR.back (h1.newSl hn) ?_; clear hn h1))))
    all_goals (refine At.stage_same (fun _ h => St.sub h subZ) ?_))
  all_goals (
    apply DW.quiet [37, 38]
    · decide +kernel
    · first | exact fun _ h => h | exact fun _ h => St.sub h subZ
    repeat'(first|(apply QL.evg; (iterate 3 exact rfl); (· apply Ev_hi; (· exact rfl); (· exact rfl); (· decide); (· decide)); (· exact rfl))|(apply QL.evg; (iterate 3 exact rfl); (· apply Ev_lo; (· exact rfl); (· exact rfl); (· decide); (· decide); (· decide)); (· exact rfl))|refine yv' ?_|refine uv' ?_|refine un' ?_|(refine us' ?_ ?_;all_goals(intro hc;try simp only[hcs]at hc;try(exfalso;first|contradiction|omega)))|apply QL.nil)
    all_goals (show DW _ _ _ _ _ _ _ _))
  all_goals (
    apply DW.loud 39
    · exact rfl
    · decide +kernel
    repeat'(first|refine kg' ?_|refine kG' ?_|apply kM|refine kv' ?_|refine kK' fun _=>?_|refine kU' ?_|refine kB' fun _=>?_|refine kA' fun _=>?_|(apply kq; (· exact rfl); (· intro w1 h1; first | (have hq := CallsTo.q (m13 threeP (threeA b1 b2) w1 (thR (h1.holds (both (thr1 b1) (thr2 b2)) memZ)) threeI) h1; rw [w_chk] at hq; exact hq) | (have hq := CallsTo.q (m15 threeP (threeA b1 b2) 3 0 w1 (thR (h1.holds (both (thr1 b1) (thr2 b2)) memZ)) threeI) h1; rw [w_far] at hq; exact hq) | exact CallsTo.q (m34 0 14 w1 (by decide)) h1 | exact CallsTo.q (m34 1 24 w1 (by decide)) h1 | exact CallsTo.q (m34 2 96 w1 (by decide)) h1 | exact CallsTo.q (show CallsTo Try.prog 17 [.slice a7 2 c7, .slice _ 2 2] w1 _ from t19 a7 _ c7 2 [0, 1] [0, 1] w1 (h1.rd_of_own memZ) (h1.rd_of_blk memZ) (by decide)) h1 | exact CallsTo.q (show CallsTo Try.prog 17 [.slice a8 2 c8, .slice _ 2 2] w1 _ from t19 a8 _ c8 2 [3, 5] [3, 5] w1 (h1.rd_of_own memZ) (h1.rd_of_blk memZ) (by decide)) h1 | exact CallsTo.q (show CallsTo Try.prog 25 [.slice a9 2 c9, .slice (some ⟨bk, 0, none⟩) 2 3] w1 _ from m25 a9 (some ⟨bk, 0, none⟩) c9 3 [plcA 0 14, plcA 1 24] [plcA 0 14, plcA 1 24] w1 (h1.rd_of_own memZ) (Rd.take 8 (h1.rd_of_blk (b := bk) (cs := pcs knownW) memZ)) (by decide)) h1 | exact CallsTo.q (show CallsTo Try.prog 25 [.slice a9 1 c9, .slice (some ⟨bk, 8, none⟩) 1 1] w1 _ from m25 a9 (some ⟨bk, 8, none⟩) c9 1 [plcA 2 96] [plcA 2 96] w1 (h1.rd_of_own memZ) (rd_from8 (h1.rd_of_blk (b := bk) (cs := pcs knownW) memZ)) (by decide)) h1))|(apply LR.call; (· exact rfl); (intro w1 h1; first | (refine CallsTo.mono (show CallsTo Try.prog 33 [] w1 _ from m33 w1) ?_; rintro v w2 ⟨b1, b2, rfl, hn⟩; refine LR.back (h1.got hn th_dep) ?_; clear hn h1) | (refine CallsTo.mono (show CallsTo Try.prog 18 [threeP.val (threeA b1 b2), .int .i64 3] w1 _ from m18 threeP (threeA b1 b2) 3 w1 (thR (h1.holds (both (thr1 b1) (thr2 b2)) memZ)) threeI) ?_; rintro v w2 ⟨a7, c7, rfl, hn⟩; rw [w_sides] at hn ⊢; refine LR.back (h1.newSl hn) ?_; clear hn h1) | (refine CallsTo.mono (show CallsTo Try.prog 20 [threeP.val (threeA b1 b2), .int .i64 1] w1 _ from m20 threeP (threeA b1 b2) 1 w1 (thR (h1.holds (both (thr1 b1) (thr2 b2)) memZ)) threeI) ?_; rintro v w2 ⟨a8, c8, rfl, hn⟩; rw [w_gws] at hn ⊢; refine LR.back (h1.newSl hn) ?_; clear hn h1) | (refine CallsTo.mono (show CallsTo Try.prog 24 [threeP.val (threeA b1 b2), .int .i64 0, .slice (some ⟨bk, 0, none⟩) 3 3] w1 _ from m24 threeP (threeA b1 b2) threeI 0 knownW (some ⟨bk, 0, none⟩) 3 w1 (thR (h1.holds (both (thr1 b1) (thr2 b2)) memZ)) (h1.rd_of_blk memZ) (by decide)) ?_; rintro v w2 ⟨a9, c9, rfl, hn⟩; rw [w_view0] at hn ⊢; refine LR.back (h1.newSl hn) ?_; clear hn h1) | (refine CallsTo.mono (show CallsTo Try.prog 24 [threeP.val (threeA b1 b2), .int .i64 2, .slice (some ⟨bk, 0, none⟩) 3 3] w1 _ from m24 threeP (threeA b1 b2) threeI 2 knownW (some ⟨bk, 0, none⟩) 3 w1 (thR (h1.holds (both (thr1 b1) (thr2 b2)) memZ)) (h1.rd_of_blk memZ) (by decide)) ?_; rintro v w2 ⟨a9, c9, rfl, hn⟩; rw [w_view2] at hn ⊢; refine LR.back (h1.newSl hn) ?_; clear hn h1) | (refine CallsTo.mono (show CallsTo Try.prog 27 [.slice none 0 0, (plcA 1 24).val] w1 _ from m27 sort_few [] none 0 (plcA 1 24) w1 (Rd.nil _ _) (fun _ => rfl) (by decide) (by decide) (by decide)) ?_; rintro v w2 ⟨a10, c10, rfl, hn⟩; rw [w_lrn] at hn ⊢; refine LR.back (h1.newSl hn) ?_; clear hn h1))))
    all_goals (refine At.stage_same (fun _ h => St.sub h subZ) ?_))
  all_goals (
    apply DW.loud 40
    · exact rfl
    · decide +kernel
    repeat'(first|refine kg' ?_|refine kG' ?_|apply kM|refine kv' ?_|refine kK' fun _=>?_|refine kU' ?_|refine kB' fun _=>?_|refine kA' fun _=>?_|(apply kq; (· exact rfl); (· intro w1 h1; first | (have hq := CallsTo.q (m13 threeP (threeA b1 b2) w1 (thR (h1.holds (both (thr1 b1) (thr2 b2)) memZ)) threeI) h1; rw [w_chk] at hq; exact hq) | (have hq := CallsTo.q (m15 threeP (threeA b1 b2) 3 0 w1 (thR (h1.holds (both (thr1 b1) (thr2 b2)) memZ)) threeI) h1; rw [w_far] at hq; exact hq) | exact CallsTo.q (m34 0 14 w1 (by decide)) h1 | exact CallsTo.q (m34 1 24 w1 (by decide)) h1 | exact CallsTo.q (m34 2 96 w1 (by decide)) h1 | exact CallsTo.q (show CallsTo Try.prog 17 [.slice a7 2 c7, .slice _ 2 2] w1 _ from t19 a7 _ c7 2 [0, 1] [0, 1] w1 (h1.rd_of_own memZ) (h1.rd_of_blk memZ) (by decide)) h1 | exact CallsTo.q (show CallsTo Try.prog 17 [.slice a8 2 c8, .slice _ 2 2] w1 _ from t19 a8 _ c8 2 [3, 5] [3, 5] w1 (h1.rd_of_own memZ) (h1.rd_of_blk memZ) (by decide)) h1 | exact CallsTo.q (show CallsTo Try.prog 25 [.slice a9 2 c9, .slice (some ⟨bk, 0, none⟩) 2 3] w1 _ from m25 a9 (some ⟨bk, 0, none⟩) c9 3 [plcA 0 14, plcA 1 24] [plcA 0 14, plcA 1 24] w1 (h1.rd_of_own memZ) (Rd.take 8 (h1.rd_of_blk (b := bk) (cs := pcs knownW) memZ)) (by decide)) h1 | exact CallsTo.q (show CallsTo Try.prog 25 [.slice a9 1 c9, .slice (some ⟨bk, 8, none⟩) 1 1] w1 _ from m25 a9 (some ⟨bk, 8, none⟩) c9 1 [plcA 2 96] [plcA 2 96] w1 (h1.rd_of_own memZ) (rd_from8 (h1.rd_of_blk (b := bk) (cs := pcs knownW) memZ)) (by decide)) h1))|(apply LR.call; (· exact rfl); (intro w1 h1; first | (refine CallsTo.mono (show CallsTo Try.prog 33 [] w1 _ from m33 w1) ?_; rintro v w2 ⟨b1, b2, rfl, hn⟩; refine LR.back (h1.got hn th_dep) ?_; clear hn h1) | (refine CallsTo.mono (show CallsTo Try.prog 18 [threeP.val (threeA b1 b2), .int .i64 3] w1 _ from m18 threeP (threeA b1 b2) 3 w1 (thR (h1.holds (both (thr1 b1) (thr2 b2)) memZ)) threeI) ?_; rintro v w2 ⟨a7, c7, rfl, hn⟩; rw [w_sides] at hn ⊢; refine LR.back (h1.newSl hn) ?_; clear hn h1) | (refine CallsTo.mono (show CallsTo Try.prog 20 [threeP.val (threeA b1 b2), .int .i64 1] w1 _ from m20 threeP (threeA b1 b2) 1 w1 (thR (h1.holds (both (thr1 b1) (thr2 b2)) memZ)) threeI) ?_; rintro v w2 ⟨a8, c8, rfl, hn⟩; rw [w_gws] at hn ⊢; refine LR.back (h1.newSl hn) ?_; clear hn h1) | (refine CallsTo.mono (show CallsTo Try.prog 24 [threeP.val (threeA b1 b2), .int .i64 0, .slice (some ⟨bk, 0, none⟩) 3 3] w1 _ from m24 threeP (threeA b1 b2) threeI 0 knownW (some ⟨bk, 0, none⟩) 3 w1 (thR (h1.holds (both (thr1 b1) (thr2 b2)) memZ)) (h1.rd_of_blk memZ) (by decide)) ?_; rintro v w2 ⟨a9, c9, rfl, hn⟩; rw [w_view0] at hn ⊢; refine LR.back (h1.newSl hn) ?_; clear hn h1) | (refine CallsTo.mono (show CallsTo Try.prog 24 [threeP.val (threeA b1 b2), .int .i64 2, .slice (some ⟨bk, 0, none⟩) 3 3] w1 _ from m24 threeP (threeA b1 b2) threeI 2 knownW (some ⟨bk, 0, none⟩) 3 w1 (thR (h1.holds (both (thr1 b1) (thr2 b2)) memZ)) (h1.rd_of_blk memZ) (by decide)) ?_; rintro v w2 ⟨a9, c9, rfl, hn⟩; rw [w_view2] at hn ⊢; refine LR.back (h1.newSl hn) ?_; clear hn h1) | (refine CallsTo.mono (show CallsTo Try.prog 27 [.slice none 0 0, (plcA 1 24).val] w1 _ from m27 sort_few [] none 0 (plcA 1 24) w1 (Rd.nil _ _) (fun _ => rfl) (by decide) (by decide) (by decide)) ?_; rintro v w2 ⟨a10, c10, rfl, hn⟩; rw [w_lrn] at hn ⊢; refine LR.back (h1.newSl hn) ?_; clear hn h1))))
    all_goals (refine At.stage_same (fun _ h => St.sub h subZ) ?_))
  all_goals (
    apply DW.quiet [41, 42, 43, 44]
    · decide +kernel
    · first | exact fun _ h => h | exact fun _ h => St.sub h subZ
    repeat'(first|(apply QL.evg; (iterate 3 exact rfl); (· apply Ev_hi; (· exact rfl); (· exact rfl); (· decide); (· decide)); (· exact rfl))|(apply QL.evg; (iterate 3 exact rfl); (· apply Ev_lo; (· exact rfl); (· exact rfl); (· decide); (· decide); (· decide)); (· exact rfl))|refine yv' ?_|refine uv' ?_|refine un' ?_|(refine us' ?_ ?_;all_goals(intro hc;try simp only[hcs]at hc;try(exfalso;first|contradiction|omega)))|apply QL.nil)
    all_goals (show DW _ _ _ _ _ _ _ _))
  all_goals (first | (apply DW.done_thn; (· decide +kernel)) | (apply DW.done; (· decide +kernel)))
  repeat'(first|refine kv' ?_|apply jJ|refine jE' ?_|refine jp' ?_|(apply jc;kernel_rfl)|refine kg' ?_|refine kG' ?_|refine kB' fun _=>?_|refine kA' fun _=>?_|refine kK' fun _=>?_|refine kU' ?_|((first|refine kR' ?_ ?_|refine kQ' ?_ ?_);all_goals(intro hc;try simp only[hcs]at hc;try(exfalso;first|contradiction|omega))))
  (apply ret1; (· exact rfl); intro w' hS)
  exact ⟨rfl, hS.toKeep⟩
end Go.Proofs.Ytgblmkpfkcibiaa

namespace Go.Proofs.Ytgblmkpfkcibiaa
open Go.Hb
attribute [local irreducible] LR CW At Ev thn blk finK noG again CallsTo DW QL dnext
set_option maxRecDepth 100000

end Go.Proofs.Ytgblmkpfkcibiaa

namespace Go.Proofs.Ytgblmkpfkcibiaa
open Go.Hb Go.ChangeShapes Go.WideShapes
attribute [local irreducible] LR CW At Ev thn blk finK noG again CallsTo DW QL dnext
set_option maxRecDepth 100000

theorem own_knob : ownKnob Try.prog.godebug = none := by kernel_rfl
theorem kids : Kids Try.prog (· < Try.prog.types.size) := kids_rows (by kernel_rfl) (by kernel_rfl)
theorem full_slices : ∀ t e, t < Try.prog.types.size → Try.prog.underlying t = some (.slice e) → 0 < Try.prog.cellsOf e := slices_full_of _ (by kernel_rfl)

def i64G : World → List Value → Prop := fun _ cs => ∃ n, cs = [.int .i64 n] ∧ i64 n
theorem opn_i64 : Opn Try.prog 3 i64G := (opn_int Try.underlying3).mono fun w cs ⟨n, h1, h2⟩ => ⟨n, h1, bounds_i64 h2⟩
theorem opn_ring : Opn Try.prog 42 (fun _ cs => ∃ s r, cs = [.int .i64 s, .int .i64 r] ∧ i64 s ∧ i64 r) := by
  refine (opn_struct Try.underlying42).mono fun w cs ⟨hl, h⟩ => ?_
  have hl : cs.length = 2 := hl
  match cs, hl with
  | [x, y], _ =>
    obtain ⟨a, ha, ha2⟩ := h 0 _ rfl _ opn_i64
    obtain ⟨b, hb, hb2⟩ := h 1 _ rfl _ opn_i64
    have ha : [x] = [Value.int .i64 a] := ha
    have hb : [y] = [Value.int .i64 b] := hb
    exact ⟨a, b, by rw [List.singleton_inj] at ha hb; rw [ha, hb], ha2, hb2⟩
theorem opn_plc : Opn Try.prog 44 (fun _ cs => ∃ p : Plc, cs = p.cells ∧ i64 p.ring ∧ i64 p.seq ∧ i64 p.rep ∧ i64 p.members) := by
  refine (opn_struct Try.underlying44).mono fun w cs ⟨hl, h⟩ => ?_
  have hl : cs.length = 4 := hl
  match cs, hl with
  | [x, y, z, u], _ =>
    obtain ⟨a, ha, ha2⟩ := h 0 _ rfl _ opn_i64
    obtain ⟨b, c, hb, hb2, hc2⟩ := h 1 _ rfl _ opn_ring
    obtain ⟨d, hd, hd2⟩ := h 2 _ rfl _ opn_i64
    have ha : [x] = [Value.int .i64 a] := ha
    have hb : [y, z] = [Value.int .i64 b, .int .i64 c] := hb
    have hd : [u] = [Value.int .i64 d] := hd
    simp only [List.cons.injEq, and_true] at ha hb hd
    exact ⟨⟨a, b, c, d⟩, by rw [ha, hb.1, hb.2, hd]; rfl, ha2, hb2, hc2, hd2⟩
theorem plcs_of : ∀ (css : List (List Value)), (∀ c ∈ css, ∃ p : Plc, c = p.cells ∧ i64 p.ring ∧ i64 p.seq ∧ i64 p.rep ∧ i64 p.members) → ∃ ps : List Plc, css.flatten = pcs ps ∧ ps.length = css.length ∧ plcsI ps
  | [], _ => ⟨[], rfl, rfl, fun p hp => by simp at hp⟩
  | c :: r, h => by
    obtain ⟨p, rfl, hp⟩ := h c List.mem_cons_self
    obtain ⟨ps, h1, h2, h3⟩ := plcs_of r fun c hc => h c (List.mem_cons_of_mem _ hc)
    refine ⟨p :: ps, by rw [List.flatten_cons, h1]; rfl, by simp [h2], fun q hq => ?_⟩
    rcases List.mem_cons.1 hq with rfl | hq
    · exact hp
    · exact h3 q hq
theorem opn_plcs : Opn Try.prog 37 (fun w cs => ∃ (a : Option Addr) (c : Nat) (ps : List Plc), cs = [.slice a ps.length c] ∧ Rd w a (pcs ps) ∧ plcsI ps ∧ (a = none → c = 0) ∧ ps.length ≤ c ∧ ps.length * 32 ≤ 140737488351232) := by
  refine (opn_slice Try.underlying37 (sz := 4) (by_ := 32) (by kernel_rfl) (by omega) (by kernel_rfl) opn_plc).mono ?_
  rintro w cs ⟨a, len, cap, css, rfl, rfl, hg, hr, hz, hc, hm⟩
  obtain ⟨ps, h1, h2, h3⟩ := plcs_of css fun c hc => (hg c hc).1
  rw [h1] at hr
  exact ⟨a, cap, ps, by rw [h2], hr, h3, hz, by omega, by rw [h2]; exact hm⟩
end Go.Proofs.Ytgblmkpfkcibiaa

namespace Go.Proofs.Ytgblmkpfkcibiaa
open Go.Hb
attribute [local irreducible] LR CW At Ev thn blk finK noG again CallsTo DW QL dnext
set_option maxRecDepth 100000

end Go.Proofs.Ytgblmkpfkcibiaa

namespace Go.Proofs.Ytgblmkpfkcibiaa
open Go.Hb
attribute [local irreducible] LR CW At Ev thn blk finK noG again CallsTo DW QL dnext
set_option maxRecDepth 100000

end Go.Proofs.Ytgblmkpfkcibiaa

namespace Go.Proofs.Ytgblmkpfkcibiaa
open Go.Hb Go.ChangeShapes Go.WideShapes
attribute [local irreducible] LR CW At Ev thn blk finK noG again CallsTo DW QL dnext
set_option maxRecDepth 100000

end Go.Proofs.Ytgblmkpfkcibiaa

namespace Go.Proofs.Ytgblmkpfkcibiaa
open Go.Hb
set_option maxRecDepth 100000

theorem ints_of : ∀ (css : List (List Value)), (∀ c ∈ css, ∃ n : Int, c = [.int .i64 n] ∧ i64 n) → ∃ l : List Int, css.flatten = iv l ∧ l.length = css.length ∧ ∀ x ∈ l, i64 x
  | [], _ => ⟨[], rfl, rfl, fun p hp => by simp at hp⟩
  | c :: r, h => by
    obtain ⟨n, rfl, hp⟩ := h c List.mem_cons_self
    obtain ⟨l, h1, h2, h3⟩ := ints_of r fun c hc => h c (List.mem_cons_of_mem _ hc)
    refine ⟨n :: l, by rw [List.flatten_cons, h1]; rfl, by simp [h2], fun q hq => ?_⟩
    rcases List.mem_cons.1 hq with rfl | hq
    · exact hp
    · exact h3 q hq
theorem opn_ints : Opn Try.prog 22 (fun w cs => ∃ (a : Option Addr) (c : Nat) (l : List Int), cs = [.slice a l.length c] ∧ Rd w a (iv l) ∧ (∀ x ∈ l, i64 x) ∧ (a = none → c = 0) ∧ l.length ≤ c ∧ l.length ≤ 17592186043904) := by
  refine (opn_slice Try.underlying22 (sz := 1) (by_ := 8) (by kernel_rfl) (by omega) (by kernel_rfl) opn_i64).mono ?_
  rintro w cs ⟨a, len, cap, css, rfl, rfl, hg, hr, hz, hc, hm⟩
  obtain ⟨l, h1, h2, h3⟩ := ints_of css fun c hc => (hg c hc).1
  rw [h1] at hr
  have hm : css.length * 8 ≤ 140737488351232 := hm
  exact ⟨a, cap, l, by rw [h2], hr, h3, hz, by omega, by omega⟩
structure Vst where
  node : Int
  aru : Int
  gaps : List Int
def Vst.cells (v : Vst) (a : Option Addr) (c : Nat) : List Value := [.int .i64 v.node, .int .i64 v.aru, .slice a v.gaps.length c]
def Vst.val (v : Vst) (a : Option Addr) (c : Nat) : Value := .agg (v.cells a c).toArray
end Go.Proofs.Ytgblmkpfkcibiaa

namespace Go.Proofs.Ytgblmkpfkcibiaa
open Go.Hb Go.ChangeShapes Go.WideShapes
attribute [local irreducible] LR CW At Ev thn blk finK noG again CallsTo DW QL dnext TW DP gpost
set_option maxRecDepth 100000

theorem opn_gat : Opn Try.prog 34 (fun _ cs => ∃ g : Gat, cs = Gat.cells g) := by
  refine (opn_struct Try.underlying34).mono fun w cs ⟨hl, h⟩ => ?_
  have hl : cs.length = 3 := hl
  match cs, hl with
  | [y0, y1, y2], _ =>
    obtain ⟨x0, h0, _⟩ := h 0 _ rfl _ opn_i64
    obtain ⟨x1, h1, _⟩ := h 1 _ rfl _ opn_i64
    obtain ⟨x2, h2, _⟩ := h 2 _ rfl _ opn_i64
    have h0 : [y0] = [Value.int .i64 x0] := h0
    have h1 : [y1] = [Value.int .i64 x1] := h1
    have h2 : [y2] = [Value.int .i64 x2] := h2
    simp only [List.cons.injEq, and_true] at h0 h1 h2
    exact ⟨⟨x0, x1, x2⟩, by rw [h0, h1, h2]; rfl⟩
theorem opn_gats : Opn Try.prog 23 (fun w cs => ∃ (a : Option Addr) (c : Nat) (l : List Gat), cs = [.slice a l.length c] ∧ Rd w a (gv l) ∧ (a = none → c = 0) ∧ l.length * 24 ≤ 140737488351232) := by
  refine (opn_slice Try.underlying23 (sz := 3) (by_ := 24) (by kernel_rfl) (by omega) (by kernel_rfl) opn_gat).mono ?_
  rintro w cs ⟨a, len, cap, css, rfl, rfl, hg, hr, hz, hc, hm⟩
  obtain ⟨l, h1, h2, _⟩ := Go.Hb.rows_of (f := Gat.cells) (R := fun _ => True) css fun c hc => (by obtain ⟨e, he⟩ := (hg c hc).1; exact ⟨e, he, trivial⟩)
  rw [h1] at hr
  have hm : css.length * 24 ≤ 140737488351232 := hm
  exact ⟨a, cap, l, by rw [h2], hr, hz, by omega⟩
theorem opn_plan : Opn Try.prog 25 (fun w cs => ∃ (p : Pln) (A : PlA), cs = p.cells A ∧ PlR w p A ∧ PlI p ∧ (A.ra = none → A.rc = 0) ∧ (A.ga = none → A.gc = 0)) := by
  refine (opn_struct Try.underlying25).mono fun w cs ⟨hl, h⟩ => ?_
  have hl : cs.length = 2 := hl
  match cs, hl with
  | [y0, y1], hl =>
    obtain ⟨ra, rc, R, h0, hr0, hb, hz0, hc0, hm0⟩ := h 0 _ rfl _ opn_ints
    obtain ⟨ga, gc, G, h1, hr1, hz1, hm1⟩ := h 1 _ rfl _ opn_gats
    have h0 : [y0] = [Value.slice ra R.length rc] := h0
    have h1 : [y1] = [Value.slice ga G.length gc] := h1
    simp only [List.cons.injEq, and_true] at h0 h1
    exact ⟨⟨R, G⟩, ⟨ra, rc, ga, gc⟩, by rw [h0, h1]; rfl, ⟨hr0, hr1⟩, ⟨hb, by show R.length * 8 ≤ _; omega, hm1⟩, hz0, hz1⟩
section
variable {P : Program} {C : World → Prop} {f : Frm} {T T' T'' : TypeId} {x y : Operand}
end
end Go.Proofs.Ytgblmkpfkcibiaa

namespace Go.Proofs.Ytgblmkpfkcibiaa
open Go.Hb
attribute [local irreducible] LR CW At Ev thn blk finK noG again CallsTo DW QL dnext TW DP gpost
set_option maxRecDepth 100000

theorem ringG_iff {R : List Int} {fr : Int} : ringG R fr = true ↔ 0 ≤ fr ∧ fr < R.length := by
  unfold ringG
  rw [decide_eq_true_eq]
theorem viewP_len (p : List Int × List Gat) (fr : Int) (K : List Plc) : (viewP p fr K).length ≤ p.1.length := by
  cases hc : (chkP p.1 p.2 && ringG p.1 fr) with
  | false => unfold viewP; rw [hc, if_neg (by simp)]; simp
  | true =>
    cases hk : plcK K fr with
    | none => unfold viewP; rw [hc, if_pos rfl, hk]; simp
    | some x =>
      have h := (view_is (p := p) hk).len (ringG_iff.1 (by rw [Bool.and_eq_true] at hc; exact hc.2))
      unfold viewP; rw [hc, if_pos rfl, hk]
      exact h
theorem x25 (a b : Option Addr) (ca cb : Nat) (l : List Plc) (w : World) (ha : Rd w a (pcs l)) (hb : Rd w b (pcs l)) (hm : l.length ≤ 17592186043904) :
    CallsTo Try.prog 25 [.slice a l.length ca, .slice b l.length cb] w fun v w' => v = .bool true ∧ Grew w w' := by
  have h := m25 a b ca cb l l w ha hb hm
  rw [decide_eq_true rfl] at h
  exact h
set_option maxHeartbeats 4000000 in
theorem m4 (p : Pln) (A : PlA) (fr : Int) (a : Option Addr) (c : Nat) (K : List Plc) (w : World) (hr : PlR w p A) (hi : PlI p) (hk : Rd w a (pcs K)) (hz : a = none → c = 0) (hm : K.length * 32 ≤ 140737488351232) :
    CallsTo Try.prog 4 [p.val A, .int .i64 fr, .slice a K.length c] w fun v w' => v = .bool true ∧ Grew w w' := by
  refine go_in (n := 58) ((pl_in hr).addRd hk (fun _ _ h => h)) Try.func4 rfl rfl ?_
  have hrl := hi.rl
  have hgl := hi.gl
  rw [show p.val A = .agg [.slice A.ra p.R.length A.rc, .slice A.ga p.G.length A.gc].toArray from rfl]
  obtain ⟨V, hV, hVl⟩ : ∃ V : Int → List Plc, (∀ k, viewP (p.R, p.G) k K = V k) ∧ ∀ k, (V k).length ≤ 17592186043904 := ⟨_, fun _ => rfl, fun k => by have := viewP_len (p.R, p.G) k K; show _ ≤ _; simp only at this; omega⟩
  have hVR : ∀ k, viewR (p.R, p.G) k K = V k := fun k => by rw [← view_same, hV]
  by_cases h200 : 200 < K.length
  · repeat'(first|refine kv' ?_|apply jJ|refine jE' ?_|refine jp' ?_|(apply jc;kernel_rfl)|refine kg' ?_|refine kG' ?_|refine kB' fun _=>?_|refine kA' fun _=>?_|refine kK' fun _=>?_|refine kU' ?_|(apply kq; (· exact rfl); (· intro w1 h1; exact CallsTo.q (m22 w1) h1))|((first|refine kR' ?_ ?_|refine kQ' ?_ ?_);all_goals(intro hc;try simp only[hcs]at hc;try(exfalso;first|contradiction|omega))))
    (apply ret1; (· exact rfl); intro w' hS)
    exact ⟨rfl, hS.toKeep⟩
  repeat'(first|(refine kB' fun b3 => ?_)|refine kv' ?_|apply jJ|refine jE' ?_|refine jp' ?_|(apply jc;kernel_rfl)|refine kg' ?_|refine kG' ?_|refine kB' fun _=>?_|refine kA' fun _=>?_|refine kK' fun _=>?_|refine kU' ?_|(apply LR.call; (· exact rfl); (intro w1 h1; refine (m23 a c K w1 (h1.rd_of memZ) hz (by omega)).mono ?_; rintro v w2 ⟨a1, c1, rfl, hn⟩; refine LR.back (h1.newSl hn) ?_; clear hn h1))|((first|refine kR' ?_ ?_|refine kQ' ?_ ?_);all_goals(intro hc;try simp only[hcs]at hc;try(exfalso;first|contradiction|omega))))
  apply CW.loop [6, 8, 9, 10, 11, 18, 19, 20, 21, 22, 23, 24, 25, 26, 27, 28, 29, 30, 31, 32, 33, 34, 35, 36, 37, 38, 39, 40, 41, 42, 43, 44, 45, 46, 47, 48, 49, 50, 51, 52, 53, 54, 55, 56] (fun i : Nat => i ≤ 7) (fun i : Nat => [(8, Value.int .i64 ((i : Int) - 1))])
    (fun _ => St w NoF [pN a1 K.length c1 K, .own b3 (.cells [Value.slice A.ra p.R.length A.rc, .slice A.ga p.G.length A.gc].toArray 25 (0, 0)), rdA a (pcs K), rdA A.ga (gv p.G), rdA A.ra (iv p.R)]) (fun i => 7 - i)
  · exact fun w' hw' => ⟨0, Nat.zero_le _, ⟨rfl, trivial⟩, hw'⟩
  intro i g hi7
  by_cases hlt : i < 7
  rotate_left
  · have hie : i = 7 := by omega
    subst hie
    repeat'(first|refine kv' ?_|apply jJ|refine jE' ?_|refine jp' ?_|(apply jc;kernel_rfl)|refine kg' ?_|refine kG' ?_|refine kB' fun _=>?_|refine kA' fun _=>?_|refine kK' fun _=>?_|refine kU' ?_|(apply kq; (· exact rfl); (· intro w1 h1; exact CallsTo.q (m22 w1) h1))|((first|refine kR' ?_ ?_|refine kQ' ?_ ?_);all_goals(intro hc;try simp only[hcs]at hc;try(exfalso;first|contradiction|omega))))
    (apply ret1; (· exact rfl); intro w' hS)
    exact ⟨rfl, hS.toKeep⟩
  repeat'(first|refine kv' ?_|apply jJ|refine jE' ?_|refine jp' ?_|(apply jc;kernel_rfl)|refine kg' ?_|refine kG' ?_|refine kB' fun _=>?_|refine kA' fun _=>?_|refine kK' fun _=>?_|refine kU' ?_|(apply kq; (· exact rfl); (· intro w1 h1; first | exact CallsTo.q (show CallsTo Try.prog 25 [.slice a7 L.length c7, .slice a8 L.length c8] w1 _ from x25 a7 a8 c7 c8 L w1 (h1.rd_of_own memZ) (h1.rd_of_own memZ) (by rw [← hVL]; exact hVl _)) h1 | exact CallsTo.q (show CallsTo Try.prog 25 [.slice a1 K.length c1, .slice a K.length c] w1 _ from x25 a1 a c1 c K w1 (h1.rd_of_own memZ) (h1.rd_of memZ) (by omega)) h1))|(apply LR.call; (· exact rfl); (intro w1 h1; first | (refine CallsTo.mono (show CallsTo Try.prog 24 [p.val A, .int .i64 _, .slice a1 K.length c1] w1 _ from m24 p A hi _ K a1 c1 w1 ⟨h1.rd_of memZ, h1.rd_of memZ⟩ (h1.rd_of_own memZ) hm) ?_; rintro v w2 ⟨a7, c7, rfl, hn⟩; rw [hV] at hn ⊢; generalize hVL : V _ = L at hn ⊢; refine LR.back (h1.newSl hn) ?_; clear hn h1) | (refine CallsTo.mono (show CallsTo Try.prog 26 [p.val A, .int .i64 _, .slice a K.length c] w1 _ from m26 p A hi _ K a c w1 ⟨h1.rd_of memZ, h1.rd_of memZ⟩ (h1.rd_of memZ) hm) ?_; rintro v w2 ⟨a8, c8, rfl, hn⟩; rw [hVR, hVL] at hn ⊢; refine LR.back (h1.newSl hn) ?_; clear hn h1)))|((first|refine kR' ?_ ?_|refine kQ' ?_ ?_);all_goals(intro hc;try simp only[hcs]at hc;try(exfalso;first|contradiction|omega))))
  all_goals (
    have hLl : L.length ≤ 17592186043904 := by rw [← hVL]; exact hVl _
    have hpl := pcs_length L
    apply CW.loop [11, 43, 44, 45, 46, 47, 48, 49, 50, 51, 52] (fun s : Nat × List Value => s.1 ≤ L.length ∧ s.2.length = L.length * 4) (fun s : Nat × List Value => [(11, Value.int .i64 (s.1 : Int))])
      (fun s => St w NoF [osl (.slice a7 L.length c7) 44 4 L.length s.2, pN a1 K.length c1 K, .own b3 (.cells [Value.slice A.ra p.R.length A.rc, .slice A.ga p.G.length A.gc].toArray 25 (0, 0)), rdA a (pcs K), rdA A.ga (gv p.G), rdA A.ra (iv p.R)]) (fun s => L.length - s.1)
    · exact fun w' hw' => ⟨(0, pcs L), ⟨Nat.zero_le _, hpl⟩, ⟨rfl, trivial⟩, hw'.sub subZ⟩
    rintro ⟨j, xs⟩ g ⟨hjl, hxs⟩
    simp only at hjl hxs ⊢
    by_cases hjt : j < L.length
    · have hne : xs ≠ [] := fun e => by rw [e] at hxs; simp at hxs; omega
      refine CW_fact (φ := ∃ b o, a7 = some ⟨b, o, none⟩) (fun w' hw' => (ownsRow_rd hw'.g0).form hne) fun hf => ?_
      obtain ⟨b7, o7, rfl⟩ := hf
      repeat'(first|refine kv' ?_|apply jJ|refine jE' ?_|refine jp' ?_|(apply jc;kernel_rfl)|refine kg' ?_|refine kG' ?_|refine kB' fun _=>?_|refine kA' fun _=>?_|refine kK' fun _=>?_|refine kU' ?_|(apply idxX;(iterate 2 exact rfl);(iterate 2(first|omega|(dsimp only;omega)));exact rfl)|(apply addX;(iterate 2 exact rfl);(iterate 2(first|omega|(dsimp only;omega)));exact rfl)|((first|refine kR' ?_ ?_|refine kQ' ?_ ?_);all_goals(intro hc;try simp only[hcs]at hc;try(exfalso;first|contradiction|omega))))
      refine LR.store_obj (v := .int .i64 99) (z' := osl (.slice (some ⟨b7, o7, none⟩) L.length c7) 44 4 L.length (splice xs ((j : Int).toNat * 4) [.int .i64 99])) rfl rfl (sH _ _ _) rfl ?_ (osl.dep _ _ _ _ _) ?_
      · exact Stores.osl (P := Try.prog) (T := 3) (q := 1) (b := b7) (o := o7) (i := (j : Int).toNat * 4) (n := L.length) (c := c7) (v := .int .i64 99) (vs := [.int .i64 99]) (xs := xs) (E := 44) (sz := 4) inferInstance rfl rfl rfl (by simp; omega)
      repeat'(first|refine kv' ?_|apply jJ|refine jE' ?_|refine jp' ?_|(apply jc;kernel_rfl)|refine kg' ?_|refine kG' ?_|refine kB' fun _=>?_|refine kA' fun _=>?_|refine kK' fun _=>?_|refine kU' ?_|(apply addX;(iterate 2 exact rfl);(iterate 2(first|omega|(dsimp only;omega)));exact rfl)|((first|refine kR' ?_ ?_|refine kQ' ?_ ?_);all_goals(intro hc;try simp only[hcs]at hc;try(exfalso;first|contradiction|omega))))
      apply At.again (j + 1, splice xs ((j : Int).toNat * 4) [.int .i64 99]) ⟨by show j + 1 ≤ _; omega, by simp [splice, hxs]; omega⟩
      · (repeat (first | exact Out.refl _ _ | exact Out.mix | (apply Out.upd; (· exact rfl)) | (apply Out.updL; (· exact rfl)) | (apply Out.mixs; (· exact rfl))))
      · exact ⟨rfl, trivial⟩
      · exact fun w' hw' => hw'
      · show L.length - (j + 1) < L.length - j; omega
    · have hje : j = L.length := by omega
      subst hje
      repeat'(first|refine kv' ?_|apply jJ|refine jE' ?_|refine jp' ?_|(apply jc;kernel_rfl)|refine kg' ?_|refine kG' ?_|refine kB' fun _=>?_|refine kA' fun _=>?_|refine kK' fun _=>?_|refine kU' ?_|(apply addX;(iterate 2 exact rfl);(iterate 2(first|omega|(dsimp only;omega)));exact rfl)|(apply kq; (· exact rfl); (· intro w1 h1; exact CallsTo.q (show CallsTo Try.prog 25 [.slice a1 K.length c1, .slice a K.length c] w1 _ from x25 a1 a c1 c K w1 (h1.rd_of_own memZ) (h1.rd_of memZ) (by omega)) h1))|((first|refine kR' ?_ ?_|refine kQ' ?_ ?_);all_goals(intro hc;try simp only[hcs]at hc;try(exfalso;first|contradiction|omega))))
      refine At.again (i + 1) (by omega) ?_ ⟨?_, trivial⟩ (fun w' hw' => hw'.sub subZ) (by omega)
      · (repeat (first | exact Out.refl _ _ | exact Out.mix | (apply Out.upd; (· exact rfl)) | (apply Out.updL; (· exact rfl)) | (apply Out.mixs; (· exact rfl))))
      · exact congrArg (Value.int .i64) (by omega)
      )
end Go.Proofs.Ytgblmkpfkcibiaa

namespace Go.Proofs.Ytgblmkpfkcibiaa
open Go.Hb Go.ChangeShapes Go.WideShapes
attribute [local irreducible] LR CW At Ev thn blk finK noG again CallsTo DW QL dnext

set_option maxHeartbeats 1000000 in
set_option maxRecDepth 100000 in
theorem chartViews_lifted (os : Os) (started : os.Started) (H : Type) (enc : TypeId × Value → H) :
    ReturnsInHanded {} Try.checked os 4 .any (Rows.chartViewsSpec.pre6 enc Try.prog Try.f4 Rows.chartViewsRow.domain false) (Rows.chartViewsSpec.post enc Try.prog Try.f4 false true false false) := by
  refine returnsInHanded_of_change_sized (C := Try.checked) (s := Rows.chartViewsSpec) own_knob started (by kernel_rfl) Try.func4
    (ChangeSpec.witness6 (enc := enc) (C := Try.checked) false ⟨#[], #[.agg #[.slice none 0 0, .slice none 0 0], .int .i64 0, .slice none 0 0], []⟩ 12 (by kernel_rfl) (by kernel_rfl) (by kernel_rfl) (by kernel_rfl)) ?_
  intro W base args ds gs before hval hW hcnd hwt _
  have hW' := hW
  obtain ⟨p, q, hA0, hV, rfl, hfz, hnd⟩ := hW'
  obtain ⟨rfl, rfl⟩ := trodVars_none hV
  have hA : DataW.TrodAll enc Try.prog W 0 (fun _ => true) true Try.f4.params.toList args.toList ds p := hA0
  rw [Try.params4] at hA
  obtain ⟨v0, vs0, d0, ds0, p0, q0, hargs, rfl, rfl, h0, r0⟩ := trodAll_cons hA
  obtain ⟨v1, vs1, d1, ds1, p1, q1, rfl, rfl, rfl, h1, r1⟩ := trodAll_cons r0
  obtain ⟨v2, vs2, d2, ds2, p2, q2, rfl, rfl, rfl, h2, r2⟩ := trodAll_cons r1
  obtain ⟨rfl, rfl, rfl⟩ := trodAll_nil r2
  obtain rfl : args = #[v0, v1, v2] := by cases args; simp_all
  obtain ⟨p0, A0, hcs0, hr0, hi0, hzr0, hzg0⟩ := opn_arg (i := 0) opn_plan h0 hwt rfl rfl
  obtain ⟨cs0, rfl, _⟩ := okWide_struct Try.underlying25 (hval 0 25 v0 rfl rfl)
  obtain rfl : cs0 = (Pln.cells p0 A0).toArray := Array.toList_inj.1 hcs0
  obtain ⟨x1, hcs1, hb1⟩ := opn_arg (i := 1) opn_i64 h1 hwt rfl rfl
  obtain ⟨y1, rfl⟩ := okWide_int Try.underlying3 (hval 1 3 v1 rfl rfl)
  have hcs1 : [Value.int .i64 y1] = [.int .i64 x1] := hcs1
  simp only [List.cons.injEq, Value.int.injEq, true_and, and_true] at hcs1
  have hcs1 := hcs1.symm
  subst hcs1
  obtain ⟨a2, c2, l2, hcs2, hr2, hb2, hz2, hc2, hm2⟩ := opn_arg (i := 2) opn_plcs h2 hwt rfl rfl
  obtain ⟨b2, n2, e2, rfl⟩ := okWide_slice Try.underlying37 (hval 2 37 v2 rfl rfl)
  have hcs2 : [Value.slice b2 n2 e2] = [.slice a2 l2.length c2] := hcs2
  simp only [List.cons.injEq, Value.slice.injEq, and_true] at hcs2
  obtain ⟨e12, e22, e32⟩ := hcs2
  have e12 := e12.symm
  have e32 := e32.symm
  subst e12; subst e22; subst e32
  refine (m4 p0 A0 x1 a2 c2 l2 W hr0 hi0 hr2 hz2 hm2).calls fun v W' ⟨hv, hg⟩ => ⟨v, rfl, ?_⟩
  subst hv
  exact law_post kids full_slices hW hg rfl rfl (by kernel_rfl) Try.underlying4 (by rw [Try.params4]; decide +kernel)

theorem chartViews_holds : Rows.ChartViewsSaid :=
  OpenClaim.holds_of_wide 4 Try.f4 rfl rfl rfl rfl rfl rfl rfl ⟨rfl, rfl, rfl, rfl, rfl⟩ rfl rfl rfl rfl rfl (by kernel_rfl) Try.func4 (by kernel_rfl)
    (of_decide_eq_true (by kernel_rfl)) (by unfold Func.isWrapper; first | (rw [if_pos (by decide +kernel)]; kernel_rfl) | (rw [if_neg (by decide +kernel)]; exact ⟨rfl, rfl⟩))
    (fun os started H enc _ => chartViews_lifted os started H enc)
end Go.Proofs.Ytgblmkpfkcibiaa
