/-
  Least and greatest of two numbers; maps compared with nil; slices of one's own cut short. Conditions: none; nothing here speaks of one program.
-/
import Derived.Test.YtphcnaafhcfakaaRGNM2
import Derived.DeepKeys5
import Derived.WideKeyRuns
import Derived.Deep.AppendSrc

set_option linter.unusedSimpArgs false
set_option linter.unusedVariables false
namespace Go.Proofs.Ytphcnaafhcfakaa
open Go.Hb
attribute [local irreducible] LR CW At Ev thn blk finK noG again CallsTo DW QL dnext TW
set_option maxRecDepth 100000

def zeroK : Ky := ⟨0, 0, 0, 0⟩
structure Gt where
  node : Int
  p : Ky
  w : Ky
  a : Ky
def Gt.cells (g : Gt) : List Value := [.int .i64 g.node, .int .i64 g.p.t, .int .i64 g.p.s, .int .i64 g.p.r, .int .i64 g.p.q, .int .i64 g.w.t, .int .i64 g.w.s, .int .i64 g.w.r, .int .i64 g.w.q, .int .i64 g.a.t, .int .i64 g.a.s, .int .i64 g.a.r, .int .i64 g.a.q]
abbrev gO (T b : Nat) (g : Gt) : Asrt := .own b (.cells g.cells.toArray T (0, 0))
theorem gO_in {T b : Nat} {g : Gt} {w : World} (h : w.heap[b]? = some (.cells g.cells.toArray T (0, 0))) : St w (gO T b g).foot [gO T b g] w :=
  St.one (a := gO T b g) h (fun k hk => by have hk : k = b := hk; subst hk; exact (Array.getElem?_eq_some_iff.1 h).1) (Asrt.dep_own _ _)

theorem g53 (b : Nat) (g : Gt) (w : World) (h : Rd w (some ⟨b, 0, none⟩) g.cells) : CallsTo Try.prog 53 [.pointer (some ⟨b, 0, none⟩)] w fun v w' => v = .bool (decide (g.node = 0)) ∧ Grew w w' := by
  refine go_in (n := 12) (St.rd1 h) Try.func53 rfl rfl ?_
  repeat'(first|refine kv' ?_|apply jJ|refine jE' ?_|refine jp' ?_|(apply jc;kernel_rfl)|refine kg' ?_|refine kG' ?_|refine kB' fun _=>?_|refine kA' fun _=>?_|refine kK' fun _=>?_|refine kU' ?_|((first|refine kR' ?_ ?_|refine kQ' ?_ ?_);all_goals(intro hc;try simp only[hcs]at hc;try(exfalso;first|contradiction|omega))))
  (apply ret1; (· exact rfl); intro w' hS)
  exact ⟨rfl, hS.toKeep⟩
theorem g53n (w : World) : CallsTo Try.prog 53 [.pointer none] w fun v w' => v = .bool true ∧ Grew w w' := by
  refine go_in (n := 12) (St.refl _ NoF) Try.func53 rfl rfl ?_
  repeat'(first|refine kv' ?_|apply jJ|refine jE' ?_|refine jp' ?_|(apply jc;kernel_rfl)|refine kg' ?_|refine kG' ?_|refine kB' fun _=>?_|refine kA' fun _=>?_|refine kK' fun _=>?_|refine kU' ?_|((first|refine kR' ?_ ?_|refine kQ' ?_ ?_);all_goals(intro hc;try simp only[hcs]at hc;try(exfalso;first|contradiction|omega))))
  (apply ret1; (· exact rfl); intro w' hS)
  exact ⟨rfl, hS.toKeep⟩
def owesB (g : Gt) : Bool := decide (g.node ≠ 0) && aboveB g.w g.p
theorem g56 (b : Nat) (g : Gt) (w : World) (h : Rd w (some ⟨b, 0, none⟩) g.cells) : CallsTo Try.prog 56 [.pointer (some ⟨b, 0, none⟩)] w fun v w' => v = .bool (owesB g) ∧ Grew w w' := by
  refine go_in (n := 17) (St.rd1 h) Try.func56 rfl rfl ?_
  repeat'(first|(apply CW.reg_heldC)|refine kv' ?_|apply jJ|refine jE' ?_|refine jp' ?_|(apply jc;kernel_rfl)|refine kg' ?_|refine kG' ?_|refine kB' fun _=>?_|refine kA' fun _=>?_|refine kK' fun _=>?_|refine kU' ?_|((first|refine kR' ?_ ?_|refine kQ' ?_ ?_);all_goals(intro hc;try simp only[hcs]at hc;try(exfalso;first|contradiction|omega))))
  all_goals (
    apply DW.quiet [0]
    · decide +kernel
    · first | exact fun _ h => h | exact fun _ h => St.sub h subZ
    repeat'(first|refine yv' ?_|refine uv' ?_|refine un' ?_|(refine us' ?_ ?_;all_goals(intro hc;try simp only[hcs]at hc;try(exfalso;first|contradiction|omega)))|apply QL.nil)
    all_goals (show DW _ _ _ _ _ _ _ _))
  all_goals (
    apply DW.loud 1
    · exact rfl
    · decide +kernel
    repeat'(first|refine kg' ?_|refine kG' ?_|apply kM|refine kv' ?_|refine kK' fun _=>?_|refine kU' ?_|refine kB' fun _=>?_|refine kA' fun _=>?_|(apply kq; (· exact rfl); (· intro w1 h1; exact CallsTo.q (g53 b g w1 (h1.rd_of memZ)) h1))|(apply kq; (· exact rfl); (· intro w1 h1; exact CallsTo.q (g54 g.w g.p w1) h1)))
    all_goals (refine At.stage_same (fun _ h => St.sub h subZ) ?_))
  all_goals (
    apply DW.quiet [2, 3, 4, 5, 6, 7, 8, 9, 10, 11]
    · decide +kernel
    · first | exact fun _ h => h | exact fun _ h => St.sub h subZ
    repeat'(first|refine yv' ?_|refine uv' ?_|refine un' ?_|(refine us' ?_ ?_;all_goals(intro hc;try simp only[hcs]at hc;try(exfalso;first|contradiction|omega)))|apply QL.nil)
    all_goals (show DW _ _ _ _ _ _ _ _))
  all_goals (
    apply DW.loud 12
    · exact rfl
    · decide +kernel
    repeat'(first|refine kg' ?_|refine kG' ?_|apply kM|refine kv' ?_|refine kK' fun _=>?_|refine kU' ?_|refine kB' fun _=>?_|refine kA' fun _=>?_|(apply kq; (· exact rfl); (· intro w1 h1; exact CallsTo.q (g53 b g w1 (h1.rd_of memZ)) h1))|(apply kq; (· exact rfl); (· intro w1 h1; exact CallsTo.q (g54 g.w g.p w1) h1)))
    all_goals (refine At.stage_same (fun _ h => St.sub h subZ) ?_))
  all_goals (
    apply DW.quiet [13, 14]
    · decide +kernel
    · first | exact fun _ h => h | exact fun _ h => St.sub h subZ
    repeat'(first|refine yv' ?_|refine uv' ?_|refine un' ?_|(refine us' ?_ ?_;all_goals(intro hc;try simp only[hcs]at hc;try(exfalso;first|contradiction|omega)))|apply QL.nil)
    all_goals (show DW _ _ _ _ _ _ _ _))
  all_goals (first | (apply DW.done_thn; (· decide +kernel)) | (apply DW.done; (· decide +kernel)))
  repeat'(first|refine kv' ?_|apply jJ|refine jE' ?_|refine jp' ?_|(apply jc;kernel_rfl)|refine kg' ?_|refine kG' ?_|refine kB' fun _=>?_|refine kA' fun _=>?_|refine kK' fun _=>?_|refine kU' ?_|((first|refine kR' ?_ ?_|refine kQ' ?_ ?_);all_goals(intro hc;try simp only[hcs]at hc;try(exfalso;first|contradiction|omega))))
  all_goals (
    (apply ret1; (· exact rfl); intro w' hS)
    refine ⟨congrArg Value.bool ?_, hS.toKeep⟩
    simp_all [owesB])
def newG (node : Int) : Gt := ⟨node, zeroK, zeroK, zeroK⟩
theorem g31 (node : Int) (w : World) (h : 1 ≤ node ∧ node ≤ 8) : CallsTo Try.prog 31 [.int .i64 node] w fun v w' => ∃ b, v = .tuple [.pointer (some ⟨b, 0, none⟩), .int .i64 0].toArray ∧ New1 (gO 95 b (newG node)) w w' := by
  refine go_in (n := 13) (St.refl _ NoF) Try.func31 rfl rfl ?_
  repeat'(first|refine kv' ?_|apply jJ|refine jE' ?_|refine jp' ?_|(apply jc;kernel_rfl)|refine kg' ?_|refine kG' ?_|refine kB' fun _=>?_|refine kA' fun _=>?_|refine kK' fun _=>?_|refine kU' ?_|((first|refine kR' ?_ ?_|refine kQ' ?_ ?_);all_goals(intro hc;try simp only[hcs]at hc;try(exfalso;first|contradiction|omega))))
  (apply ret2; (· exact rfl); intro w' hS)
  exact ⟨_, rfl, St.new1 hS rfl⟩
theorem g31n (node : Int) (w : World) (h : ¬ (1 ≤ node ∧ node ≤ 8)) : CallsTo Try.prog 31 [.int .i64 node] w fun v w' => v = .tuple [.pointer none, .int .i64 2].toArray ∧ Grew w w' := by
  refine go_in (n := 13) (St.refl _ NoF) Try.func31 rfl rfl ?_
  repeat'(first|refine kv' ?_|apply jJ|refine jE' ?_|refine jp' ?_|(apply jc;kernel_rfl)|refine kg' ?_|refine kG' ?_|refine kB' fun _=>?_|refine kA' fun _=>?_|refine kK' fun _=>?_|refine kU' ?_|((first|refine kR' ?_ ?_|refine kQ' ?_ ?_);all_goals(intro hc;try simp only[hcs]at hc;try(exfalso;first|contradiction|omega))))
  all_goals (
    (apply ret2; (· exact rfl); intro w' hS)
    exact ⟨rfl, hS⟩)
def wantS (g : Gt) (k : Ky) : Gt := if aboveB k g.w = true then { g with w := k } else g
theorem g34 (b : Nat) (g : Gt) (k : Ky) (w : World) (h : w.heap[b]? = some (.cells g.cells.toArray 95 (0, 0))) (hn : g.node ≠ 0) : CallsTo Try.prog 34 [.pointer (some ⟨b, 0, none⟩), k.val] w fun v w' => Step (gO 95 b g) (gO 95 b (wantS g k)) w w' := by
  refine go_in (n := 19) (gO_in h) Try.func34 rfl rfl ?_
  repeat'(first|(apply CW.reg_heldC)|refine kv' ?_|apply jJ|refine jE' ?_|refine jp' ?_|(apply jc;kernel_rfl)|refine kg' ?_|refine kG' ?_|refine kB' fun _=>?_|refine kA' fun _=>?_|refine kK' fun _=>?_|refine kU' ?_|((first|refine kR' ?_ ?_|refine kQ' ?_ ?_);all_goals(intro hc;try simp only[hcs]at hc;try(exfalso;first|contradiction|omega))))
  all_goals (
    apply DW.quiet [0]
    · decide +kernel
    · first | exact fun _ h => h | exact fun _ h => St.sub h subZ
    repeat'(first|refine yv' ?_|refine uv' ?_|refine un' ?_|(refine us' ?_ ?_;all_goals(intro hc;try simp only[hcs]at hc;try(exfalso;first|contradiction|omega)))|apply QL.nil)
    all_goals (show DW _ _ _ _ _ _ _ _))
  all_goals (
    apply DW.loud 1
    · exact rfl
    · decide +kernel
    repeat'(first|refine kg' ?_|refine kG' ?_|apply kM|refine kv' ?_|refine kK' fun _=>?_|refine kU' ?_|refine kB' fun _=>?_|refine kA' fun _=>?_|(apply kq; (· exact rfl); (· intro w1 h1; exact CallsTo.q (g53 b g w1 (h1.rd_of_blk memZ)) h1))|(apply kq; (· exact rfl); (· intro w1 h1; exact CallsTo.q (g54 k g.w w1) h1)))
    all_goals (refine At.stage_same (fun _ h => St.sub h subZ) ?_))
  all_goals (
    apply DW.quiet [2, 3, 4, 5, 6, 7, 8]
    · decide +kernel
    · first | exact fun _ h => h | exact fun _ h => St.sub h subZ
    repeat'(first|refine yv' ?_|refine uv' ?_|refine un' ?_|(refine us' ?_ ?_;all_goals(intro hc;try simp only[hcs]at hc;try(exfalso;first|contradiction|omega)))|apply QL.nil)
    all_goals (show DW _ _ _ _ _ _ _ _))
  all_goals (
    apply DW.loud 9
    · exact rfl
    · decide +kernel
    repeat'(first|refine kg' ?_|refine kG' ?_|apply kM|refine kv' ?_|refine kK' fun _=>?_|refine kU' ?_|refine kB' fun _=>?_|refine kA' fun _=>?_|(apply kq; (· exact rfl); (· intro w1 h1; exact CallsTo.q (g53 b g w1 (h1.rd_of_blk memZ)) h1))|(apply kq; (· exact rfl); (· intro w1 h1; exact CallsTo.q (g54 k g.w w1) h1)))
    all_goals (refine At.stage_same (fun _ h => St.sub h subZ) ?_))
  all_goals (
    apply DW.quiet [10]
    · decide +kernel
    · first | exact fun _ h => h | exact fun _ h => St.sub h subZ
    repeat'(first|refine yv' ?_|refine uv' ?_|refine un' ?_|(refine us' ?_ ?_;all_goals(intro hc;try simp only[hcs]at hc;try(exfalso;first|contradiction|omega)))|apply QL.nil)
    all_goals (show DW _ _ _ _ _ _ _ _))
  all_goals (first | (apply DW.done_thn; (· decide +kernel)) | (apply DW.done; (· decide +kernel)))
  repeat'(first|refine kv' ?_|apply jJ|refine jE' ?_|refine jp' ?_|(apply jc;kernel_rfl)|refine kg' ?_|refine kG' ?_|refine kB' fun _=>?_|refine kA' fun _=>?_|refine kK' fun _=>?_|refine kU' ?_|((first|refine kR' ?_ ?_|refine kQ' ?_ ?_);all_goals(intro hc;try simp only[hcs]at hc;try(exfalso;first|contradiction|omega))))
  all_goals (
    apply end0; (· exact rfl); intro w' hS
    first
    | (rw [show wantS g k = { g with w := k } by unfold wantS; rw [if_pos (by assumption)]]; exact (front hS 1 rfl rfl).step rfl)
    | (rw [show wantS g k = g by unfold wantS; rw [if_neg (by simp_all)]]; exact (front hS 1 rfl rfl).step rfl))
def markB (g : Gt) (k : Ky) : Bool := owesB g && decide (okK k) && !aboveB g.w k
def markS (g : Gt) (k : Ky) : Gt := if markB g k = true then { g with p := k } else g
def markM (g : Gt) (k : Ky) : Msg := if markB g k = true then ⟨2, g.node, 0, 0, 0, 0, 0, false, k.t, k.s, k.r, k.q, []⟩ else zeroMsg
set_option maxHeartbeats 1000000 in
theorem g37 (b : Nat) (g : Gt) (k : Ky) (w : World) (h : w.heap[b]? = some (.cells g.cells.toArray 95 (0, 0))) : CallsTo Try.prog 37 [.pointer (some ⟨b, 0, none⟩), k.val] w fun v w' => v = .tuple [(markM g k).val none 0, .bool (markB g k)].toArray ∧ Step (gO 95 b g) (gO 95 b (markS g k)) w w' := by
  refine go_in (n := 33) (gO_in h) Try.func37 rfl rfl ?_
  repeat'(first|(apply CW.reg_heldC)|refine kv' ?_|apply jJ|refine jE' ?_|refine jp' ?_|(apply jc;kernel_rfl)|refine kg' ?_|refine kG' ?_|refine kB' fun _=>?_|refine kA' fun _=>?_|refine kK' fun _=>?_|refine kU' ?_|((first|refine kR' ?_ ?_|refine kQ' ?_ ?_);all_goals(intro hc;try simp only[hcs]at hc;try(exfalso;first|contradiction|omega))))
  all_goals (
    apply DW.quiet [0]
    · decide +kernel
    · first | exact fun _ h => h | exact fun _ h => St.sub h subZ
    repeat'(first|refine yv' ?_|refine uv' ?_|refine un' ?_|(refine us' ?_ ?_;all_goals(intro hc;try simp only[hcs]at hc;try(exfalso;first|contradiction|omega)))|apply QL.nil)
    all_goals (show DW _ _ _ _ _ _ _ _))
  all_goals (
    apply DW.loud 1
    · exact rfl
    · decide +kernel
    repeat'(first|refine kg' ?_|refine kG' ?_|apply kM|refine kv' ?_|refine kK' fun _=>?_|refine kU' ?_|refine kB' fun _=>?_|refine kA' fun _=>?_|(apply kq; (· exact rfl); (· intro w1 h1; exact CallsTo.q (g56 b g w1 (h1.rd_of_blk memZ)) h1))|(apply kq; (· exact rfl); (· intro w1 h1; exact CallsTo.q (g54 g.w k w1) h1))|(apply kq; (· exact rfl); (· intro w1 h1; exact CallsTo.q (c60 k.t k.s k.r k.q w1) h1)))
    all_goals (refine At.stage_same (fun _ h => St.sub h subZ) ?_))
  all_goals (
    apply DW.quiet [2, 3, 4]
    · decide +kernel
    · first | exact fun _ h => h | exact fun _ h => St.sub h subZ
    repeat'(first|refine yv' ?_|refine uv' ?_|refine un' ?_|(refine us' ?_ ?_;all_goals(intro hc;try simp only[hcs]at hc;try(exfalso;first|contradiction|omega)))|apply QL.nil)
    all_goals (show DW _ _ _ _ _ _ _ _))
  all_goals (
    apply DW.loud 5
    · exact rfl
    · decide +kernel
    repeat'(first|refine kg' ?_|refine kG' ?_|apply kM|refine kv' ?_|refine kK' fun _=>?_|refine kU' ?_|refine kB' fun _=>?_|refine kA' fun _=>?_|(apply kq; (· exact rfl); (· intro w1 h1; exact CallsTo.q (g56 b g w1 (h1.rd_of_blk memZ)) h1))|(apply kq; (· exact rfl); (· intro w1 h1; exact CallsTo.q (g54 g.w k w1) h1))|(apply kq; (· exact rfl); (· intro w1 h1; exact CallsTo.q (c60 k.t k.s k.r k.q w1) h1)))
    all_goals (refine At.stage_same (fun _ h => St.sub h subZ) ?_))
  all_goals (
    apply DW.quiet [6, 7, 8, 9, 10, 11, 12, 13]
    · decide +kernel
    · first | exact fun _ h => h | exact fun _ h => St.sub h subZ
    repeat'(first|refine yv' ?_|refine uv' ?_|refine un' ?_|(refine us' ?_ ?_;all_goals(intro hc;try simp only[hcs]at hc;try(exfalso;first|contradiction|omega)))|apply QL.nil)
    all_goals (show DW _ _ _ _ _ _ _ _))
  all_goals (
    apply DW.loud 14
    · exact rfl
    · decide +kernel
    repeat'(first|refine kg' ?_|refine kG' ?_|apply kM|refine kv' ?_|refine kK' fun _=>?_|refine kU' ?_|refine kB' fun _=>?_|refine kA' fun _=>?_|(apply kq; (· exact rfl); (· intro w1 h1; exact CallsTo.q (g56 b g w1 (h1.rd_of_blk memZ)) h1))|(apply kq; (· exact rfl); (· intro w1 h1; exact CallsTo.q (g54 g.w k w1) h1))|(apply kq; (· exact rfl); (· intro w1 h1; exact CallsTo.q (c60 k.t k.s k.r k.q w1) h1)))
    all_goals (refine At.stage_same (fun _ h => St.sub h subZ) ?_))
  all_goals (
    apply DW.quiet [15]
    · decide +kernel
    · first | exact fun _ h => h | exact fun _ h => St.sub h subZ
    repeat'(first|refine yv' ?_|refine uv' ?_|refine un' ?_|(refine us' ?_ ?_;all_goals(intro hc;try simp only[hcs]at hc;try(exfalso;first|contradiction|omega)))|apply QL.nil)
    all_goals (show DW _ _ _ _ _ _ _ _))
  all_goals (first | (apply DW.done_thn; (· decide +kernel)) | (apply DW.done; (· decide +kernel)))
  repeat'(first|(apply CW.reg_held1)|refine kv' ?_|apply jJ|refine jE' ?_|refine jp' ?_|(apply jc;kernel_rfl)|refine kg' ?_|refine kG' ?_|refine kB' fun _=>?_|refine kA' fun _=>?_|refine kK' fun _=>?_|refine kU' ?_|((first|refine kR' ?_ ?_|refine kQ' ?_ ?_);all_goals(intro hc;try simp only[hcs]at hc;try(exfalso;first|contradiction|omega))))
  rotate_right
  · skip
    all_goals (
      apply DW.quiet [0, 1, 2, 3, 4, 5]
      · decide +kernel
      · first | exact fun _ h => h | exact fun _ h => St.sub h subZ
      repeat'(first|refine yv' ?_|refine uv' ?_|refine un' ?_|(refine us' ?_ ?_;all_goals(intro hc;try simp only[hcs]at hc;try(exfalso;first|contradiction|omega)))|apply QL.nil)
      all_goals (show DW _ _ _ _ _ _ _ _))
    all_goals (
      apply DW.loud 6
      · exact rfl
      · decide +kernel
      repeat'(first|refine kg' ?_|refine kG' ?_|apply kM|refine kv' ?_|refine kK' fun _=>?_|refine kU' ?_|refine kB' fun _=>?_|refine kA' fun _=>?_)
      all_goals (refine At.stage_same (fun _ h => St.sub h subZ) ?_))
    all_goals (
      apply DW.quiet [7]
      · decide +kernel
      · first | exact fun _ h => h | exact fun _ h => St.sub h subZ
      repeat'(first|refine yv' ?_|refine uv' ?_|refine un' ?_|(refine us' ?_ ?_;all_goals(intro hc;try simp only[hcs]at hc;try(exfalso;first|contradiction|omega)))|apply QL.nil)
      all_goals (show DW _ _ _ _ _ _ _ _))
    all_goals (first | (apply DW.done_thn; (· decide +kernel)) | (apply DW.done; (· decide +kernel)))
    repeat'(first|refine kv' ?_|apply jJ|refine jE' ?_|refine jp' ?_|(apply jc;kernel_rfl)|refine kg' ?_|refine kG' ?_|refine kB' fun _=>?_|refine kA' fun _=>?_|refine kK' fun _=>?_|refine kU' ?_|((first|refine kR' ?_ ?_|refine kQ' ?_ ?_);all_goals(intro hc;try simp only[hcs]at hc;try(exfalso;first|contradiction|omega))))
    (apply ret2c; (· exact rfl); (· exact inferInstance); (· exact rfl); (· (repeat (first | exact List.Mem.head _ | apply List.Mem.tail))); (· exact rfl); intro w' hS)
    have e : markB g k = true := by simp_all [markB, okK]
    unfold markM markS
    simp only [e, if_true]
    exact ⟨rfl, (front hS 2 rfl rfl).step rfl⟩
  all_goals (
    (apply ret2c; (· exact rfl); (· exact inferInstance); (· exact rfl); (· (repeat (first | exact List.Mem.head _ | apply List.Mem.tail))); (· exact rfl); intro w' hS)
    have e : markB g k = false := by simp_all [markB, okK]
    unfold markM markS
    simp only [e, Bool.false_eq_true, if_false]
    exact ⟨rfl, (front hS 2 rfl rfl).step rfl⟩)
def askB (g : Gt) (k : Ky) : Bool := owesB g && decide (okK k) && aboveB g.w k && aboveB g.w g.a
def askS (g : Gt) (k : Ky) : Gt := if askB g k = true then { g with a := g.w } else g
def askK (g : Gt) (k : Ky) : Ky := if askB g k = true then g.w else zeroK
set_option maxHeartbeats 1000000 in
theorem g36 (b : Nat) (g : Gt) (k : Ky) (w : World) (h : w.heap[b]? = some (.cells g.cells.toArray 95 (0, 0))) : CallsTo Try.prog 36 [.pointer (some ⟨b, 0, none⟩), k.val] w fun v w' => v = .tuple [(askK g k).val, .bool (askB g k)].toArray ∧ Step (gO 95 b g) (gO 95 b (askS g k)) w w' := by
  refine go_in (n := 47) (gO_in h) Try.func36 rfl rfl ?_
  repeat'(first|(apply CW.reg_heldC)|refine kv' ?_|apply jJ|refine jE' ?_|refine jp' ?_|(apply jc;kernel_rfl)|refine kg' ?_|refine kG' ?_|refine kB' fun _=>?_|refine kA' fun _=>?_|refine kK' fun _=>?_|refine kU' ?_|((first|refine kR' ?_ ?_|refine kQ' ?_ ?_);all_goals(intro hc;try simp only[hcs]at hc;try(exfalso;first|contradiction|omega))))
  all_goals (
    apply DW.quiet [0]
    · decide +kernel
    · first | exact fun _ h => h | exact fun _ h => St.sub h subZ
    repeat'(first|refine yv' ?_|refine uv' ?_|refine un' ?_|(refine us' ?_ ?_;all_goals(intro hc;try simp only[hcs]at hc;try(exfalso;first|contradiction|omega)))|apply QL.nil)
    all_goals (show DW _ _ _ _ _ _ _ _))
  all_goals (
    apply DW.loud 1
    · exact rfl
    · decide +kernel
    repeat'(first|refine kg' ?_|refine kG' ?_|apply kM|refine kv' ?_|refine kK' fun _=>?_|refine kU' ?_|refine kB' fun _=>?_|refine kA' fun _=>?_|(apply kq; (· exact rfl); (· intro w1 h1; exact CallsTo.q (g56 b g w1 (h1.rd_of_blk memZ)) h1))|(apply kq; (· exact rfl); (· intro w1 h1; exact CallsTo.q (g54 g.w k w1) h1))|(apply kq; (· exact rfl); (· intro w1 h1; exact CallsTo.q (g54 g.w g.a w1) h1))|(apply kq; (· exact rfl); (· intro w1 h1; exact CallsTo.q (c60 k.t k.s k.r k.q w1) h1)))
    all_goals (refine At.stage_same (fun _ h => St.sub h subZ) ?_))
  all_goals (
    apply DW.quiet [2, 3, 4]
    · decide +kernel
    · first | exact fun _ h => h | exact fun _ h => St.sub h subZ
    repeat'(first|refine yv' ?_|refine uv' ?_|refine un' ?_|(refine us' ?_ ?_;all_goals(intro hc;try simp only[hcs]at hc;try(exfalso;first|contradiction|omega)))|apply QL.nil)
    all_goals (show DW _ _ _ _ _ _ _ _))
  all_goals (
    apply DW.loud 5
    · exact rfl
    · decide +kernel
    repeat'(first|refine kg' ?_|refine kG' ?_|apply kM|refine kv' ?_|refine kK' fun _=>?_|refine kU' ?_|refine kB' fun _=>?_|refine kA' fun _=>?_|(apply kq; (· exact rfl); (· intro w1 h1; exact CallsTo.q (g56 b g w1 (h1.rd_of_blk memZ)) h1))|(apply kq; (· exact rfl); (· intro w1 h1; exact CallsTo.q (g54 g.w k w1) h1))|(apply kq; (· exact rfl); (· intro w1 h1; exact CallsTo.q (g54 g.w g.a w1) h1))|(apply kq; (· exact rfl); (· intro w1 h1; exact CallsTo.q (c60 k.t k.s k.r k.q w1) h1)))
    all_goals (refine At.stage_same (fun _ h => St.sub h subZ) ?_))
  all_goals (
    apply DW.quiet [6, 7, 8, 9, 10, 11, 12, 13]
    · decide +kernel
    · first | exact fun _ h => h | exact fun _ h => St.sub h subZ
    repeat'(first|refine yv' ?_|refine uv' ?_|refine un' ?_|(refine us' ?_ ?_;all_goals(intro hc;try simp only[hcs]at hc;try(exfalso;first|contradiction|omega)))|apply QL.nil)
    all_goals (show DW _ _ _ _ _ _ _ _))
  all_goals (
    apply DW.loud 14
    · exact rfl
    · decide +kernel
    repeat'(first|refine kg' ?_|refine kG' ?_|apply kM|refine kv' ?_|refine kK' fun _=>?_|refine kU' ?_|refine kB' fun _=>?_|refine kA' fun _=>?_|(apply kq; (· exact rfl); (· intro w1 h1; exact CallsTo.q (g56 b g w1 (h1.rd_of_blk memZ)) h1))|(apply kq; (· exact rfl); (· intro w1 h1; exact CallsTo.q (g54 g.w k w1) h1))|(apply kq; (· exact rfl); (· intro w1 h1; exact CallsTo.q (g54 g.w g.a w1) h1))|(apply kq; (· exact rfl); (· intro w1 h1; exact CallsTo.q (c60 k.t k.s k.r k.q w1) h1)))
    all_goals (refine At.stage_same (fun _ h => St.sub h subZ) ?_))
  all_goals (
    apply DW.quiet [15, 16, 17, 18, 19, 20, 21, 22, 23, 24, 25]
    · decide +kernel
    · first | exact fun _ h => h | exact fun _ h => St.sub h subZ
    repeat'(first|refine yv' ?_|refine uv' ?_|refine un' ?_|(refine us' ?_ ?_;all_goals(intro hc;try simp only[hcs]at hc;try(exfalso;first|contradiction|omega)))|apply QL.nil)
    all_goals (show DW _ _ _ _ _ _ _ _))
  all_goals (
    apply DW.loud 26
    · exact rfl
    · decide +kernel
    repeat'(first|refine kg' ?_|refine kG' ?_|apply kM|refine kv' ?_|refine kK' fun _=>?_|refine kU' ?_|refine kB' fun _=>?_|refine kA' fun _=>?_|(apply kq; (· exact rfl); (· intro w1 h1; exact CallsTo.q (g56 b g w1 (h1.rd_of_blk memZ)) h1))|(apply kq; (· exact rfl); (· intro w1 h1; exact CallsTo.q (g54 g.w k w1) h1))|(apply kq; (· exact rfl); (· intro w1 h1; exact CallsTo.q (g54 g.w g.a w1) h1))|(apply kq; (· exact rfl); (· intro w1 h1; exact CallsTo.q (c60 k.t k.s k.r k.q w1) h1)))
    all_goals (refine At.stage_same (fun _ h => St.sub h subZ) ?_))
  all_goals (
    apply DW.quiet [27, 28]
    · decide +kernel
    · first | exact fun _ h => h | exact fun _ h => St.sub h subZ
    repeat'(first|refine yv' ?_|refine uv' ?_|refine un' ?_|(refine us' ?_ ?_;all_goals(intro hc;try simp only[hcs]at hc;try(exfalso;first|contradiction|omega)))|apply QL.nil)
    all_goals (show DW _ _ _ _ _ _ _ _))
  all_goals (first | (apply DW.done_thn; (· decide +kernel)) | (apply DW.done; (· decide +kernel)))
  repeat'(first|refine kv' ?_|apply jJ|refine jE' ?_|refine jp' ?_|(apply jc;kernel_rfl)|refine kg' ?_|refine kG' ?_|refine kB' fun _=>?_|refine kA' fun _=>?_|refine kK' fun _=>?_|refine kU' ?_|((first|refine kR' ?_ ?_|refine kQ' ?_ ?_);all_goals(intro hc;try simp only[hcs]at hc;try(exfalso;first|contradiction|omega))))
  rotate_right
  · (apply ret2c; (· exact rfl); (· exact inferInstance); (· exact rfl); (· (repeat (first | exact List.Mem.head _ | apply List.Mem.tail))); (· exact rfl); intro w' hS)
    have e : askB g k = true := by simp_all [askB, okK]
    unfold askK askS
    simp only [e, if_true]
    exact ⟨rfl, (front hS 2 rfl rfl).step rfl⟩
  all_goals (
    (apply ret2c; (· exact rfl); (· exact inferInstance); (· exact rfl); (· (repeat (first | exact List.Mem.head _ | apply List.Mem.tail))); (· exact rfl); intro w' hS)
    have e : askB g k = false := by simp_all [askB, okK]
    unfold askK askS
    simp only [e, Bool.false_eq_true, if_false]
    exact ⟨rfl, (front hS 2 rfl rfl).step rfl⟩)
theorem g38 (b : Nat) (g : Gt) (w : World) (h : w.heap[b]? = some (.cells g.cells.toArray 95 (0, 0))) (hn : g.node ≠ 0) : CallsTo Try.prog 38 [.pointer (some ⟨b, 0, none⟩)] w fun v w' => Step (gO 95 b g) (gO 95 b { g with a := zeroK }) w w' := by
  refine go_in (n := 9) (gO_in h) Try.func38 rfl rfl ?_
  repeat'(first|refine kv' ?_|apply jJ|refine jE' ?_|refine jp' ?_|(apply jc;kernel_rfl)|refine kg' ?_|refine kG' ?_|refine kB' fun _=>?_|refine kA' fun _=>?_|refine kK' fun _=>?_|refine kU' ?_|(apply kq; (· exact rfl); (· intro w1 h1; exact CallsTo.q (g53 b g w1 (h1.rd_of_blk memZ)) h1))|((first|refine kR' ?_ ?_|refine kQ' ?_ ?_);all_goals(intro hc;try simp only[hcs]at hc;try(exfalso;first|contradiction|omega))))
  apply end0; (· exact rfl); intro w' hS
  exact hS.step rfl
theorem g45 (b : Nat) (g : Gt) (w : World) (h : Rd w (some ⟨b, 0, none⟩) g.cells) (hn : g.node ≠ 0) : CallsTo Try.prog 45 [.pointer (some ⟨b, 0, none⟩)] w fun v w' => v = g.p.val ∧ Grew w w' := by
  refine go_in (n := 10) (St.rd1 h) Try.func45 rfl rfl ?_
  repeat'(first|refine kv' ?_|apply jJ|refine jE' ?_|refine jp' ?_|(apply jc;kernel_rfl)|refine kg' ?_|refine kG' ?_|refine kB' fun _=>?_|refine kA' fun _=>?_|refine kK' fun _=>?_|refine kU' ?_|(apply kq; (· exact rfl); (· intro w1 h1; exact CallsTo.q (g53 b g w1 (h1.rd_of memZ)) h1))|((first|refine kR' ?_ ?_|refine kQ' ?_ ?_);all_goals(intro hc;try simp only[hcs]at hc;try(exfalso;first|contradiction|omega))))
  (apply ret1c; (· exact rfl); (· exact inferInstance); (· exact rfl); (· (repeat (first | exact List.Mem.head _ | apply List.Mem.tail))); (· exact rfl); intro w' hS)
  exact ⟨rfl, hS.toKeep⟩
def chartM (node : Int) (body : List Int) : Msg := ⟨4, node, 0, 0, 0, 0, 0, false, 0, 0, 0, 0, body⟩
def beginB (k : Ky) (ps : List Plc) : Bool := decide (okK k ∧ (charts ps).2 = 0)
def beginM (g : Gt) (k : Ky) (ps : List Plc) : Msg := if beginB k ps = true then chartM g.node (charts ps).1 else zeroMsg
def beginE (k : Ky) (ps : List Plc) : Int := if beginB k ps = true then 0 else 2
def beginS (g : Gt) (k : Ky) (ps : List Plc) : Gt := if beginB k ps = true ∧ aboveB k g.p = true then { g with p := k } else g
set_option maxHeartbeats 1000000 in
theorem g42 (b : Nat) (g : Gt) (k : Ky) (a : Option Addr) (c : Nat) (ps : List Plc) (w : World) (h : w.heap[b]? = some (.cells g.cells.toArray 95 (0, 0))) (hn : g.node ≠ 0) (hr : Rd w a (pcs ps)) (hd : ∀ x, rdFoot a (pcs ps) x → x ≠ b) (hm : ps.length ≤ 281474976710656) (hi : plcsI ps) :
    CallsTo Try.prog 42 [.pointer (some ⟨b, 0, none⟩), k.val, .slice a ps.length c] w fun v w' => ∃ a2 c2, v = .tuple [(beginM g k ps).val a2 c2, .int .i64 (beginE k ps)].toArray ∧
      St w (gO 95 b g).foot [gO 95 b (beginS g k ps), osl (.slice a2 (beginM g k ps).body.length c2) 5 1 (beginM g k ps).body.length (bv (beginM g k ps).body)] w' := by
  refine go_in (n := 42) ((gO_in h).addRd hr hd) Try.func42 rfl rfl ?_
  repeat'(first|refine kv' ?_|apply jJ|refine jE' ?_|refine jp' ?_|(apply jc;kernel_rfl)|refine kg' ?_|refine kG' ?_|refine kB' fun _=>?_|refine kA' fun _=>?_|refine kK' fun _=>?_|refine kU' ?_|(apply kq; (· exact rfl); (· intro w1 h1; exact CallsTo.q (g53 b g w1 (h1.rd_of_blk memZ)) h1))|((first|refine kR' ?_ ?_|refine kQ' ?_ ?_);all_goals(intro hc;try simp only[hcs]at hc;try(exfalso;first|contradiction|omega))))
  apply LR.call
  · exact rfl
  intro w1 h1
  refine (c28 a c ps w1 (h1.rd_of memZ) hm hi).mono ?_
  rintro v w2 ⟨a1, c1, rfl, hn1⟩
  refine LR.back (h1.newSl hn1) ?_
  clear hn1 h1
  repeat'(first|(apply CW.reg_heldC)|refine kv' ?_|apply jJ|refine jE' ?_|refine jp' ?_|(apply jc;kernel_rfl)|refine kg' ?_|refine kG' ?_|refine kB' fun _=>?_|refine kA' fun _=>?_|refine kK' fun _=>?_|refine kU' ?_|(apply kq; (· exact rfl); (· intro w1 h1; exact CallsTo.q (c60 k.t k.s k.r k.q w1) h1))|((first|refine kR' ?_ ?_|refine kQ' ?_ ?_);all_goals(intro hc;try simp only[hcs]at hc;try(exfalso;first|contradiction|omega))))
  rotate_right
  · skip
    all_goals (
      apply DW.quiet [0, 1, 2, 3, 4]
      · decide +kernel
      · first | exact fun _ h => h | exact fun _ h => St.sub h subZ
      repeat'(first|refine yv' ?_|refine uv' ?_|refine un' ?_|(refine us' ?_ ?_;all_goals(intro hc;try simp only[hcs]at hc;try(exfalso;first|contradiction|omega)))|apply QL.nil)
      all_goals (show DW _ _ _ _ _ _ _ _))
    all_goals (
      apply DW.loud 5
      · exact rfl
      · decide +kernel
      repeat'(first|refine kg' ?_|refine kG' ?_|apply kM|refine kv' ?_|refine kK' fun _=>?_|refine kU' ?_|refine kB' fun _=>?_|refine kA' fun _=>?_|(apply kq; (· exact rfl); (· intro w1 h1; exact CallsTo.q (g54 k g.p w1) h1)))
      all_goals (refine At.stage_same (fun _ h => St.sub h subZ) ?_))
    all_goals (first | (apply DW.done_thn; (· decide +kernel)) | (apply DW.done; (· decide +kernel)))
    repeat'(first|refine kv' ?_|apply jJ|refine jE' ?_|refine jp' ?_|(apply jc;kernel_rfl)|refine kg' ?_|refine kG' ?_|refine kB' fun _=>?_|refine kA' fun _=>?_|refine kK' fun _=>?_|refine kU' ?_|((first|refine kR' ?_ ?_|refine kQ' ?_ ?_);all_goals(intro hc;try simp only[hcs]at hc;try(exfalso;first|contradiction|omega))))
    all_goals (
      (apply ret2c; (· exact rfl); (· exact inferInstance); (· exact rfl); (· (repeat (first | exact List.Mem.head _ | apply List.Mem.tail))); (· exact rfl); intro w' hS)
      have e : beginB k ps = true := by simp_all [beginB, okK]
      unfold beginM beginS beginE
      simp only [e, if_true, true_and]
      first
      | (rw [if_pos (by assumption)]; exact ⟨a1, c1, rfl, (front hS 4 rfl rfl).pair⟩)
      | (rw [if_neg (by simp_all)]; exact ⟨a1, c1, rfl, (front hS 4 rfl rfl).pair⟩)
      )
  all_goals (
    (apply ret2c; (· exact rfl); (· exact inferInstance); (· exact rfl); (· (repeat (first | exact List.Mem.head _ | apply List.Mem.tail))); (· exact rfl); intro w' hS)
    have e : beginB k ps = false := by simp_all [beginB, okK]
    unfold beginM beginS beginE
    simp only [e, Bool.false_eq_true, if_false, false_and]
    exact ⟨none, 0, rfl, (front (hS.nilsl 5 1) 5 rfl rfl).pair⟩)
structure Itm where
  k : Ky
  m : Msg
  p : Plc
def Itm.cells (x : Itm) (a : Option Addr) (c : Nat) : List Value := [.int .i64 x.k.t, .int .i64 x.k.s, .int .i64 x.k.r, .int .i64 x.k.q, .int .i64 x.m.kind, .int .i64 x.m.origin, .int .i64 x.m.life, .int .i64 x.m.id, .int .i64 x.m.part, .int .i64 x.m.parts, .int .i64 x.m.groups, .bool x.m.safe, .int .i64 x.m.stamp, .int .i64 x.m.rseq, .int .i64 x.m.rrep, .int .i64 x.m.kseq, .slice a x.m.body.length c, .int .i64 x.p.ring, .int .i64 x.p.seq, .int .i64 x.p.rep, .int .i64 x.p.members]
def Itm.val (x : Itm) (a : Option Addr) (c : Nat) : Value := .agg (x.cells a c).toArray
def plcI (p : Plc) : Prop := i64 p.ring ∧ i64 p.seq ∧ i64 p.rep ∧ i64 p.members
def itemM (g : Gt) (x : Itm) : Msg := if x.m.kind = 0 then chartM g.node (charts [x.p]).1 else if x.m.kind = 1 ∨ x.m.kind = 4 then x.m else zeroMsg
def itemB (g : Gt) (x : Itm) : Bool := if x.m.kind = 0 then decide ((charts [x.p]).2 = 0) else if x.m.kind = 1 ∨ x.m.kind = 4 then decide (check x.m = 0) else false
set_option maxHeartbeats 1000000 in
theorem g55 (b : Nat) (g : Gt) (x : Itm) (a : Option Addr) (c : Nat) (w : World) (h : Rd w (some ⟨b, 0, none⟩) g.cells) (hr : Rd w a (bv x.m.body)) (hz : a = none → c = 0) (hm : x.m.body.length ≤ 140737488355328) (hb : Byt x.m.body) (hp : plcI x.p) :
    CallsTo Try.prog 55 [.pointer (some ⟨b, 0, none⟩), x.val a c] w fun v w' => ∃ a2 c2, v = .tuple [(itemM g x).val a2 c2, .bool (itemB g x)].toArray ∧ NewSl w w' (.slice a2 (itemM g x).body.length c2) 5 1 (itemM g x).body.length (bv (itemM g x).body) := by
  refine go_in (n := 42) (St.rd2 h hr) Try.func55 rfl rfl ?_
  repeat'(first|refine kv' ?_|apply jJ|refine jE' ?_|refine jp' ?_|(apply jc;kernel_rfl)|refine kg' ?_|refine kG' ?_|refine kB' fun _=>?_|refine kA' fun _=>?_|refine kK' fun _=>?_|refine kU' ?_|((first|refine kR' ?_ ?_|refine kQ' ?_ ?_);all_goals(intro hc;try simp only[hcs]at hc;try(exfalso;first|contradiction|omega))))
  · have hpi : plcsI [x.p] := fun q hq => by simp at hq; subst hq; exact hp
    apply LR.call
    · exact rfl
    intro w1 h1
    refine CallsTo.mono (show CallsTo Try.prog 67 [.slice (some ⟨_, 0, none⟩) 1 1] w1 _ from c28 _ 1 [x.p] w1 (h1.rd_of_blk memZ) (by simp) hpi) ?_
    rintro v w2 ⟨a1, c1, rfl, hn1⟩
    refine LR.back (h1.newSl hn1) ?_
    clear hn1 h1
    repeat'(first|refine kv' ?_|apply jJ|refine jE' ?_|refine jp' ?_|(apply jc;kernel_rfl)|refine kg' ?_|refine kG' ?_|refine kB' fun _=>?_|refine kA' fun _=>?_|refine kK' fun _=>?_|refine kU' ?_|((first|refine kR' ?_ ?_|refine kQ' ?_ ?_);all_goals(intro hc;try simp only[hcs]at hc;try(exfalso;first|contradiction|omega))))
    (apply ret2c; (· exact rfl); (· exact inferInstance); (· exact rfl); (· (repeat (first | exact List.Mem.head _ | apply List.Mem.tail))); (· exact rfl); intro w' hS)
    unfold itemM itemB
    simp only [if_pos (show x.m.kind = 0 by assumption)]
    exact ⟨a1, c1, rfl, hS.toNew (mH _ _)⟩
  rotate_right
  · (apply ret2c; (· exact rfl); (· exact inferInstance); (· exact rfl); (· (repeat (first | exact List.Mem.head _ | apply List.Mem.tail))); (· exact rfl); intro w' hS)
    unfold itemM itemB
    simp only [if_neg (show ¬ x.m.kind = 0 by assumption), if_neg (show ¬ (x.m.kind = 1 ∨ x.m.kind = 4) by simp_all)]
    exact ⟨none, 0, rfl, (hS.nilsl 5 1).toNew (mH _ _)⟩
  all_goals (
    have hk : x.m.kind = 1 ∨ x.m.kind = 4 := by simp_all
    apply LR.call
    · exact rfl
    intro w1 h1
    refine CallsTo.mono (show CallsTo Try.prog 46 [.slice a x.m.body.length c] w1 _ from c86 a c x.m.body w1 (h1.rd_of memZ) hz hm) ?_
    rintro v w2 ⟨a1, c1, rfl, hn1⟩
    have hz1 := hn1.some_of
    refine LR.back (h1.newSl hn1) ?_
    clear hn1 h1
    repeat'(first|(apply CW.reg_held3)|refine kv' ?_|apply jJ|refine jE' ?_|refine jp' ?_|(apply jc;kernel_rfl)|refine kg' ?_|refine kG' ?_|refine kB' fun _=>?_|refine kA' fun _=>?_|refine kK' fun _=>?_|refine kU' ?_|((first|refine kR' ?_ ?_|refine kQ' ?_ ?_);all_goals(intro hc;try simp only[hcs]at hc;try(exfalso;first|contradiction|omega))))
    all_goals (
      apply DW.quiet [0, 1]
      · decide +kernel
      · first | exact fun _ h => h | exact fun _ h => St.sub h subZ
      repeat'(first|refine yv' ?_|refine uv' ?_|refine un' ?_|(refine us' ?_ ?_;all_goals(intro hc;try simp only[hcs]at hc;try(exfalso;first|contradiction|omega)))|apply QL.nil)
      all_goals (show DW _ _ _ _ _ _ _ _))
    all_goals (
      apply DW.loud 2
      · exact rfl
      · decide +kernel
      repeat'(first|refine kg' ?_|refine kG' ?_|apply kM|refine kv' ?_|refine kK' fun _=>?_|refine kU' ?_|refine kB' fun _=>?_|refine kA' fun _=>?_|(apply kq; (· exact rfl); (· intro w1 h1; have hq := CallsTo.q (d17 x.m a1 c1 w1 (h1.rd_of_own (mH _ _)) (fun e => (hz1 e).2) hm hb) h1; show CallsTo Try.prog 43 [x.m.val a1 c1] w1 _; exact hq)))
      all_goals (refine At.stage_same (fun _ h => St.sub h subZ) ?_))
    all_goals (
      apply DW.quiet [3]
      · decide +kernel
      · first | exact fun _ h => h | exact fun _ h => St.sub h subZ
      repeat'(first|refine yv' ?_|refine uv' ?_|refine un' ?_|(refine us' ?_ ?_;all_goals(intro hc;try simp only[hcs]at hc;try(exfalso;first|contradiction|omega)))|apply QL.nil)
      all_goals (show DW _ _ _ _ _ _ _ _))
    all_goals (
      apply DW.loud 4
      · exact rfl
      · decide +kernel
      repeat'(first|refine kg' ?_|refine kG' ?_|apply kM|refine kv' ?_|refine kK' fun _=>?_|refine kU' ?_|refine kB' fun _=>?_|refine kA' fun _=>?_|(apply kq; (· exact rfl); (· intro w1 h1; have hq := CallsTo.q (d17 x.m a1 c1 w1 (h1.rd_of_own (mH _ _)) (fun e => (hz1 e).2) hm hb) h1; show CallsTo Try.prog 43 [x.m.val a1 c1] w1 _; exact hq)))
      all_goals (refine At.stage_same (fun _ h => St.sub h subZ) ?_))
    all_goals (
      apply DW.quiet [5]
      · decide +kernel
      · first | exact fun _ h => h | exact fun _ h => St.sub h subZ
      repeat'(first|refine yv' ?_|refine uv' ?_|refine un' ?_|(refine us' ?_ ?_;all_goals(intro hc;try simp only[hcs]at hc;try(exfalso;first|contradiction|omega)))|apply QL.nil)
      all_goals (show DW _ _ _ _ _ _ _ _))
    all_goals (first | (apply DW.done_thn; (· decide +kernel)) | (apply DW.done; (· decide +kernel)))
    repeat'(first|refine kv' ?_|apply jJ|refine jE' ?_|refine jp' ?_|(apply jc;kernel_rfl)|refine kg' ?_|refine kG' ?_|refine kB' fun _=>?_|refine kA' fun _=>?_|refine kK' fun _=>?_|refine kU' ?_|((first|refine kR' ?_ ?_|refine kQ' ?_ ?_);all_goals(intro hc;try simp only[hcs]at hc;try(exfalso;first|contradiction|omega))))
    (apply ret2c; (· exact rfl); (· exact inferInstance); (· exact rfl); (· (repeat (first | exact List.Mem.head _ | apply List.Mem.tail))); (· exact rfl); intro w' hS)
    unfold itemM itemB
    simp only [if_neg (show ¬ x.m.kind = 0 by assumption), if_pos hk]
    exact ⟨a1, c1, rfl, hS.toNew memZ⟩)
def fromM (m : Msg) (k : Ky) : Msg := { m with stamp := k.t, rseq := k.s, rrep := k.r, kseq := k.q }
def passB (g : Gt) (x : Itm) : Bool := aboveB x.k g.p && itemB g x
def passM (g : Gt) (x : Itm) : Msg := if passB g x = true then fromM (itemM g x) x.k else zeroMsg
def passS (g : Gt) (x : Itm) : Gt := if passB g x = true then { g with p := x.k } else g
set_option maxHeartbeats 1000000 in
theorem g32 (b : Nat) (g : Gt) (x : Itm) (a : Option Addr) (c : Nat) (w : World) (h : w.heap[b]? = some (.cells g.cells.toArray 95 (0, 0))) (hn : g.node ≠ 0) (hr : Rd w a (bv x.m.body)) (hd : ∀ y, rdFoot a (bv x.m.body) y → y ≠ b) (hz : a = none → c = 0) (hm : x.m.body.length ≤ 140737488355328) (hb : Byt x.m.body) (hp : plcI x.p) :
    CallsTo Try.prog 32 [.pointer (some ⟨b, 0, none⟩), x.val a c] w fun v w' => ∃ a2 c2, v = .tuple [(passM g x).val a2 c2, .bool (passB g x)].toArray ∧
      St w (gO 95 b g).foot [gO 95 b (passS g x), osl (.slice a2 (passM g x).body.length c2) 5 1 (passM g x).body.length (bv (passM g x).body)] w' := by
  refine go_in (n := 39) ((gO_in h).addRd hr hd) Try.func32 rfl rfl ?_
  repeat'(first|(apply CW.reg_heldC)|refine kv' ?_|apply jJ|refine jE' ?_|refine jp' ?_|(apply jc;kernel_rfl)|refine kg' ?_|refine kG' ?_|refine kB' fun _=>?_|refine kA' fun _=>?_|refine kK' fun _=>?_|refine kU' ?_|((first|refine kR' ?_ ?_|refine kQ' ?_ ?_);all_goals(intro hc;try simp only[hcs]at hc;try(exfalso;first|contradiction|omega))))
  all_goals (
    apply DW.quiet [0]
    · decide +kernel
    · first | exact fun _ h => h | exact fun _ h => St.sub h subZ
    repeat'(first|refine yv' ?_|refine uv' ?_|refine un' ?_|(refine us' ?_ ?_;all_goals(intro hc;try simp only[hcs]at hc;try(exfalso;first|contradiction|omega)))|apply QL.nil)
    all_goals (show DW _ _ _ _ _ _ _ _))
  all_goals (
    apply DW.loud 1
    · exact rfl
    · decide +kernel
    repeat'(first|refine kg' ?_|refine kG' ?_|apply kM|refine kv' ?_|refine kK' fun _=>?_|refine kU' ?_|refine kB' fun _=>?_|refine kA' fun _=>?_|(apply kq; (· exact rfl); (· intro w1 h1; exact CallsTo.q (g53 b g w1 (h1.rd_of_blk memZ)) h1))|(apply kq; (· exact rfl); (· intro w1 h1; exact CallsTo.q (g54 x.k g.p w1) h1)))
    all_goals (refine At.stage_same (fun _ h => St.sub h subZ) ?_))
  all_goals (
    apply DW.quiet [2, 3, 4, 5, 6, 7, 8]
    · decide +kernel
    · first | exact fun _ h => h | exact fun _ h => St.sub h subZ
    repeat'(first|refine yv' ?_|refine uv' ?_|refine un' ?_|(refine us' ?_ ?_;all_goals(intro hc;try simp only[hcs]at hc;try(exfalso;first|contradiction|omega)))|apply QL.nil)
    all_goals (show DW _ _ _ _ _ _ _ _))
  all_goals (
    apply DW.loud 9
    · exact rfl
    · decide +kernel
    repeat'(first|refine kg' ?_|refine kG' ?_|apply kM|refine kv' ?_|refine kK' fun _=>?_|refine kU' ?_|refine kB' fun _=>?_|refine kA' fun _=>?_|(apply kq; (· exact rfl); (· intro w1 h1; exact CallsTo.q (g53 b g w1 (h1.rd_of_blk memZ)) h1))|(apply kq; (· exact rfl); (· intro w1 h1; exact CallsTo.q (g54 x.k g.p w1) h1)))
    all_goals (refine At.stage_same (fun _ h => St.sub h subZ) ?_))
  all_goals (
    apply DW.quiet [10, 11]
    · decide +kernel
    · first | exact fun _ h => h | exact fun _ h => St.sub h subZ
    repeat'(first|refine yv' ?_|refine uv' ?_|refine un' ?_|(refine us' ?_ ?_;all_goals(intro hc;try simp only[hcs]at hc;try(exfalso;first|contradiction|omega)))|apply QL.nil)
    all_goals (show DW _ _ _ _ _ _ _ _))
  all_goals (first | (apply DW.done_thn; (· decide +kernel)) | (apply DW.done; (· decide +kernel)))
  repeat'(first|refine kv' ?_|apply jJ|refine jE' ?_|refine jp' ?_|(apply jc;kernel_rfl)|refine kg' ?_|refine kG' ?_|refine kB' fun _=>?_|refine kA' fun _=>?_|refine kK' fun _=>?_|refine kU' ?_|((first|refine kR' ?_ ?_|refine kQ' ?_ ?_);all_goals(intro hc;try simp only[hcs]at hc;try(exfalso;first|contradiction|omega))))
  · (apply ret2c; (· exact rfl); (· exact inferInstance); (· exact rfl); (· (repeat (first | exact List.Mem.head _ | apply List.Mem.tail))); (· exact rfl); intro w' hS)
    have e : passB g x = false := by simp_all [passB]
    unfold passM passS
    simp only [e, Bool.false_eq_true, if_false]
    exact ⟨none, 0, rfl, (front (hS.nilsl 5 1) 4 rfl rfl).pair⟩
  apply LR.call
  · exact rfl
  intro w1 h1
  refine CallsTo.mono (show CallsTo Try.prog 55 [.pointer (some ⟨b, 0, none⟩), x.val a c] w1 _ from g55 b g x a c w1 (h1.rd_of_blk memZ) (h1.rd_of memZ) hz hm hb hp) ?_
  rintro v w2 ⟨a1, c1, rfl, hn1⟩
  refine LR.back (h1.newSl hn1) ?_
  clear hn1 h1
  repeat'(first|(apply CW.reg_held (St w (gO 95 b g).foot [.own _ (.cells (x.cells a c).toArray 72 (0, 0))]))|refine kv' ?_|apply jJ|refine jE' ?_|refine jp' ?_|(apply jc;kernel_rfl)|refine kg' ?_|refine kG' ?_|refine kB' fun _=>?_|refine kA' fun _=>?_|refine kK' fun _=>?_|refine kU' ?_|((first|refine kR' ?_ ?_|refine kQ' ?_ ?_);all_goals(intro hc;try simp only[hcs]at hc;try(exfalso;first|contradiction|omega))))
  · (apply ret2c; (· exact rfl); (· exact inferInstance); (· exact rfl); (· (repeat (first | exact List.Mem.head _ | apply List.Mem.tail))); (· exact rfl); intro w' hS)
    have e : passB g x = false := by simp_all [passB]
    unfold passM passS
    simp only [e, Bool.false_eq_true, if_false]
    exact ⟨none, 0, rfl, (front (hS.nilsl 5 1) 6 rfl rfl).pair⟩
  · skip
    all_goals (
      apply DW.quiet [0, 1, 2, 3, 4, 5]
      · decide +kernel
      · first | exact fun _ h => h | exact fun _ h => St.sub h subZ
      repeat'(first|refine yv' ?_|refine uv' ?_|refine un' ?_|(refine us' ?_ ?_;all_goals(intro hc;try simp only[hcs]at hc;try(exfalso;first|contradiction|omega)))|apply QL.nil)
      all_goals (show DW _ _ _ _ _ _ _ _))
    all_goals (
      apply DW.loud 6
      · exact rfl
      · decide +kernel
      repeat'(first|refine kg' ?_|refine kG' ?_|apply kM|refine kv' ?_|refine kK' fun _=>?_|refine kU' ?_|refine kB' fun _=>?_|refine kA' fun _=>?_)
      all_goals (refine At.stage_same (fun _ h => St.sub h subZ) ?_))
    all_goals (
      apply DW.quiet [7, 8]
      · decide +kernel
      · first | exact fun _ h => h | exact fun _ h => St.sub h subZ
      repeat'(first|refine yv' ?_|refine uv' ?_|refine un' ?_|(refine us' ?_ ?_;all_goals(intro hc;try simp only[hcs]at hc;try(exfalso;first|contradiction|omega)))|apply QL.nil)
      all_goals (show DW _ _ _ _ _ _ _ _))
    all_goals (
      apply DW.loud 9
      · exact rfl
      · decide +kernel
      repeat'(first|refine kg' ?_|refine kG' ?_|apply kM|refine kv' ?_|refine kK' fun _=>?_|refine kU' ?_|refine kB' fun _=>?_|refine kA' fun _=>?_)
      all_goals (refine At.stage_same (fun _ h => St.sub h subZ) ?_))
    all_goals (first | (apply DW.done_thn; (· decide +kernel)) | (apply DW.done; (· decide +kernel)))
    repeat'(first|refine kv' ?_|apply jJ|refine jE' ?_|refine jp' ?_|(apply jc;kernel_rfl)|refine kg' ?_|refine kG' ?_|refine kB' fun _=>?_|refine kA' fun _=>?_|refine kK' fun _=>?_|refine kU' ?_|((first|refine kR' ?_ ?_|refine kQ' ?_ ?_);all_goals(intro hc;try simp only[hcs]at hc;try(exfalso;first|contradiction|omega))))
    (apply ret2c; (· exact rfl); (· exact inferInstance); (· exact rfl); (· (repeat (first | exact List.Mem.head _ | apply List.Mem.tail))); (· exact rfl); intro w' hS)
    have e : passB g x = true := by simp_all [passB]
    unfold passM passS
    simp only [e, if_true]
    exact ⟨a1, c1, rfl, (front (front hS 1 rfl rfl) 5 rfl rfl).pair⟩
end Go.Proofs.Ytphcnaafhcfakaa

namespace Go.Proofs.Ytphcnaafhcfakaa
open Go.Hb
attribute [local irreducible] LR CW At Ev thn blk finK noG again CallsTo DW QL dnext TW
set_option maxRecDepth 100000

def kK (n : Int) : Ky := ⟨n, 0, 0, 0⟩
def atI (n : Int) : Itm := ⟨kK n, ⟨1, 1, 1, 0, 0, 1, 1, false, 0, 0, 0, 0, []⟩, ⟨0, 0, 0, 0⟩⟩
theorem g35 (n : Int) (w : World) : CallsTo Try.prog 35 [.int .i64 n] w fun v w' => v = (kK n).val ∧ Grew w w' := by
  refine go_in (n := 5) (St.refl _ NoF) Try.func35 rfl rfl ?_
  repeat'(first|refine kv' ?_|apply jJ|refine jE' ?_|refine jp' ?_|(apply jc;kernel_rfl)|refine kg' ?_|refine kG' ?_|refine kB' fun _=>?_|refine kA' fun _=>?_|refine kK' fun _=>?_|refine kU' ?_|((first|refine kR' ?_ ?_|refine kQ' ?_ ?_);all_goals(intro hc;try simp only[hcs]at hc;try(exfalso;first|contradiction|omega))))
  (apply ret1c; (· exact rfl); (· exact inferInstance); (· exact rfl); (· (repeat (first | exact List.Mem.head _ | apply List.Mem.tail))); (· exact rfl); intro w' hS)
  exact ⟨rfl, hS.toKeep⟩
theorem g33 (n : Int) (w : World) : CallsTo Try.prog 33 [.int .i64 n] w fun v w' => v = (atI n).val none 0 ∧ Grew w w' := by
  refine go_in (n := 7) (St.refl _ NoF) Try.func33 rfl rfl ?_
  repeat'(first|refine kv' ?_|apply jJ|refine jE' ?_|refine jp' ?_|(apply jc;kernel_rfl)|refine kg' ?_|refine kG' ?_|refine kB' fun _=>?_|refine kA' fun _=>?_|refine kK' fun _=>?_|refine kU' ?_|((first|refine kR' ?_ ?_|refine kQ' ?_ ?_);all_goals(intro hc;try simp only[hcs]at hc;try(exfalso;first|contradiction|omega))))
  (apply ret1c; (· exact rfl); (· exact inferInstance); (· exact rfl); (· (repeat (first | exact List.Mem.head _ | apply List.Mem.tail))); (· exact rfl); intro w' hS)
  exact ⟨rfl, hS.toKeep⟩
def G1 : Gt := ⟨4, kK 5, zeroK, zeroK⟩
def G2 : Gt := ⟨4, kK 5, kK 8, zeroK⟩
def G3 : Gt := ⟨4, kK 5, kK 8, kK 8⟩
def G4 : Gt := ⟨4, kK 9, kK 8, kK 8⟩
theorem e1 : passM (newG 4) (atI 5) = ⟨1, 1, 1, 0, 0, 1, 1, false, 5, 0, 0, 0, []⟩ ∧ passB (newG 4) (atI 5) = true ∧ passS (newG 4) (atI 5) = G1 := ⟨by kernel_rfl, by kernel_rfl, by kernel_rfl⟩
theorem e2 : passM G1 (atI 5) = zeroMsg ∧ passB G1 (atI 5) = false ∧ passS G1 (atI 5) = G1 := ⟨by kernel_rfl, by kernel_rfl, by kernel_rfl⟩
theorem e3 : askK G1 (kK 6) = zeroK ∧ askB G1 (kK 6) = false ∧ askS G1 (kK 6) = G1 := ⟨by kernel_rfl, by kernel_rfl, by kernel_rfl⟩
theorem e4 : wantS G1 (kK 8) = G2 := by kernel_rfl
theorem e5 : askK G2 (kK 6) = kK 8 ∧ askB G2 (kK 6) = true ∧ askS G2 (kK 6) = G3 := ⟨by kernel_rfl, by kernel_rfl, by kernel_rfl⟩
theorem e6 : markM G3 (kK 7) = zeroMsg ∧ markB G3 (kK 7) = false ∧ markS G3 (kK 7) = G3 := ⟨by kernel_rfl, by kernel_rfl, by kernel_rfl⟩
theorem e7 : markM G3 (kK 9) = ⟨2, 4, 0, 0, 0, 0, 0, false, 9, 0, 0, 0, []⟩ ∧ markB G3 (kK 9) = true ∧ markS G3 (kK 9) = G4 := ⟨by kernel_rfl, by kernel_rfl, by kernel_rfl⟩
theorem nofoot {b : Nat} : ∀ y, rdFoot none (bv []) y → y ≠ b := fun y h => absurd rfl h.1

set_option maxHeartbeats 4000000 in
theorem g30 (w : World) : CallsTo Try.prog 30 [] w fun v w' => v = .bool true ∧ Grew w w' := by
  refine go_in (n := 116) (St.refl _ NoF) Try.func30 rfl rfl ?_
  repeat'(first|refine kv' ?_|apply jJ|refine jE' ?_|refine jp' ?_|(apply jc;kernel_rfl)|refine kg' ?_|refine kG' ?_|refine kB' fun _=>?_|refine kA' fun _=>?_|refine kK' fun _=>?_|refine kU' ?_|((first|refine kR' ?_ ?_|refine kQ' ?_ ?_);all_goals(intro hc;try simp only[hcs]at hc;try(exfalso;first|contradiction|omega))))
  apply LR.call
  · exact rfl
  intro w1 h1
  have hh := g31 4 w1 (by decide)
  skip
  refine CallsTo.mono hh ?_
  clear hh
  rintro v w2 ⟨b, rfl, hn⟩
  have h2 := h1.got hn (Asrt.dep_own _ _)
  refine LR.back h2 ?_
  clear h2 h1
  repeat'(first|refine kv' ?_|apply jJ|refine jE' ?_|refine jp' ?_|(apply jc;kernel_rfl)|refine kg' ?_|refine kG' ?_|refine kB' fun _=>?_|refine kA' fun _=>?_|refine kK' fun _=>?_|refine kU' ?_|(apply kq;(·exact rfl);(·intro w1 h1;exact CallsTo.q (g33 _ w1) h1))|((first|refine kR' ?_ ?_|refine kQ' ?_ ?_);all_goals(intro hc;try simp only[hcs]at hc;try(exfalso;first|contradiction|omega))))
  apply LR.call
  · exact rfl
  intro w1 h1
  have hh := g32 b (newG 4) (atI 5) none 0 w1 (h1.own_at memZ) (by decide) (Rd.nil _ _) nofoot (fun _ => rfl) (by simp [atI]) (by simp [atI, Byt]) (by simp [atI, plcI, i64])
  rw [e1.1, e1.2.1, e1.2.2] at hh
  refine CallsTo.mono hh ?_
  clear hh
  rintro v w2 ⟨a1, c1, rfl, st⟩
  have h2 := h1.two st rfl rfl rfl selZ
  refine LR.back h2 ?_
  clear h2 h1
  repeat'(first|refine kv' ?_|apply jJ|refine jE' ?_|refine jp' ?_|(apply jc;kernel_rfl)|refine kg' ?_|refine kG' ?_|refine kB' fun _=>?_|refine kA' fun _=>?_|refine kK' fun _=>?_|refine kU' ?_|(apply kq;(·exact rfl);(·intro w1 h1;exact CallsTo.q (g33 _ w1) h1))|((first|refine kR' ?_ ?_|refine kQ' ?_ ?_);all_goals(intro hc;try simp only[hcs]at hc;try(exfalso;first|contradiction|omega))))
  apply LR.call
  · exact rfl
  intro w1 h1
  have hh := g32 b G1 (atI 5) none 0 w1 (h1.own_at memZ) (by decide) (Rd.nil _ _) nofoot (fun _ => rfl) (by simp [atI]) (by simp [atI, Byt]) (by simp [atI, plcI, i64])
  rw [e2.1, e2.2.1, e2.2.2] at hh
  refine CallsTo.mono hh ?_
  clear hh
  rintro v w2 ⟨a2, c2, rfl, st⟩
  have h2 := h1.two st rfl rfl rfl selZ
  refine LR.back h2 ?_
  clear h2 h1
  repeat'(first|refine kv' ?_|apply jJ|refine jE' ?_|refine jp' ?_|(apply jc;kernel_rfl)|refine kg' ?_|refine kG' ?_|refine kB' fun _=>?_|refine kA' fun _=>?_|refine kK' fun _=>?_|refine kU' ?_|(apply kq;(·exact rfl);(·intro w1 h1;exact CallsTo.q (g35 _ w1) h1))|((first|refine kR' ?_ ?_|refine kQ' ?_ ?_);all_goals(intro hc;try simp only[hcs]at hc;try(exfalso;first|contradiction|omega))))
  apply LR.call
  · exact rfl
  intro w1 h1
  have hh := g36 b G1 (kK 6) w1 (h1.own_at memZ)
  rw [e3.1, e3.2.1, e3.2.2] at hh
  refine CallsTo.mono hh ?_
  clear hh
  rintro v w2 ⟨rfl, st⟩
  have h2 := h1.one' st rfl (Asrt.dep_own _ _) selZ
  refine LR.back h2 ?_
  clear h2 h1
  repeat'(first|refine kv' ?_|apply jJ|refine jE' ?_|refine jp' ?_|(apply jc;kernel_rfl)|refine kg' ?_|refine kG' ?_|refine kB' fun _=>?_|refine kA' fun _=>?_|refine kK' fun _=>?_|refine kU' ?_|(apply kq;(·exact rfl);(·intro w1 h1;exact CallsTo.q (g35 _ w1) h1))|((first|refine kR' ?_ ?_|refine kQ' ?_ ?_);all_goals(intro hc;try simp only[hcs]at hc;try(exfalso;first|contradiction|omega))))
  apply LR.call
  · exact rfl
  intro w1 h1
  have hh := g34 b G1 (kK 8) w1 (h1.own_at memZ) (by decide)
  rw [e4] at hh
  refine CallsTo.mono hh ?_
  clear hh
  rintro v w2 st
  have h2 := h1.one' st rfl (Asrt.dep_own _ _) selZ
  refine LR.back h2 ?_
  clear h2 h1
  repeat'(first|refine kv' ?_|apply jJ|refine jE' ?_|refine jp' ?_|(apply jc;kernel_rfl)|refine kg' ?_|refine kG' ?_|refine kB' fun _=>?_|refine kA' fun _=>?_|refine kK' fun _=>?_|refine kU' ?_|(apply kq;(·exact rfl);(·intro w1 h1;exact CallsTo.q (g35 _ w1) h1))|((first|refine kR' ?_ ?_|refine kQ' ?_ ?_);all_goals(intro hc;try simp only[hcs]at hc;try(exfalso;first|contradiction|omega))))
  apply LR.call
  · exact rfl
  intro w1 h1
  have hh := g36 b G2 (kK 6) w1 (h1.own_at memZ)
  rw [e5.1, e5.2.1, e5.2.2] at hh
  refine CallsTo.mono hh ?_
  clear hh
  rintro v w2 ⟨rfl, st⟩
  have h2 := h1.one' st rfl (Asrt.dep_own _ _) selZ
  refine LR.back h2 ?_
  clear h2 h1
  repeat'(first|refine kv' ?_|apply jJ|refine jE' ?_|refine jp' ?_|(apply jc;kernel_rfl)|refine kg' ?_|refine kG' ?_|refine kB' fun _=>?_|refine kA' fun _=>?_|refine kK' fun _=>?_|refine kU' ?_|(apply kq;(·exact rfl);(·intro w1 h1;exact CallsTo.q (g35 _ w1) h1))|((first|refine kR' ?_ ?_|refine kQ' ?_ ?_);all_goals(intro hc;try simp only[hcs]at hc;try(exfalso;first|contradiction|omega))))
  apply LR.call
  · exact rfl
  intro w1 h1
  have hh := g37 b G3 (kK 7) w1 (h1.own_at memZ)
  rw [e6.1, e6.2.1, e6.2.2] at hh
  refine CallsTo.mono hh ?_
  clear hh
  rintro v w2 ⟨rfl, st⟩
  have h2 := h1.one' st rfl (Asrt.dep_own _ _) selZ
  refine LR.back h2 ?_
  clear h2 h1
  repeat'(first|refine kv' ?_|apply jJ|refine jE' ?_|refine jp' ?_|(apply jc;kernel_rfl)|refine kg' ?_|refine kG' ?_|refine kB' fun _=>?_|refine kA' fun _=>?_|refine kK' fun _=>?_|refine kU' ?_|(apply kq;(·exact rfl);(·intro w1 h1;exact CallsTo.q (g35 _ w1) h1))|((first|refine kR' ?_ ?_|refine kQ' ?_ ?_);all_goals(intro hc;try simp only[hcs]at hc;try(exfalso;first|contradiction|omega))))
  apply LR.call
  · exact rfl
  intro w1 h1
  have hh := g37 b G3 (kK 9) w1 (h1.own_at memZ)
  rw [e7.1, e7.2.1, e7.2.2] at hh
  refine CallsTo.mono hh ?_
  clear hh
  rintro v w2 ⟨rfl, st⟩
  have h2 := h1.one' st rfl (Asrt.dep_own _ _) selZ
  refine LR.back h2 ?_
  clear h2 h1
  repeat'(first|(apply CW.reg_heldC)|refine kv' ?_|apply jJ|refine jE' ?_|refine jp' ?_|(apply jc;kernel_rfl)|refine kg' ?_|refine kG' ?_|refine kB' fun _=>?_|refine kA' fun _=>?_|refine kK' fun _=>?_|refine kU' ?_|((first|refine kR' ?_ ?_|refine kQ' ?_ ?_);all_goals(intro hc;try simp only[hcs]at hc;try(exfalso;first|contradiction|omega))))
  all_goals (
    apply DW.quiet [0, 1, 2, 3, 4, 5, 6, 7, 8, 9, 10, 11, 12, 13, 14, 15, 16, 17, 18, 19, 20, 21]
    · decide +kernel
    · first | exact fun _ h => h | exact fun _ h => St.sub h subZ
    repeat'(first|refine yv' ?_|refine uv' ?_|refine un' ?_|(refine us' ?_ ?_;all_goals(intro hc;try simp only[hcs]at hc;try(exfalso;first|contradiction|omega)))|apply QL.nil)
    all_goals (show DW _ _ _ _ _ _ _ _))
  all_goals (
    apply DW.loud 22
    · exact rfl
    · decide +kernel
    repeat'(first|refine kg' ?_|refine kG' ?_|apply kM|refine kv' ?_|refine kK' fun _=>?_|refine kU' ?_|refine kB' fun _=>?_|refine kA' fun _=>?_|(apply kq;(·exact rfl);(·intro w1 h1;exact CallsTo.q (g35 _ w1) h1))|(apply kq; (· exact rfl); (· intro w1 h1; exact CallsTo.q (g45 b G4 w1 (h1.rd_of_blk memZ) (by decide)) h1)))
    all_goals (refine At.stage_same (fun _ h => St.sub h subZ) ?_))
  all_goals (
    apply DW.quiet [23, 24, 25, 26]
    · decide +kernel
    · first | exact fun _ h => h | exact fun _ h => St.sub h subZ
    repeat'(first|refine yv' ?_|refine uv' ?_|refine un' ?_|(refine us' ?_ ?_;all_goals(intro hc;try simp only[hcs]at hc;try(exfalso;first|contradiction|omega)))|apply QL.nil)
    all_goals (show DW _ _ _ _ _ _ _ _))
  all_goals (
    apply DW.loud 27
    · exact rfl
    · decide +kernel
    repeat'(first|refine kg' ?_|refine kG' ?_|apply kM|refine kv' ?_|refine kK' fun _=>?_|refine kU' ?_|refine kB' fun _=>?_|refine kA' fun _=>?_|(apply kq;(·exact rfl);(·intro w1 h1;exact CallsTo.q (g35 _ w1) h1))|(apply kq; (· exact rfl); (· intro w1 h1; exact CallsTo.q (g45 b G4 w1 (h1.rd_of_blk memZ) (by decide)) h1)))
    all_goals (refine At.stage_same (fun _ h => St.sub h subZ) ?_))
  all_goals (
    apply DW.quiet [28, 29, 30, 31, 32, 33, 34, 35, 36, 37]
    · decide +kernel
    · first | exact fun _ h => h | exact fun _ h => St.sub h subZ
    repeat'(first|refine yv' ?_|refine uv' ?_|refine un' ?_|(refine us' ?_ ?_;all_goals(intro hc;try simp only[hcs]at hc;try(exfalso;first|contradiction|omega)))|apply QL.nil)
    all_goals (show DW _ _ _ _ _ _ _ _))
  all_goals (
    apply DW.loud 38
    · exact rfl
    · decide +kernel
    repeat'(first|refine kg' ?_|refine kG' ?_|apply kM|refine kv' ?_|refine kK' fun _=>?_|refine kU' ?_|refine kB' fun _=>?_|refine kA' fun _=>?_|(apply kq;(·exact rfl);(·intro w1 h1;exact CallsTo.q (g35 _ w1) h1))|(apply kq; (· exact rfl); (· intro w1 h1; exact CallsTo.q (g45 b G4 w1 (h1.rd_of_blk memZ) (by decide)) h1)))
    all_goals (refine At.stage_same (fun _ h => St.sub h subZ) ?_))
  all_goals (
    apply DW.quiet [39, 40, 41, 42, 43, 44, 45, 46, 47]
    · decide +kernel
    · first | exact fun _ h => h | exact fun _ h => St.sub h subZ
    repeat'(first|refine yv' ?_|refine uv' ?_|refine un' ?_|(refine us' ?_ ?_;all_goals(intro hc;try simp only[hcs]at hc;try(exfalso;first|contradiction|omega)))|apply QL.nil)
    all_goals (show DW _ _ _ _ _ _ _ _))
  all_goals (
    apply DW.loud 48
    · exact rfl
    · decide +kernel
    repeat'(first|refine kg' ?_|refine kG' ?_|apply kM|refine kv' ?_|refine kK' fun _=>?_|refine kU' ?_|refine kB' fun _=>?_|refine kA' fun _=>?_|(apply kq;(·exact rfl);(·intro w1 h1;exact CallsTo.q (g35 _ w1) h1))|(apply kq; (· exact rfl); (· intro w1 h1; exact CallsTo.q (g45 b G4 w1 (h1.rd_of_blk memZ) (by decide)) h1)))
    all_goals (refine At.stage_same (fun _ h => St.sub h subZ) ?_))
  all_goals (
    apply DW.loud 49
    · exact rfl
    · decide +kernel
    repeat'(first|refine kg' ?_|refine kG' ?_|apply kM|refine kv' ?_|refine kK' fun _=>?_|refine kU' ?_|refine kB' fun _=>?_|refine kA' fun _=>?_|(apply kq;(·exact rfl);(·intro w1 h1;exact CallsTo.q (g35 _ w1) h1))|(apply kq; (· exact rfl); (· intro w1 h1; exact CallsTo.q (g45 b G4 w1 (h1.rd_of_blk memZ) (by decide)) h1)))
    all_goals (refine At.stage_same (fun _ h => St.sub h subZ) ?_))
  all_goals (
    apply DW.quiet [50, 51, 52]
    · decide +kernel
    · first | exact fun _ h => h | exact fun _ h => St.sub h subZ
    repeat'(first|refine yv' ?_|refine uv' ?_|refine un' ?_|(refine us' ?_ ?_;all_goals(intro hc;try simp only[hcs]at hc;try(exfalso;first|contradiction|omega)))|apply QL.nil)
    all_goals (show DW _ _ _ _ _ _ _ _))
  all_goals (first | (apply DW.done_thn; (· decide +kernel)) | (apply DW.done; (· decide +kernel)))
  repeat'(first|refine kv' ?_|apply jJ|refine jE' ?_|refine jp' ?_|(apply jc;kernel_rfl)|refine kg' ?_|refine kG' ?_|refine kB' fun _=>?_|refine kA' fun _=>?_|refine kK' fun _=>?_|refine kU' ?_|((first|refine kR' ?_ ?_|refine kQ' ?_ ?_);all_goals(intro hc;try simp only[hcs]at hc;try(exfalso;first|contradiction|omega))))
  (apply ret1; (· exact rfl); intro w' hS)
  exact ⟨rfl, hS.toKeep⟩
end Go.Proofs.Ytphcnaafhcfakaa

namespace Go.Proofs.Ytphcnaafhcfakaa
open Go.Hb
attribute [local irreducible] LR CW At Ev thn blk finK noG again CallsTo DW QL dnext
set_option maxRecDepth 100000

def bring (i n : Int) : Int := if n ≤ 0 then 0 else if i.tmod n < 0 then i.tmod n + n else i.tmod n
theorem tmod_bd (i n : Int) (h : 0 < n) : -n < i.tmod n ∧ i.tmod n < n := by
  have h1 := Int.tmod_lt_of_pos i h
  have h2 := Int.tmod_lt_of_pos (-i) h
  rw [Int.neg_tmod] at h2
  omega
theorem bring_bd (i n : Int) (h : 0 < n) : 0 ≤ bring i n ∧ bring i n < n := by
  have := tmod_bd i n h
  unfold bring; rw [if_neg (by omega)]; split <;> omega
theorem c31 (i n : Int) (w : World) (hn : n ≤ 9223372036854775807) : CallsTo Try.prog 26 [.int .i64 i, .int .i64 n] w fun v w' => v = .int .i64 (bring i n) ∧ Grew w w' := by
  refine go_in (n := 16) (St.refl _ NoF) Try.func26 rfl rfl ?_
  by_cases h : n ≤ 0
  · repeat'(first|refine kv' ?_|apply jJ|refine jE' ?_|refine jp' ?_|(apply jc;kernel_rfl)|refine kg' ?_|refine kG' ?_|refine kB' fun _=>?_|refine kA' fun _=>?_|refine kK' fun _=>?_|refine kU' ?_|((first|refine kR' ?_ ?_|refine kQ' ?_ ?_);all_goals(intro hc;try simp only[hcs]at hc;try(exfalso;first|contradiction|omega))))
    (apply ret1; (· exact rfl); intro w' hS)
    exact ⟨congrArg (Value.int .i64) (by unfold bring; rw [if_pos h]), hS⟩
  · have hb := tmod_bd i n (by omega)
    repeat'(first|refine kv' ?_|apply jJ|refine jE' ?_|refine jp' ?_|(apply jc;kernel_rfl)|refine kg' ?_|refine kG' ?_|refine kB' fun _=>?_|refine kA' fun _=>?_|refine kK' fun _=>?_|refine kU' ?_|(apply LR.ev; (· apply Ev.rem; (· exact rfl); (· exact rfl); (· first | decide | omega)); (· exact rfl))|(apply addX;(iterate 2 exact rfl);(iterate 2(first|omega|(dsimp only;omega)));exact rfl)|((first|refine kR' ?_ ?_|refine kQ' ?_ ?_);all_goals(intro hc;try simp only[hcs]at hc;try(exfalso;first|contradiction|omega))))
    all_goals (
      (apply ret1; (· exact rfl); intro w' hS)
      refine ⟨congrArg (Value.int .i64) ?_, hS⟩
      unfold bring; rw [if_neg h]
      first | rw [if_pos (by omega)] | rw [if_neg (by omega)])

structure Dat where
  rseq : Int
  rrep : Int
  seq : Int
  sender : Int
  stamp : Int
  msg : Msg
def Dat.cells (d : Dat) (a : Option Addr) (c : Nat) : List Value := .int .i64 d.rseq :: .int .i64 d.rrep :: .int .i64 d.seq :: .int .i64 d.sender :: .int .i64 d.stamp :: d.msg.cells a c
def Dat.val (d : Dat) (a : Option Addr) (c : Nat) : Value := .agg (d.cells a c).toArray
def mayOld (d : Dat) : Bool := decide (¬ (d.rseq = 0 ∧ d.rrep = 0) ∧ ringE d.rseq d.rrep = 0 ∧ 1 ≤ d.seq ∧ d.seq ≤ 9007199254740991 ∧ 1 ≤ d.sender ∧ d.sender ≤ 8 ∧ 0 ≤ d.stamp ∧ d.stamp ≤ 9007199254740991)
def oldM (d : Dat) : Msg := ⟨5, d.sender, 0, d.sender, 0, 0, 0, false, d.stamp, d.rseq, d.rrep, d.seq, bytesM d.msg⟩
def old (d : Dat) : Msg × Int := if mayOld d = true ∧ check d.msg = 0 ∧ d.msg.kind ≠ 5 then (oldM d, 0) else (zeroMsg, 2)
end Go.Proofs.Ytphcnaafhcfakaa

namespace Go.Proofs.Ytphcnaafhcfakaa
open Go.Hb Go.ChangeShapes Go.WideShapes
attribute [local irreducible] LR CW At Ev thn blk finK noG again CallsTo DW QL dnext TW
set_option maxRecDepth 100000

theorem encF_lenle : ∀ (k m y : Nat), y < 128 ^ (k + 1) → (encF m y).length ≤ k + 1
  | k, 0, y, _ => by simp [encF]
  | 0, m + 1, y, h => by rw [encF_small _ _ (by omega)]; simp
  | k + 1, m + 1, y, h => by
    rw [encF]
    split
    · simp
    · have := encF_lenle k m (y / 128) (by rw [Nat.pow_succ] at h; omega)
      simp; omega
theorem enc_len1 {x : Nat} (h : x < 128) : (enc x).length ≤ 1 := encF_lenle 0 8 x (by omega)
theorem enc_len2 {x : Nat} (h : x < 16384) : (enc x).length ≤ 2 := encF_lenle 1 8 x (by omega)
theorem enc_len8 {x : Nat} (h : x ≤ 9007199254740991) : (enc x).length ≤ 8 := by
  have h8 : (128 : Nat) ^ 8 = 72057594037927936 := by decide
  exact encF_lenle 7 8 x (by omega)
theorem plcs_room {ps : List Plc} (h : ∀ p ∈ ps, plcB p = true) : (ps.flatMap fun p => encs (plcNums p)).length ≤ 12 * ps.length := by
  induction ps with
  | nil => simp
  | cons p r ih =>
    have ih := ih fun q hq => h q (List.mem_cons_of_mem _ hq)
    have hp := h p List.mem_cons_self
    unfold plcB at hp
    simp only [decide_eq_true_eq] at hp
    have e1 : (enc p.ring.toNat).length ≤ 1 := enc_len1 (by omega)
    have e2 : (enc p.seq.toNat).length ≤ 8 := enc_len8 (by omega)
    have e3 : (enc p.rep.toNat).length ≤ 1 := enc_len1 (by omega)
    have e4 : (enc p.members.toNat).length ≤ 2 := enc_len2 (by omega)
    simp only [List.flatMap_cons, List.length_append, encs, plcNums, List.flatMap_nil, List.append_nil, List.length_cons] at ih ⊢
    omega
end Go.Proofs.Ytphcnaafhcfakaa

namespace Go.Proofs.Ytphcnaafhcfakaa
open Go.Hb Go.ChangeShapes Go.WideShapes
attribute [local irreducible] LR CW At Ev thn blk finK noG again CallsTo DW QL dnext TW
set_option maxRecDepth 100000

end Go.Proofs.Ytphcnaafhcfakaa

namespace Go.Proofs.Ytphcnaafhcfakaa
open Go.Hb Go.ChangeShapes Go.WideShapes
attribute [local irreducible] LR CW At Ev thn blk finK noG again CallsTo DW QL dnext TW
set_option maxRecDepth 100000

structure Doo where
  kind : Int
  x : Itm
  ps : List Plc
def Doo.cells (d : Doo) (a : Option Addr) (c : Nat) (ak : Option Addr) (ck : Nat) : List Value := [.int .i64 d.kind, .int .i64 d.x.k.t, .int .i64 d.x.k.s, .int .i64 d.x.k.r, .int .i64 d.x.k.q, .int .i64 d.x.m.kind, .int .i64 d.x.m.origin, .int .i64 d.x.m.life, .int .i64 d.x.m.id, .int .i64 d.x.m.part, .int .i64 d.x.m.parts, .int .i64 d.x.m.groups, .bool d.x.m.safe, .int .i64 d.x.m.stamp, .int .i64 d.x.m.rseq, .int .i64 d.x.m.rrep, .int .i64 d.x.m.kseq, .slice a d.x.m.body.length c, .int .i64 d.x.p.ring, .int .i64 d.x.p.seq, .int .i64 d.x.p.rep, .int .i64 d.x.p.members, .slice ak d.ps.length ck]
def Doo.val (d : Doo) (a : Option Addr) (c : Nat) (ak : Option Addr) (ck : Nat) : Value := .agg (d.cells a c ak ck).toArray
theorem g41 (d : Doo) (a : Option Addr) (c : Nat) (ak : Option Addr) (ck : Nat) (w : World) : CallsTo Try.prog 41 [d.val a c ak ck] w fun v w' => v = .int .i64 (bring d.kind 6) ∧ Grew w w' := by
  refine go_in (n := 12) (St.refl _ NoF) Try.func41 rfl rfl ?_
  have hb := tmod_bd d.kind 6 (by omega)
  repeat'(first|refine kv' ?_|apply jJ|refine jE' ?_|refine jp' ?_|(apply jc;kernel_rfl)|refine kg' ?_|refine kG' ?_|refine kB' fun _=>?_|refine kA' fun _=>?_|refine kK' fun _=>?_|refine kU' ?_|(apply LR.ev; (· apply Ev.rem; (· exact rfl); (· exact rfl); (· first | decide | omega)); (· exact rfl))|(apply addX;(iterate 2 exact rfl);(iterate 2(first|omega|(dsimp only;omega)));exact rfl)|((first|refine kR' ?_ ?_|refine kQ' ?_ ?_);all_goals(intro hc;try simp only[hcs]at hc;try(exfalso;first|contradiction|omega))))
  all_goals (
    (apply ret1; (· exact rfl); intro w' hS)
    refine ⟨congrArg (Value.int .i64) ?_, hS.toKeep⟩
    unfold bring; rw [if_neg (by omega)]
    first | rw [if_pos (by omega)] | rw [if_neg (by omega)])
end Go.Proofs.Ytphcnaafhcfakaa

namespace Go.Hb
section
variable {α : Type} {f : α → List Value} {n : Nat}
theorem rows_get (hf : ∀ x, (f x).length = n) : ∀ (l : List α) (i j : Nat) (v : Value) (h : i < l.length), (f l[i])[j]? = some v → (l.flatMap f)[i * n + j]? = some v
  | x :: r, 0, j, v, h, hj => by
    have hlt : j < (f x).length := (List.getElem?_eq_some_iff.1 hj).1
    rw [List.flatMap_cons, Nat.zero_mul, Nat.zero_add, List.getElem?_append_left hlt]
    exact hj
  | x :: r, i + 1, j, v, h, hj => by
    have ih := rows_get hf r i j v (by simpa using h) hj
    rw [List.flatMap_cons, List.getElem?_append_right (by rw [hf]; rw [Nat.add_mul]; omega), hf, show (i + 1) * n + j - n = i * n + j by rw [Nat.add_mul]; omega]
    exact ih
theorem rows_len (hf : ∀ x, (f x).length = n) : ∀ (l : List α), (l.flatMap f).length = l.length * n
  | [] => by simp
  | x :: r => by rw [List.flatMap_cons, List.length_append, hf, rows_len hf r, List.length_cons, Nat.add_mul]; omega
theorem rd_row (hf : ∀ x, (f x).length = n) {w : World} {b o : Nat} {l : List α} (h : Rd w (some ⟨b, o, none⟩) (l.flatMap f)) {i q : Nat} (hi : i < l.length) (hq : q = i * n) : ∀ j v, (f l[i])[j]? = some v → w.cell? ((⟨b, o + q, none⟩ : Addr).add j) = some v := by
  intro j v hj
  subst hq
  rw [addr_add, Nat.add_assoc]
  exact h.cell (rows_get hf l i j v hi hj)
theorem row_cell (hf : ∀ x, (f x).length = n) {w : World} {b o q i : Nat} {l : List α} {v : Value} (h : Rd w (some ⟨b, o, none⟩) (l.flatMap f)) (hi : i < l.length) (j : Nat) (hj : (f l[i])[j]? = some v) (hq : q = o + i * n + j) : w.cell? ⟨b, q, none⟩ = some v := by
  subst hq
  rw [Nat.add_assoc]
  exact h.cell (rows_get hf l i j v hi hj)
theorem rows_ne (hf : ∀ x, (f x).length = n) (hn : 0 < n) {l : List α} {i : Nat} (h : i < l.length) : l.flatMap f ≠ [] := fun e => by
  have := rows_len hf l
  rw [e] at this
  have h2 : 1 * n ≤ l.length * n := Nat.mul_le_mul_right _ (by omega)
  simp only [List.length_nil] at this
  omega
end
section
variable {w0 w : World} {L : List Asrt} {x : Asrt} {a : Option Addr} {xs : List Value}
theorem St.oldRd (h : St w0 NoF L w) (hr : Rd w0 a xs) : Rd w a xs :=
  Rd.dep a xs w0 w (fun k hk => h.keep k (hr.live k hk) (fun hf => hf)) hr
theorem St.oldApart (h : St w0 NoF L w) (hx : x ∈ L) (he : x.excl = true) (hr : Rd w0 a xs) : ∀ y, rdFoot a xs y → ¬ x.foot y := fun y hy hf => h.mine x hx he y hf (hr.live y hy)
theorem DW.castL {P : Program} {n : Nat} {ops : List Oper} {Q : Post} {done : List Nat} {S : World → Prop} {f : Frm} {w0 : World} {F : Nat → Prop} {L L' : List Asrt} (e : L = L') (h : DW P n ops Q done S f (St w0 F L')) : DW P n ops Q done S f (St w0 F L) := e ▸ h
end
end Go.Hb

namespace Go.Proofs.Ytphcnaafhcfakaa
open Go.Hb Go.ChangeShapes Go.WideShapes
attribute [local irreducible] LR CW At Ev thn blk finK noG again CallsTo DW QL dnext TW
set_option maxRecDepth 100000

structure DooA where
  d : Doo
  a : Option Addr
  c : Nat
  ak : Option Addr
  ck : Nat
def DooA.row (x : DooA) : List Value := x.d.cells x.a x.c x.ak x.ck
theorem DooA.row_len (x : DooA) : x.row.length = 23 := rfl
structure DooR (w : World) (x : DooA) : Prop where
  hr : Rd w x.a (bv x.d.x.m.body)
  hz : x.a = none → x.c = 0
  hm : x.d.x.m.body.length ≤ 140737488351232
  hb : Byt x.d.x.m.body
  hp : plcI x.d.x.p
  hrk : Rd w x.ak (pcs x.d.ps)
  hmk : x.d.ps.length ≤ 281474976710656
  hik : plcsI x.d.ps
  hi : MsgI x.d.x.m ∧ i64 x.d.kind ∧ i64 x.d.x.k.t ∧ i64 x.d.x.k.s ∧ i64 x.d.x.k.r ∧ i64 x.d.x.k.q

end Go.Proofs.Ytphcnaafhcfakaa

namespace Go.Proofs.Ytphcnaafhcfakaa
open Go.Hb Go.ChangeShapes Go.WideShapes
attribute [local irreducible] LR CW At Ev thn blk finK noG again CallsTo DW QL dnext TW DP
set_option maxRecDepth 100000

theorem cmpI_pos {x y : Int} : 0 < cmpI x y ↔ y < x := by unfold cmpI; split <;> (try split) <;> omega
theorem keysI_pos (a b : Ky) : 0 < keysI a b ↔ b.t < a.t ∨ (a.t = b.t ∧ (b.s < a.s ∨ (a.s = b.s ∧ (b.r < a.r ∨ (a.r = b.r ∧ b.q < a.q))))) := by
  have h1 := @cmpI_pos a.t b.t
  have h2 := @cmpI_zero a.t b.t
  have h3 := @cmpI_pos a.s b.s
  have h4 := @cmpI_zero a.s b.s
  have h5 := @cmpI_pos a.r b.r
  have h6 := @cmpI_zero a.r b.r
  have h7 := @cmpI_pos a.q b.q
  have h8 := @cmpI_zero a.q b.q
  simp only [keysI, ringsI, orL]
  split <;> (try split) <;> (try split) <;> (try split) <;> omega
theorem mark_rises {g : Gt} {k : Ky} (h : markB g k = true) : 0 < keysI k g.p := by
  unfold markB owesB aboveB at h
  simp only [Bool.and_eq_true, Bool.not_eq_true', decide_eq_true_eq, decide_eq_false_iff_not, not_and, Int.not_lt] at h
  obtain ⟨⟨⟨h1, h2, h3⟩, h4⟩, h5⟩ := h
  have h5 := h5 h2
  have h6 : ¬ 0 < keysI g.w k := by omega
  rw [keysI_pos] at h3 h6 ⊢
  omega
theorem check_mark {g : Gt} {k : Ky} (hn : 1 ≤ g.node ∧ g.node ≤ 8) (h : markB g k = true) : check (markM g k) = 0 := by
  have hk : okK k := by unfold markB at h; simp only [Bool.and_eq_true, decide_eq_true_eq] at h; exact h.1.2
  unfold markM; rw [if_pos h]
  unfold okK at hk
  unfold check checkM
  rw [if_neg (by simp), if_pos ?_]
  unfold mayB kindB emptyB plainB
  simp [withinB_iff, hk, hn]
theorem chart_may {ps : List Plc} (h : (charts ps).2 = 0) : (charts ps).1.length ≤ 160 ∧ (places (charts ps).1).2 = 0 := by
  obtain ⟨h4, hb, hc⟩ := charts_ok h
  have he : (charts ps).1 = plcsBytes ps := congrArg Prod.fst hc
  have h2 := places_enc [] h
  rw [List.append_nil, if_neg (by simp)] at h2
  rw [he, h2]
  refine ⟨?_, rfl⟩
  have hr := plcs_room hb
  have hl : (enc ps.length).length ≤ 1 := enc_len1 (by omega)
  unfold plcsBytes
  simp only [List.length_append]
  omega
theorem check_chart {node : Int} {ps : List Plc} {k : Ky} (hn : 1 ≤ node ∧ node ≤ 8) (h : (charts ps).2 = 0) (hk : okK k) : check (fromM (chartM node (charts ps).1) k) = 0 := by
  obtain ⟨h1, h2⟩ := chart_may h
  unfold okK at hk
  unfold check checkM
  rw [if_neg (by show ¬ 160 < (charts ps).1.length; omega), if_pos ?_]
  unfold mayB kindB chartB plainB
  simp [withinB_iff, fromM, chartM, hk, hn, h2]
theorem okK_zero : okK zeroK := by show keyE 0 0 0 0 = 0; kernel_rfl
theorem check_chart0 {node : Int} {ps : List Plc} (hn : 1 ≤ node ∧ node ≤ 8) (h : (charts ps).2 = 0) : check (chartM node (charts ps).1) = 0 := check_chart (k := zeroK) hn h okK_zero
theorem check_from {m : Msg} {k : Ky} (h : check m = 0) (hk : okK k) (h5 : m.kind = 1 ∨ m.kind = 4) : check (fromM m k) = 0 := by
  obtain ⟨h1, h2⟩ := check_ok h
  unfold okK at hk
  unfold check checkM
  rw [if_neg (by show ¬ 160 < m.body.length; omega), if_pos ?_]
  unfold mayB kindB at h2 ⊢
  rcases h5 with h5 | h5
  · unfold textB at h2 ⊢
    simp only [h5, fromM, withinB_iff, Bool.and_eq_true, decide_eq_true_eq, if_true] at h2 ⊢
    exact ⟨⟨h2.1.1, hk⟩, h2.2⟩
  · unfold chartB plainB at h2 ⊢
    simp only [h5, fromM, withinB_iff, Bool.and_eq_true, decide_eq_true_eq, if_true] at h2 ⊢
    simp only [show ¬ ((4 : Int) = 1) by omega, show ¬ ((4 : Int) = 2) by omega, show ¬ ((4 : Int) = 3) by omega, if_false, Bool.and_eq_true, decide_eq_true_eq] at h2 ⊢
    exact ⟨⟨h2.1.1, hk⟩, h2.2⟩
theorem pass_rises {g : Gt} {x : Itm} (h : passB g x = true) : 0 < keysI x.k g.p ∧ okK x.k := by
  unfold passB aboveB at h
  simp only [Bool.and_eq_true, decide_eq_true_eq] at h
  exact ⟨h.1.2, h.1.1⟩
theorem check_pass {g : Gt} {x : Itm} (hn : 1 ≤ g.node ∧ g.node ≤ 8) (h : passB g x = true) : check (passM g x) = 0 := by
  have hk := (pass_rises h).2
  unfold passM; rw [if_pos h]
  unfold passB itemB at h
  simp only [Bool.and_eq_true] at h
  unfold itemM
  by_cases h0 : x.m.kind = 0
  · rw [if_pos h0] at h ⊢
    exact check_chart hn (by simpa using h.2) hk
  · rw [if_neg h0] at h ⊢
    by_cases h1 : x.m.kind = 1 ∨ x.m.kind = 4
    · rw [if_pos h1] at h ⊢
      exact check_from (by simpa using h.2) hk h1
    · rw [if_neg h1] at h; simp at h
theorem check_begin {g : Gt} {k : Ky} {ps : List Plc} (hn : 1 ≤ g.node ∧ g.node ≤ 8) (h : beginB k ps = true) : check (beginM g k ps) = 0 := by
  unfold beginM; rw [if_pos h]
  unfold beginB at h
  simp only [decide_eq_true_eq] at h
  exact check_chart0 hn h.2
theorem charts_byt (ps : List Plc) : Byt (charts ps).1 := by
  by_cases h : (charts ps).2 = 0
  · obtain ⟨h4, hb, hc⟩ := charts_ok h
    have he : (charts ps).1 = plcsBytes ps := congrArg Prod.fst hc
    rw [he]
    unfold plcsBytes
    refine (enc_byt (by omega)).append ?_
    intro b hb'
    obtain ⟨p, hp, hb'⟩ := List.mem_flatMap.1 hb'
    exact encs_byt (plcNums_ok (hb p hp)) b hb'
  · have : (charts ps).1 = [] := by
      unfold charts at h ⊢
      split
      · rfl
      · rename_i h1; rw [if_neg h1] at h
        split
        · rfl
        · rename_i h2; rw [if_neg h2] at h
          split
          · rfl
          · rename_i h3; rw [if_neg h3] at h; exact absurd rfl h
    rw [this]
    intro b hb; simp at hb
theorem item_in_row (x : DooA) {j : Nat} {v : Value} (h : (x.d.x.cells x.a x.c)[j]? = some v) : x.row[1 + j]? = some v := by
  have hlt : j < 21 := (List.getElem?_eq_some_iff.1 h).1
  have e : x.row = .int .i64 x.d.kind :: (x.d.x.cells x.a x.c ++ [.slice x.ak x.d.ps.length x.ck]) := rfl
  rw [e, Nat.add_comm, List.getElem?_cons_succ, List.getElem?_append_left hlt]
  exact h

set_option maxHeartbeats 8000000 in
theorem g10 (node : Int) (al : Option Addr) (cl : Nat) (l : List DooA) (w : World) (hr : Rd w al (l.flatMap DooA.row)) (hR : ∀ x ∈ l, DooR w x) (hm : l.length ≤ 140737488351232) :
    CallsTo Try.prog 10 [.int .i64 node, .slice al l.length cl] w fun v w' => v = .bool true ∧ Grew w w' := by
  refine go_in (n := 136) (St.rd1 hr) Try.func10 rfl rfl ?_
  have hnb := bring_bd node 8 (by omega)
  repeat'(first|refine kv' ?_|apply jJ|refine jE' ?_|refine jp' ?_|(apply jc;kernel_rfl)|refine kg' ?_|refine kG' ?_|refine kB' fun _=>?_|refine kA' fun _=>?_|refine kK' fun _=>?_|refine kU' ?_|(apply kq; (· exact rfl); (· intro w1 h1; exact CallsTo.q (g30 w1) h1))|(apply kq; (· exact rfl); (· intro w1 h1; exact CallsTo.q (c31 _ _ w1 (by omega)) h1))|(apply addX;(iterate 2 exact rfl);(iterate 2(first|omega|(dsimp only;omega)));exact rfl)|((first|refine kR' ?_ ?_|refine kQ' ?_ ?_);all_goals(intro hc;try simp only[hcs]at hc;try(exfalso;first|contradiction|omega))))
  obtain ⟨nd, end_⟩ : ∃ nd, nd = 1 + bring node 8 := ⟨_, rfl⟩
  rw [← end_]
  have hnd : 1 ≤ nd ∧ nd ≤ 8 := by omega
  apply LR.call
  · exact rfl
  intro w1 h1
  have hh := g31 nd w1 hnd
  skip
  refine CallsTo.mono hh ?_
  clear hh
  rintro v w2 ⟨bg, rfl, hn⟩
  have h2 := h1.got hn (Asrt.dep_own _ _)
  refine LR.back h2 ?_
  clear h2 h1
  repeat'(first|refine kv' ?_|apply jJ|refine jE' ?_|refine jp' ?_|(apply jc;kernel_rfl)|refine kg' ?_|refine kG' ?_|refine kB' fun _=>?_|refine kA' fun _=>?_|refine kK' fun _=>?_|refine kU' ?_|((first|refine kR' ?_ ?_|refine kQ' ?_ ?_);all_goals(intro hc;try simp only[hcs]at hc;try(exfalso;first|contradiction|omega))))
  rename_i bl
  apply CW.loop [4, 8, 9, 10, 11, 12, 13, 25, 26, 27, 28, 29, 30, 31, 32, 33, 34, 35, 36, 37, 38, 39, 40, 41, 42, 43, 44, 45, 46, 47, 48, 49, 50, 51, 52, 53, 54, 55, 56, 57, 58, 59, 60, 61, 62, 63, 64, 65, 66, 67, 68, 69, 70, 71, 72, 73, 74, 75, 76, 77, 78, 79, 80, 81, 82, 83, 84, 85, 86, 87, 88, 89, 90, 91, 92, 93, 94, 95, 96, 97, 98, 99, 100, 101, 102, 103, 104, 105, 106, 107, 108, 109, 110, 111, 112, 113, 114, 115, 116, 117, 118, 119, 120, 121, 122, 123, 124, 125, 126, 127, 128, 129, 130, 131, 132, 133, 134, 135] (fun s : Nat × Gt => s.1 ≤ l.length ∧ s.2.node = nd) (fun s => [(8, Value.int .i64 (s.1 : Int))]) (fun s => St w NoF [.own bl (.cells s.2.p.cells.toArray 25 (0, 0)), gO 95 bg s.2, rdA al (l.flatMap DooA.row)]) (fun s => l.length - s.1)
  · exact fun w' hw' => ⟨(0, newG nd), ⟨by simp, rfl⟩, ⟨rfl, trivial⟩, hw'⟩
  rintro ⟨i, G⟩ g ⟨hi, hG⟩
  simp only at hi hG ⊢
  have hGn : 1 ≤ G.node ∧ G.node ≤ 8 := by omega
  by_cases hlt : i < l.length ∧ i < 150
  · obtain ⟨hl, h150⟩ := hlt
    obtain ⟨ba, oa, rfl⟩ := hr.form (rows_ne DooA.row_len (by omega) hl)
    have hx := hR _ (List.getElem_mem hl)
    generalize hX : l[i] = X at hx
    have hk : bring X.d.kind 6 = 0 ∨ bring X.d.kind 6 = 1 ∨ bring X.d.kind 6 = 2 ∨ bring X.d.kind 6 = 3 ∨ bring X.d.kind 6 = 4 ∨ bring X.d.kind 6 = 5 := by have := bring_bd X.d.kind 6 (by omega); omega
    have hg41 := fun w1 => g41 X.d X.a X.c X.ak X.ck w1
    have ldk : ∀ w', Rd w' (some ⟨ba, oa, none⟩) (l.flatMap DooA.row) → ∀ q, q = oa + i * 23 + 1 → ∀ j v, X.d.x.k.cells[j]? = some v → w'.cell? ((⟨ba, q, none⟩ : Addr).add j) = some v := by
      intro w' hw' q hq j v hj
      subst hq hX
      rw [addr_add]
      refine row_cell DooA.row_len hw' hl (1 + j) (item_in_row _ (j := j) ?_) (by omega)
      exact List.getElem?_append_left (List.getElem?_eq_some_iff.1 hj).1 ▸ hj
    have ldr : ∀ w', Rd w' (some ⟨ba, oa, none⟩) (l.flatMap DooA.row) → ∀ q, q = oa + i * 23 → ∀ j v, X.row[j]? = some v → w'.cell? ((⟨ba, q, none⟩ : Addr).add j) = some v := by
      intro w' hw' q hq j v hj
      subst hq hX
      exact rd_row DooA.row_len hw' hl rfl j v hj
    have ldi : ∀ w', Rd w' (some ⟨ba, oa, none⟩) (l.flatMap DooA.row) → ∀ q, q = oa + i * 23 + 1 → ∀ j v, (X.d.x.cells X.a X.c)[j]? = some v → w'.cell? ((⟨ba, q, none⟩ : Addr).add j) = some v := by
      intro w' hw' q hq j v hj
      subst hq hX
      rw [addr_add]
      exact row_cell DooA.row_len hw' hl (1 + j) (item_in_row _ hj) (by omega)
    have ldp : ∀ w', Rd w' (some ⟨ba, oa, none⟩) (l.flatMap DooA.row) → ∀ q, q = oa + i * 23 + 22 → w'.cell? ⟨ba, q, none⟩ = some (.slice X.ak X.d.ps.length X.ck) := by
      intro w' hw' q hq
      subst hq hX
      exact row_cell DooA.row_len hw' hl 22 rfl rfl
    have hi1 : i + 1 ≤ l.length := by omega
    have hdec : l.length - (i + 1) < l.length - i := by omega
    rcases hk with hk | hk | hk | hk | hk | hk
    · have hel : (itemM G X.d.x).body.length ≤ 140737488351232 ∧ Byt (itemM G X.d.x).body := by
        unfold itemM
        split
        · have := charts_len [X.d.x.p]
          exact ⟨by show (charts [X.d.x.p]).1.length ≤ _; omega, charts_byt _⟩
        · split
          · exact ⟨hx.hm, hx.hb⟩
          · exact ⟨by simp [zeroMsg], by simp [zeroMsg, Byt]⟩
      cases hpb : passB G X.d.x
      · have e : passS G X.d.x = G := by unfold passS; rw [if_neg (by rw [hpb]; simp)]
        have e2 : passM G X.d.x = zeroMsg := by unfold passM; rw [if_neg (by rw [hpb]; simp)]
        repeat'(first|refine kv' ?_|apply jJ|refine jE' ?_|refine jp' ?_|(apply jc;kernel_rfl)|refine kg' ?_|refine kG' ?_|refine kB' fun _=>?_|refine kA' fun _=>?_|refine kK' fun _=>?_|refine kU' ?_|(apply idxX;(iterate 2 exact rfl);(iterate 2(first|omega|(dsimp only;omega)));exact rfl)|(apply LR.ev; (· first | (apply Ev.load_agg_at (cs := X.row); (· exact rfl); (· exact rfl); (· intro w' hw'; exact ldr w' (hw'.rd_of memZ) _ (by simp))) | (apply Ev.load_agg_at (cs := X.d.x.k.cells); (· exact rfl); (· exact rfl); (· intro w' hw'; exact ldk w' (hw'.rd_of memZ) _ (by simp))) | (apply Ev.load_agg_at (cs := X.d.x.cells X.a X.c); (· exact rfl); (· exact rfl); (· intro w' hw'; exact ldi w' (hw'.rd_of memZ) _ (by simp)))); (· exact rfl))|(apply kq; (· exact rfl); (· intro w1 h1; have hq := CallsTo.q (hg41 w1) h1; rw [hk] at hq; exact hq))|((first|refine kR' ?_ ?_|refine kQ' ?_ ?_);all_goals(intro hc;try simp only[hcs]at hc;try(exfalso;first|contradiction|omega))))
        apply LR.call
        · exact rfl
        intro w1 h1
        have hh := g32 bg G X.d.x X.a X.c w1 (h1.own_at memZ) (by omega) (h1.oldRd hx.hr) (h1.oldApart (x := gO 95 bg G) memZ rfl hx.hr) hx.hz (by have := hx.hm; omega) hx.hb hx.hp
        rw [hpb, e, e2] at hh
        refine CallsTo.mono hh ?_
        clear hh
        rintro v w2 ⟨a1, c1, rfl, st⟩
        have h2 := h1.two st rfl rfl rfl selZ
        refine LR.back h2 ?_
        clear h2 h1
        repeat'(first|(apply CW.reg_heldC)|refine kv' ?_|apply jJ|refine jE' ?_|refine jp' ?_|(apply jc;kernel_rfl)|refine kg' ?_|refine kG' ?_|refine kB' fun _=>?_|refine kA' fun _=>?_|refine kK' fun _=>?_|refine kU' ?_|((first|refine kR' ?_ ?_|refine kQ' ?_ ?_);all_goals(intro hc;try simp only[hcs]at hc;try(exfalso;first|contradiction|omega))))
        all_goals (
          apply DW.quiet [0, 2]
          · decide +kernel
          · first | exact fun _ h => h | exact fun _ h => St.sub h subZ
          repeat'(first|refine yv' ?_|refine uv' ?_|refine un' ?_|(refine us' ?_ ?_;all_goals(intro hc;try simp only[hcs]at hc;try(exfalso;first|contradiction|omega)))|apply QL.nil)
          all_goals (show DW _ _ _ _ _ _ _ _))
        all_goals (
          apply DW.loud 1
          · exact rfl
          · decide +kernel
          repeat'(first|refine kg' ?_|refine kG' ?_|apply kM|refine kv' ?_|refine kK' fun _=>?_|refine kU' ?_|refine kB' fun _=>?_|refine kA' fun _=>?_|(apply kq; (· exact rfl); (· intro w1 h1; exact CallsTo.q (g45 bg (G) w1 (h1.rd_of_blk memZ) (by show G.node ≠ 0; omega)) h1)))
          all_goals (refine At.stage_same (fun _ h => St.sub h subZ) ?_))
        all_goals (
          apply DW.quiet [3]
          · decide +kernel
          · first | exact fun _ h => h | exact fun _ h => St.sub h subZ
          repeat'(first|refine yv' ?_|refine uv' ?_|refine un' ?_|(refine us' ?_ ?_;all_goals(intro hc;try simp only[hcs]at hc;try(exfalso;first|contradiction|omega)))|apply QL.nil)
          all_goals (show DW _ _ _ _ _ _ _ _))
        all_goals (first | (apply DW.done_thn; (· decide +kernel)) | (apply DW.done; (· decide +kernel)))
        repeat'(first|refine kv' ?_|apply jJ|refine jE' ?_|refine jp' ?_|(apply jc;kernel_rfl)|refine kg' ?_|refine kG' ?_|refine kB' fun _=>?_|refine kA' fun _=>?_|refine kK' fun _=>?_|refine kU' ?_|(apply addX;(iterate 2 exact rfl);(iterate 2(first|omega|(dsimp only;omega)));exact rfl)|((first|refine kR' ?_ ?_|refine kQ' ?_ ?_);all_goals(intro hc;try simp only[hcs]at hc;try(exfalso;first|contradiction|omega))))
        all_goals (try (exfalso; revert hc; simp; done))
        refine At.again (i + 1, G) ⟨hi1, hG⟩ ?_ ?_ ?_ ?_
        · (repeat (first | exact Out.refl _ _ | exact Out.mix | (apply Out.upd; (· exact rfl)) | (apply Out.updL; (· exact rfl)) | (apply Out.mixs; (· exact rfl))))
        · exact ⟨rfl, trivial⟩
        · intro w' hw'
          refine hw'.sub ?_
          repeat (first | exact List.Sublist.refl _ | apply List.Sublist.cons_cons | apply List.Sublist.cons)
          done
        · exact hdec
      · have e : passS G X.d.x = { G with p := X.d.x.k } := by unfold passS; rw [if_pos hpb]
        have e2 : passM G X.d.x = fromM (itemM G X.d.x) X.d.x.k := by unfold passM; rw [if_pos hpb]
        have hck := check_pass hGn hpb
        rw [e2] at hck
        have hri := (pass_rises hpb).1
        repeat'(first|refine kv' ?_|apply jJ|refine jE' ?_|refine jp' ?_|(apply jc;kernel_rfl)|refine kg' ?_|refine kG' ?_|refine kB' fun _=>?_|refine kA' fun _=>?_|refine kK' fun _=>?_|refine kU' ?_|(apply idxX;(iterate 2 exact rfl);(iterate 2(first|omega|(dsimp only;omega)));exact rfl)|(apply LR.ev; (· first | (apply Ev.load_agg_at (cs := X.row); (· exact rfl); (· exact rfl); (· intro w' hw'; exact ldr w' (hw'.rd_of memZ) _ (by simp))) | (apply Ev.load_agg_at (cs := X.d.x.k.cells); (· exact rfl); (· exact rfl); (· intro w' hw'; exact ldk w' (hw'.rd_of memZ) _ (by simp))) | (apply Ev.load_agg_at (cs := X.d.x.cells X.a X.c); (· exact rfl); (· exact rfl); (· intro w' hw'; exact ldi w' (hw'.rd_of memZ) _ (by simp)))); (· exact rfl))|(apply kq; (· exact rfl); (· intro w1 h1; have hq := CallsTo.q (hg41 w1) h1; rw [hk] at hq; exact hq))|((first|refine kR' ?_ ?_|refine kQ' ?_ ?_);all_goals(intro hc;try simp only[hcs]at hc;try(exfalso;first|contradiction|omega))))
        apply LR.call
        · exact rfl
        intro w1 h1
        have hh := g32 bg G X.d.x X.a X.c w1 (h1.own_at memZ) (by omega) (h1.oldRd hx.hr) (h1.oldApart (x := gO 95 bg G) memZ rfl hx.hr) hx.hz (by have := hx.hm; omega) hx.hb hx.hp
        rw [hpb, e, e2] at hh
        refine CallsTo.mono hh ?_
        clear hh
        rintro v w2 ⟨a1, c1, rfl, st⟩
        have h2 := h1.two st rfl rfl rfl selZ
        refine LR.back h2 ?_
        clear h2 h1
        repeat'(first|(apply CW.reg_heldC)|refine kv' ?_|apply jJ|refine jE' ?_|refine jp' ?_|(apply jc;kernel_rfl)|refine kg' ?_|refine kG' ?_|refine kB' fun _=>?_|refine kA' fun _=>?_|refine kK' fun _=>?_|refine kU' ?_|(apply kq; (· exact rfl); (· intro w1 h1; exact CallsTo.q (g44 X.d.x.k G.p w1) h1))|(apply kq; (· exact rfl); (· intro w1 h1; have hq := CallsTo.q (d17 (fromM (itemM G X.d.x) X.d.x.k) a1 c1 w1 (h1.rd_of_own memZ) (fun e => (ownsRow_some (h1.holds (osl (.slice a1 (fromM (itemM G X.d.x) X.d.x.k).body.length c1) 5 1 (fromM (itemM G X.d.x) X.d.x.k).body.length (bv (fromM (itemM G X.d.x) X.d.x.k).body)) memZ) e).2) (by show (itemM G X.d.x).body.length ≤ _; omega) hel.2) h1; rw [hck] at hq; show CallsTo Try.prog 43 [(fromM (itemM G X.d.x) X.d.x.k).val a1 c1] w1 _; exact hq))|((first|refine kR' ?_ ?_|refine kQ' ?_ ?_);all_goals(intro hc;try simp only[hcs]at hc;try(exfalso;first|contradiction|omega))))
        all_goals (try (exfalso; revert hc; first | (simp [fromM]; done) | omega))
        repeat'(first|(apply CW.reg_heldC)|refine kv' ?_|apply jJ|refine jE' ?_|refine jp' ?_|(apply jc;kernel_rfl)|refine kg' ?_|refine kG' ?_|refine kB' fun _=>?_|refine kA' fun _=>?_|refine kK' fun _=>?_|refine kU' ?_|((first|refine kR' ?_ ?_|refine kQ' ?_ ?_);all_goals(intro hc;try simp only[hcs]at hc;try(exfalso;first|contradiction|omega))))
        all_goals (
          apply DW.quiet [0, 2]
          · decide +kernel
          · first | exact fun _ h => h | exact fun _ h => St.sub h subZ
          repeat'(first|refine yv' ?_|refine uv' ?_|refine un' ?_|(refine us' ?_ ?_;all_goals(intro hc;try simp only[hcs]at hc;try(exfalso;first|contradiction|omega)))|apply QL.nil)
          all_goals (show DW _ _ _ _ _ _ _ _))
        all_goals (
          apply DW.loud 1
          · exact rfl
          · decide +kernel
          repeat'(first|refine kg' ?_|refine kG' ?_|apply kM|refine kv' ?_|refine kK' fun _=>?_|refine kU' ?_|refine kB' fun _=>?_|refine kA' fun _=>?_|(apply kq; (· exact rfl); (· intro w1 h1; exact CallsTo.q (g45 bg ({ G with p := X.d.x.k }) w1 (h1.rd_of_blk memZ) (by show G.node ≠ 0; omega)) h1)))
          all_goals (refine At.stage_same (fun _ h => St.sub h subZ) ?_))
        all_goals (
          apply DW.quiet [3]
          · decide +kernel
          · first | exact fun _ h => h | exact fun _ h => St.sub h subZ
          repeat'(first|refine yv' ?_|refine uv' ?_|refine un' ?_|(refine us' ?_ ?_;all_goals(intro hc;try simp only[hcs]at hc;try(exfalso;first|contradiction|omega)))|apply QL.nil)
          all_goals (show DW _ _ _ _ _ _ _ _))
        all_goals (first | (apply DW.done_thn; (· decide +kernel)) | (apply DW.done; (· decide +kernel)))
        repeat'(first|refine kv' ?_|apply jJ|refine jE' ?_|refine jp' ?_|(apply jc;kernel_rfl)|refine kg' ?_|refine kG' ?_|refine kB' fun _=>?_|refine kA' fun _=>?_|refine kK' fun _=>?_|refine kU' ?_|(apply addX;(iterate 2 exact rfl);(iterate 2(first|omega|(dsimp only;omega)));exact rfl)|((first|refine kR' ?_ ?_|refine kQ' ?_ ?_);all_goals(intro hc;try simp only[hcs]at hc;try(exfalso;first|contradiction|omega))))
        all_goals (try (exfalso; revert hc; simp; done))
        refine At.again (i + 1, { G with p := X.d.x.k }) ⟨hi1, hG⟩ ?_ ?_ ?_ ?_
        · (repeat (first | exact Out.refl _ _ | exact Out.mix | (apply Out.upd; (· exact rfl)) | (apply Out.updL; (· exact rfl)) | (apply Out.mixs; (· exact rfl))))
        · exact ⟨rfl, trivial⟩
        · intro w' hw'
          refine hw'.sub ?_
          repeat (first | exact List.Sublist.refl _ | apply List.Sublist.cons_cons | apply List.Sublist.cons)
          done
        · exact hdec
    · cases hwb : aboveB X.d.x.k G.w
      · have e : wantS G X.d.x.k = G := by unfold wantS; rw [if_neg (by rw [hwb]; simp)]
        repeat'(first|refine kv' ?_|apply jJ|refine jE' ?_|refine jp' ?_|(apply jc;kernel_rfl)|refine kg' ?_|refine kG' ?_|refine kB' fun _=>?_|refine kA' fun _=>?_|refine kK' fun _=>?_|refine kU' ?_|(apply idxX;(iterate 2 exact rfl);(iterate 2(first|omega|(dsimp only;omega)));exact rfl)|(apply LR.ev; (· first | (apply Ev.load_agg_at (cs := X.row); (· exact rfl); (· exact rfl); (· intro w' hw'; exact ldr w' (hw'.rd_of memZ) _ (by simp))) | (apply Ev.load_agg_at (cs := X.d.x.k.cells); (· exact rfl); (· exact rfl); (· intro w' hw'; exact ldk w' (hw'.rd_of memZ) _ (by simp))) | (apply Ev.load_agg_at (cs := X.d.x.cells X.a X.c); (· exact rfl); (· exact rfl); (· intro w' hw'; exact ldi w' (hw'.rd_of memZ) _ (by simp)))); (· exact rfl))|(apply kq; (· exact rfl); (· intro w1 h1; have hq := CallsTo.q (hg41 w1) h1; rw [hk] at hq; exact hq))|((first|refine kR' ?_ ?_|refine kQ' ?_ ?_);all_goals(intro hc;try simp only[hcs]at hc;try(exfalso;first|contradiction|omega))))
        apply LR.call
        · exact rfl
        intro w1 h1
        have hh := g34 bg G X.d.x.k w1 (h1.own_at memZ) (by omega)
        rw [e] at hh
        refine CallsTo.mono hh ?_
        clear hh
        rintro v w2 st
        have h2 := h1.one' st rfl (Asrt.dep_own _ _) selZ
        refine LR.back h2 ?_
        clear h2 h1
        repeat'(first|(apply CW.reg_heldC)|refine kv' ?_|apply jJ|refine jE' ?_|refine jp' ?_|(apply jc;kernel_rfl)|refine kg' ?_|refine kG' ?_|refine kB' fun _=>?_|refine kA' fun _=>?_|refine kK' fun _=>?_|refine kU' ?_|((first|refine kR' ?_ ?_|refine kQ' ?_ ?_);all_goals(intro hc;try simp only[hcs]at hc;try(exfalso;first|contradiction|omega))))
        all_goals (
          apply DW.quiet [0, 2]
          · decide +kernel
          · first | exact fun _ h => h | exact fun _ h => St.sub h subZ
          repeat'(first|refine yv' ?_|refine uv' ?_|refine un' ?_|(refine us' ?_ ?_;all_goals(intro hc;try simp only[hcs]at hc;try(exfalso;first|contradiction|omega)))|apply QL.nil)
          all_goals (show DW _ _ _ _ _ _ _ _))
        all_goals (
          apply DW.loud 1
          · exact rfl
          · decide +kernel
          repeat'(first|refine kg' ?_|refine kG' ?_|apply kM|refine kv' ?_|refine kK' fun _=>?_|refine kU' ?_|refine kB' fun _=>?_|refine kA' fun _=>?_|(apply kq; (· exact rfl); (· intro w1 h1; exact CallsTo.q (g45 bg (G) w1 (h1.rd_of_blk memZ) (by show G.node ≠ 0; omega)) h1)))
          all_goals (refine At.stage_same (fun _ h => St.sub h subZ) ?_))
        all_goals (
          apply DW.quiet [3]
          · decide +kernel
          · first | exact fun _ h => h | exact fun _ h => St.sub h subZ
          repeat'(first|refine yv' ?_|refine uv' ?_|refine un' ?_|(refine us' ?_ ?_;all_goals(intro hc;try simp only[hcs]at hc;try(exfalso;first|contradiction|omega)))|apply QL.nil)
          all_goals (show DW _ _ _ _ _ _ _ _))
        all_goals (first | (apply DW.done_thn; (· decide +kernel)) | (apply DW.done; (· decide +kernel)))
        repeat'(first|refine kv' ?_|apply jJ|refine jE' ?_|refine jp' ?_|(apply jc;kernel_rfl)|refine kg' ?_|refine kG' ?_|refine kB' fun _=>?_|refine kA' fun _=>?_|refine kK' fun _=>?_|refine kU' ?_|(apply addX;(iterate 2 exact rfl);(iterate 2(first|omega|(dsimp only;omega)));exact rfl)|((first|refine kR' ?_ ?_|refine kQ' ?_ ?_);all_goals(intro hc;try simp only[hcs]at hc;try(exfalso;first|contradiction|omega))))
        all_goals (try (exfalso; revert hc; simp; done))
        refine At.again (i + 1, G) ⟨hi1, hG⟩ ?_ ?_ ?_ ?_
        · (repeat (first | exact Out.refl _ _ | exact Out.mix | (apply Out.upd; (· exact rfl)) | (apply Out.updL; (· exact rfl)) | (apply Out.mixs; (· exact rfl))))
        · exact ⟨rfl, trivial⟩
        · intro w' hw'
          refine hw'.sub ?_
          repeat (first | exact List.Sublist.refl _ | apply List.Sublist.cons_cons | apply List.Sublist.cons)
          done
        · exact hdec
      · have e : wantS G X.d.x.k = { G with w := X.d.x.k } := by unfold wantS; rw [if_pos hwb]
        repeat'(first|refine kv' ?_|apply jJ|refine jE' ?_|refine jp' ?_|(apply jc;kernel_rfl)|refine kg' ?_|refine kG' ?_|refine kB' fun _=>?_|refine kA' fun _=>?_|refine kK' fun _=>?_|refine kU' ?_|(apply idxX;(iterate 2 exact rfl);(iterate 2(first|omega|(dsimp only;omega)));exact rfl)|(apply LR.ev; (· first | (apply Ev.load_agg_at (cs := X.row); (· exact rfl); (· exact rfl); (· intro w' hw'; exact ldr w' (hw'.rd_of memZ) _ (by simp))) | (apply Ev.load_agg_at (cs := X.d.x.k.cells); (· exact rfl); (· exact rfl); (· intro w' hw'; exact ldk w' (hw'.rd_of memZ) _ (by simp))) | (apply Ev.load_agg_at (cs := X.d.x.cells X.a X.c); (· exact rfl); (· exact rfl); (· intro w' hw'; exact ldi w' (hw'.rd_of memZ) _ (by simp)))); (· exact rfl))|(apply kq; (· exact rfl); (· intro w1 h1; have hq := CallsTo.q (hg41 w1) h1; rw [hk] at hq; exact hq))|((first|refine kR' ?_ ?_|refine kQ' ?_ ?_);all_goals(intro hc;try simp only[hcs]at hc;try(exfalso;first|contradiction|omega))))
        apply LR.call
        · exact rfl
        intro w1 h1
        have hh := g34 bg G X.d.x.k w1 (h1.own_at memZ) (by omega)
        rw [e] at hh
        refine CallsTo.mono hh ?_
        clear hh
        rintro v w2 st
        have h2 := h1.one' st rfl (Asrt.dep_own _ _) selZ
        refine LR.back h2 ?_
        clear h2 h1
        repeat'(first|(apply CW.reg_heldC)|refine kv' ?_|apply jJ|refine jE' ?_|refine jp' ?_|(apply jc;kernel_rfl)|refine kg' ?_|refine kG' ?_|refine kB' fun _=>?_|refine kA' fun _=>?_|refine kK' fun _=>?_|refine kU' ?_|((first|refine kR' ?_ ?_|refine kQ' ?_ ?_);all_goals(intro hc;try simp only[hcs]at hc;try(exfalso;first|contradiction|omega))))
        all_goals (
          apply DW.quiet [0, 2]
          · decide +kernel
          · first | exact fun _ h => h | exact fun _ h => St.sub h subZ
          repeat'(first|refine yv' ?_|refine uv' ?_|refine un' ?_|(refine us' ?_ ?_;all_goals(intro hc;try simp only[hcs]at hc;try(exfalso;first|contradiction|omega)))|apply QL.nil)
          all_goals (show DW _ _ _ _ _ _ _ _))
        all_goals (
          apply DW.loud 1
          · exact rfl
          · decide +kernel
          repeat'(first|refine kg' ?_|refine kG' ?_|apply kM|refine kv' ?_|refine kK' fun _=>?_|refine kU' ?_|refine kB' fun _=>?_|refine kA' fun _=>?_|(apply kq; (· exact rfl); (· intro w1 h1; exact CallsTo.q (g45 bg ({ G with w := X.d.x.k }) w1 (h1.rd_of_blk memZ) (by show G.node ≠ 0; omega)) h1)))
          all_goals (refine At.stage_same (fun _ h => St.sub h subZ) ?_))
        all_goals (
          apply DW.quiet [3]
          · decide +kernel
          · first | exact fun _ h => h | exact fun _ h => St.sub h subZ
          repeat'(first|refine yv' ?_|refine uv' ?_|refine un' ?_|(refine us' ?_ ?_;all_goals(intro hc;try simp only[hcs]at hc;try(exfalso;first|contradiction|omega)))|apply QL.nil)
          all_goals (show DW _ _ _ _ _ _ _ _))
        all_goals (first | (apply DW.done_thn; (· decide +kernel)) | (apply DW.done; (· decide +kernel)))
        repeat'(first|refine kv' ?_|apply jJ|refine jE' ?_|refine jp' ?_|(apply jc;kernel_rfl)|refine kg' ?_|refine kG' ?_|refine kB' fun _=>?_|refine kA' fun _=>?_|refine kK' fun _=>?_|refine kU' ?_|(apply addX;(iterate 2 exact rfl);(iterate 2(first|omega|(dsimp only;omega)));exact rfl)|((first|refine kR' ?_ ?_|refine kQ' ?_ ?_);all_goals(intro hc;try simp only[hcs]at hc;try(exfalso;first|contradiction|omega))))
        all_goals (try (exfalso; revert hc; simp; done))
        refine At.again (i + 1, { G with w := X.d.x.k }) ⟨hi1, hG⟩ ?_ ?_ ?_ ?_
        · (repeat (first | exact Out.refl _ _ | exact Out.mix | (apply Out.upd; (· exact rfl)) | (apply Out.updL; (· exact rfl)) | (apply Out.mixs; (· exact rfl))))
        · exact ⟨rfl, trivial⟩
        · intro w' hw'
          refine hw'.sub ?_
          repeat (first | exact List.Sublist.refl _ | apply List.Sublist.cons_cons | apply List.Sublist.cons)
          done
        · exact hdec
    · cases hpb : markB G X.d.x.k
      · have e : markS G X.d.x.k = G := by unfold markS; rw [if_neg (by rw [hpb]; simp)]
        have e2 : markM G X.d.x.k = zeroMsg := by unfold markM; rw [if_neg (by rw [hpb]; simp)]
        repeat'(first|refine kv' ?_|apply jJ|refine jE' ?_|refine jp' ?_|(apply jc;kernel_rfl)|refine kg' ?_|refine kG' ?_|refine kB' fun _=>?_|refine kA' fun _=>?_|refine kK' fun _=>?_|refine kU' ?_|(apply idxX;(iterate 2 exact rfl);(iterate 2(first|omega|(dsimp only;omega)));exact rfl)|(apply LR.ev; (· first | (apply Ev.load_agg_at (cs := X.row); (· exact rfl); (· exact rfl); (· intro w' hw'; exact ldr w' (hw'.rd_of memZ) _ (by simp))) | (apply Ev.load_agg_at (cs := X.d.x.k.cells); (· exact rfl); (· exact rfl); (· intro w' hw'; exact ldk w' (hw'.rd_of memZ) _ (by simp))) | (apply Ev.load_agg_at (cs := X.d.x.cells X.a X.c); (· exact rfl); (· exact rfl); (· intro w' hw'; exact ldi w' (hw'.rd_of memZ) _ (by simp)))); (· exact rfl))|(apply kq; (· exact rfl); (· intro w1 h1; have hq := CallsTo.q (hg41 w1) h1; rw [hk] at hq; exact hq))|((first|refine kR' ?_ ?_|refine kQ' ?_ ?_);all_goals(intro hc;try simp only[hcs]at hc;try(exfalso;first|contradiction|omega))))
        apply LR.call
        · exact rfl
        intro w1 h1
        have hh := g37 bg G X.d.x.k w1 (h1.own_at memZ)
        rw [hpb, e, e2] at hh
        refine CallsTo.mono hh ?_
        clear hh
        rintro v w2 ⟨rfl, st⟩
        have h2 := h1.one' st rfl (Asrt.dep_own _ _) selZ
        refine LR.back h2 ?_
        clear h2 h1
        repeat'(first|(apply CW.reg_heldC)|refine kv' ?_|apply jJ|refine jE' ?_|refine jp' ?_|(apply jc;kernel_rfl)|refine kg' ?_|refine kG' ?_|refine kB' fun _=>?_|refine kA' fun _=>?_|refine kK' fun _=>?_|refine kU' ?_|((first|refine kR' ?_ ?_|refine kQ' ?_ ?_);all_goals(intro hc;try simp only[hcs]at hc;try(exfalso;first|contradiction|omega))))
        all_goals (
          apply DW.quiet [0, 2]
          · decide +kernel
          · first | exact fun _ h => h | exact fun _ h => St.sub h subZ
          repeat'(first|refine yv' ?_|refine uv' ?_|refine un' ?_|(refine us' ?_ ?_;all_goals(intro hc;try simp only[hcs]at hc;try(exfalso;first|contradiction|omega)))|apply QL.nil)
          all_goals (show DW _ _ _ _ _ _ _ _))
        all_goals (
          apply DW.loud 1
          · exact rfl
          · decide +kernel
          repeat'(first|refine kg' ?_|refine kG' ?_|apply kM|refine kv' ?_|refine kK' fun _=>?_|refine kU' ?_|refine kB' fun _=>?_|refine kA' fun _=>?_|(apply kq; (· exact rfl); (· intro w1 h1; exact CallsTo.q (g45 bg (G) w1 (h1.rd_of_blk memZ) (by show G.node ≠ 0; omega)) h1)))
          all_goals (refine At.stage_same (fun _ h => St.sub h subZ) ?_))
        all_goals (
          apply DW.quiet [3]
          · decide +kernel
          · first | exact fun _ h => h | exact fun _ h => St.sub h subZ
          repeat'(first|refine yv' ?_|refine uv' ?_|refine un' ?_|(refine us' ?_ ?_;all_goals(intro hc;try simp only[hcs]at hc;try(exfalso;first|contradiction|omega)))|apply QL.nil)
          all_goals (show DW _ _ _ _ _ _ _ _))
        all_goals (first | (apply DW.done_thn; (· decide +kernel)) | (apply DW.done; (· decide +kernel)))
        repeat'(first|refine kv' ?_|apply jJ|refine jE' ?_|refine jp' ?_|(apply jc;kernel_rfl)|refine kg' ?_|refine kG' ?_|refine kB' fun _=>?_|refine kA' fun _=>?_|refine kK' fun _=>?_|refine kU' ?_|(apply addX;(iterate 2 exact rfl);(iterate 2(first|omega|(dsimp only;omega)));exact rfl)|((first|refine kR' ?_ ?_|refine kQ' ?_ ?_);all_goals(intro hc;try simp only[hcs]at hc;try(exfalso;first|contradiction|omega))))
        all_goals (try (exfalso; revert hc; simp; done))
        refine At.again (i + 1, G) ⟨hi1, hG⟩ ?_ ?_ ?_ ?_
        · (repeat (first | exact Out.refl _ _ | exact Out.mix | (apply Out.upd; (· exact rfl)) | (apply Out.updL; (· exact rfl)) | (apply Out.mixs; (· exact rfl))))
        · exact ⟨rfl, trivial⟩
        · intro w' hw'
          refine hw'.sub ?_
          repeat (first | exact List.Sublist.refl _ | apply List.Sublist.cons_cons | apply List.Sublist.cons)
          done
        · exact hdec
      · have e : markS G X.d.x.k = { G with p := X.d.x.k } := by unfold markS; rw [if_pos hpb]
        have e2 : markM G X.d.x.k = ⟨2, G.node, 0, 0, 0, 0, 0, false, X.d.x.k.t, X.d.x.k.s, X.d.x.k.r, X.d.x.k.q, []⟩ := by unfold markM; rw [if_pos hpb]
        have hck := check_mark hGn hpb
        rw [e2] at hck
        have hri := mark_rises hpb
        repeat'(first|refine kv' ?_|apply jJ|refine jE' ?_|refine jp' ?_|(apply jc;kernel_rfl)|refine kg' ?_|refine kG' ?_|refine kB' fun _=>?_|refine kA' fun _=>?_|refine kK' fun _=>?_|refine kU' ?_|(apply idxX;(iterate 2 exact rfl);(iterate 2(first|omega|(dsimp only;omega)));exact rfl)|(apply LR.ev; (· first | (apply Ev.load_agg_at (cs := X.row); (· exact rfl); (· exact rfl); (· intro w' hw'; exact ldr w' (hw'.rd_of memZ) _ (by simp))) | (apply Ev.load_agg_at (cs := X.d.x.k.cells); (· exact rfl); (· exact rfl); (· intro w' hw'; exact ldk w' (hw'.rd_of memZ) _ (by simp))) | (apply Ev.load_agg_at (cs := X.d.x.cells X.a X.c); (· exact rfl); (· exact rfl); (· intro w' hw'; exact ldi w' (hw'.rd_of memZ) _ (by simp)))); (· exact rfl))|(apply kq; (· exact rfl); (· intro w1 h1; have hq := CallsTo.q (hg41 w1) h1; rw [hk] at hq; exact hq))|((first|refine kR' ?_ ?_|refine kQ' ?_ ?_);all_goals(intro hc;try simp only[hcs]at hc;try(exfalso;first|contradiction|omega))))
        apply LR.call
        · exact rfl
        intro w1 h1
        have hh := g37 bg G X.d.x.k w1 (h1.own_at memZ)
        rw [hpb, e, e2] at hh
        refine CallsTo.mono hh ?_
        clear hh
        rintro v w2 ⟨rfl, st⟩
        have h2 := h1.one' st rfl (Asrt.dep_own _ _) selZ
        refine LR.back h2 ?_
        clear h2 h1
        repeat'(first|(apply CW.reg_heldC)|refine kv' ?_|apply jJ|refine jE' ?_|refine jp' ?_|(apply jc;kernel_rfl)|refine kg' ?_|refine kG' ?_|refine kB' fun _=>?_|refine kA' fun _=>?_|refine kK' fun _=>?_|refine kU' ?_|(apply kq; (· exact rfl); (· intro w1 h1; exact CallsTo.q (g44 X.d.x.k G.p w1) h1))|(apply kq; (· exact rfl); (· intro w1 h1; have hq := CallsTo.q (d17 (Msg.mk 2 G.node 0 0 0 0 0 false X.d.x.k.t X.d.x.k.s X.d.x.k.r X.d.x.k.q []) none 0 w1 (Rd.nil _ _) (fun _ => rfl) (by simp) (by simp [Byt])) h1; rw [hck] at hq; show CallsTo Try.prog 43 [(Msg.mk 2 G.node 0 0 0 0 0 false X.d.x.k.t X.d.x.k.s X.d.x.k.r X.d.x.k.q []).val none 0] w1 _; exact hq))|((first|refine kR' ?_ ?_|refine kQ' ?_ ?_);all_goals(intro hc;try simp only[hcs]at hc;try(exfalso;first|contradiction|omega))))
        all_goals (try (exfalso; revert hc; first | (simp [fromM]; done) | omega))
        repeat'(first|(apply CW.reg_heldC)|refine kv' ?_|apply jJ|refine jE' ?_|refine jp' ?_|(apply jc;kernel_rfl)|refine kg' ?_|refine kG' ?_|refine kB' fun _=>?_|refine kA' fun _=>?_|refine kK' fun _=>?_|refine kU' ?_|((first|refine kR' ?_ ?_|refine kQ' ?_ ?_);all_goals(intro hc;try simp only[hcs]at hc;try(exfalso;first|contradiction|omega))))
        all_goals (
          apply DW.quiet [0, 2]
          · decide +kernel
          · first | exact fun _ h => h | exact fun _ h => St.sub h subZ
          repeat'(first|refine yv' ?_|refine uv' ?_|refine un' ?_|(refine us' ?_ ?_;all_goals(intro hc;try simp only[hcs]at hc;try(exfalso;first|contradiction|omega)))|apply QL.nil)
          all_goals (show DW _ _ _ _ _ _ _ _))
        all_goals (
          apply DW.loud 1
          · exact rfl
          · decide +kernel
          repeat'(first|refine kg' ?_|refine kG' ?_|apply kM|refine kv' ?_|refine kK' fun _=>?_|refine kU' ?_|refine kB' fun _=>?_|refine kA' fun _=>?_|(apply kq; (· exact rfl); (· intro w1 h1; exact CallsTo.q (g45 bg ({ G with p := X.d.x.k }) w1 (h1.rd_of_blk memZ) (by show G.node ≠ 0; omega)) h1)))
          all_goals (refine At.stage_same (fun _ h => St.sub h subZ) ?_))
        all_goals (
          apply DW.quiet [3]
          · decide +kernel
          · first | exact fun _ h => h | exact fun _ h => St.sub h subZ
          repeat'(first|refine yv' ?_|refine uv' ?_|refine un' ?_|(refine us' ?_ ?_;all_goals(intro hc;try simp only[hcs]at hc;try(exfalso;first|contradiction|omega)))|apply QL.nil)
          all_goals (show DW _ _ _ _ _ _ _ _))
        all_goals (first | (apply DW.done_thn; (· decide +kernel)) | (apply DW.done; (· decide +kernel)))
        repeat'(first|refine kv' ?_|apply jJ|refine jE' ?_|refine jp' ?_|(apply jc;kernel_rfl)|refine kg' ?_|refine kG' ?_|refine kB' fun _=>?_|refine kA' fun _=>?_|refine kK' fun _=>?_|refine kU' ?_|(apply addX;(iterate 2 exact rfl);(iterate 2(first|omega|(dsimp only;omega)));exact rfl)|((first|refine kR' ?_ ?_|refine kQ' ?_ ?_);all_goals(intro hc;try simp only[hcs]at hc;try(exfalso;first|contradiction|omega))))
        all_goals (try (exfalso; revert hc; simp; done))
        refine At.again (i + 1, { G with p := X.d.x.k }) ⟨hi1, hG⟩ ?_ ?_ ?_ ?_
        · (repeat (first | exact Out.refl _ _ | exact Out.mix | (apply Out.upd; (· exact rfl)) | (apply Out.updL; (· exact rfl)) | (apply Out.mixs; (· exact rfl))))
        · exact ⟨rfl, trivial⟩
        · intro w' hw'
          refine hw'.sub ?_
          repeat (first | exact List.Sublist.refl _ | apply List.Sublist.cons_cons | apply List.Sublist.cons)
          done
        · exact hdec
    · cases hwb : askB G X.d.x.k
      · have e : askS G X.d.x.k = G := by unfold askS; rw [if_neg (by rw [hwb]; simp)]
        repeat'(first|refine kv' ?_|apply jJ|refine jE' ?_|refine jp' ?_|(apply jc;kernel_rfl)|refine kg' ?_|refine kG' ?_|refine kB' fun _=>?_|refine kA' fun _=>?_|refine kK' fun _=>?_|refine kU' ?_|(apply idxX;(iterate 2 exact rfl);(iterate 2(first|omega|(dsimp only;omega)));exact rfl)|(apply LR.ev; (· first | (apply Ev.load_agg_at (cs := X.row); (· exact rfl); (· exact rfl); (· intro w' hw'; exact ldr w' (hw'.rd_of memZ) _ (by simp))) | (apply Ev.load_agg_at (cs := X.d.x.k.cells); (· exact rfl); (· exact rfl); (· intro w' hw'; exact ldk w' (hw'.rd_of memZ) _ (by simp))) | (apply Ev.load_agg_at (cs := X.d.x.cells X.a X.c); (· exact rfl); (· exact rfl); (· intro w' hw'; exact ldi w' (hw'.rd_of memZ) _ (by simp)))); (· exact rfl))|(apply kq; (· exact rfl); (· intro w1 h1; have hq := CallsTo.q (hg41 w1) h1; rw [hk] at hq; exact hq))|((first|refine kR' ?_ ?_|refine kQ' ?_ ?_);all_goals(intro hc;try simp only[hcs]at hc;try(exfalso;first|contradiction|omega))))
        apply LR.call
        · exact rfl
        intro w1 h1
        have hh := g36 bg G X.d.x.k w1 (h1.own_at memZ)
        rw [e] at hh
        refine CallsTo.mono hh ?_
        clear hh
        rintro v w2 ⟨rfl, st⟩
        have h2 := h1.one' st rfl (Asrt.dep_own _ _) selZ
        refine LR.back h2 ?_
        clear h2 h1
        repeat'(first|(apply CW.reg_heldC)|refine kv' ?_|apply jJ|refine jE' ?_|refine jp' ?_|(apply jc;kernel_rfl)|refine kg' ?_|refine kG' ?_|refine kB' fun _=>?_|refine kA' fun _=>?_|refine kK' fun _=>?_|refine kU' ?_|((first|refine kR' ?_ ?_|refine kQ' ?_ ?_);all_goals(intro hc;try simp only[hcs]at hc;try(exfalso;first|contradiction|omega))))
        all_goals (
          apply DW.quiet [0, 2]
          · decide +kernel
          · first | exact fun _ h => h | exact fun _ h => St.sub h subZ
          repeat'(first|refine yv' ?_|refine uv' ?_|refine un' ?_|(refine us' ?_ ?_;all_goals(intro hc;try simp only[hcs]at hc;try(exfalso;first|contradiction|omega)))|apply QL.nil)
          all_goals (show DW _ _ _ _ _ _ _ _))
        all_goals (
          apply DW.loud 1
          · exact rfl
          · decide +kernel
          repeat'(first|refine kg' ?_|refine kG' ?_|apply kM|refine kv' ?_|refine kK' fun _=>?_|refine kU' ?_|refine kB' fun _=>?_|refine kA' fun _=>?_|(apply kq; (· exact rfl); (· intro w1 h1; exact CallsTo.q (g45 bg (G) w1 (h1.rd_of_blk memZ) (by show G.node ≠ 0; omega)) h1)))
          all_goals (refine At.stage_same (fun _ h => St.sub h subZ) ?_))
        all_goals (
          apply DW.quiet [3]
          · decide +kernel
          · first | exact fun _ h => h | exact fun _ h => St.sub h subZ
          repeat'(first|refine yv' ?_|refine uv' ?_|refine un' ?_|(refine us' ?_ ?_;all_goals(intro hc;try simp only[hcs]at hc;try(exfalso;first|contradiction|omega)))|apply QL.nil)
          all_goals (show DW _ _ _ _ _ _ _ _))
        all_goals (first | (apply DW.done_thn; (· decide +kernel)) | (apply DW.done; (· decide +kernel)))
        repeat'(first|refine kv' ?_|apply jJ|refine jE' ?_|refine jp' ?_|(apply jc;kernel_rfl)|refine kg' ?_|refine kG' ?_|refine kB' fun _=>?_|refine kA' fun _=>?_|refine kK' fun _=>?_|refine kU' ?_|(apply addX;(iterate 2 exact rfl);(iterate 2(first|omega|(dsimp only;omega)));exact rfl)|((first|refine kR' ?_ ?_|refine kQ' ?_ ?_);all_goals(intro hc;try simp only[hcs]at hc;try(exfalso;first|contradiction|omega))))
        all_goals (try (exfalso; revert hc; simp; done))
        refine At.again (i + 1, G) ⟨hi1, hG⟩ ?_ ?_ ?_ ?_
        · (repeat (first | exact Out.refl _ _ | exact Out.mix | (apply Out.upd; (· exact rfl)) | (apply Out.updL; (· exact rfl)) | (apply Out.mixs; (· exact rfl))))
        · exact ⟨rfl, trivial⟩
        · intro w' hw'
          refine hw'.sub ?_
          repeat (first | exact List.Sublist.refl _ | apply List.Sublist.cons_cons | apply List.Sublist.cons)
          done
        · exact hdec
      · have e : askS G X.d.x.k = { G with a := G.w } := by unfold askS; rw [if_pos hwb]
        repeat'(first|refine kv' ?_|apply jJ|refine jE' ?_|refine jp' ?_|(apply jc;kernel_rfl)|refine kg' ?_|refine kG' ?_|refine kB' fun _=>?_|refine kA' fun _=>?_|refine kK' fun _=>?_|refine kU' ?_|(apply idxX;(iterate 2 exact rfl);(iterate 2(first|omega|(dsimp only;omega)));exact rfl)|(apply LR.ev; (· first | (apply Ev.load_agg_at (cs := X.row); (· exact rfl); (· exact rfl); (· intro w' hw'; exact ldr w' (hw'.rd_of memZ) _ (by simp))) | (apply Ev.load_agg_at (cs := X.d.x.k.cells); (· exact rfl); (· exact rfl); (· intro w' hw'; exact ldk w' (hw'.rd_of memZ) _ (by simp))) | (apply Ev.load_agg_at (cs := X.d.x.cells X.a X.c); (· exact rfl); (· exact rfl); (· intro w' hw'; exact ldi w' (hw'.rd_of memZ) _ (by simp)))); (· exact rfl))|(apply kq; (· exact rfl); (· intro w1 h1; have hq := CallsTo.q (hg41 w1) h1; rw [hk] at hq; exact hq))|((first|refine kR' ?_ ?_|refine kQ' ?_ ?_);all_goals(intro hc;try simp only[hcs]at hc;try(exfalso;first|contradiction|omega))))
        apply LR.call
        · exact rfl
        intro w1 h1
        have hh := g36 bg G X.d.x.k w1 (h1.own_at memZ)
        rw [e] at hh
        refine CallsTo.mono hh ?_
        clear hh
        rintro v w2 ⟨rfl, st⟩
        have h2 := h1.one' st rfl (Asrt.dep_own _ _) selZ
        refine LR.back h2 ?_
        clear h2 h1
        repeat'(first|(apply CW.reg_heldC)|refine kv' ?_|apply jJ|refine jE' ?_|refine jp' ?_|(apply jc;kernel_rfl)|refine kg' ?_|refine kG' ?_|refine kB' fun _=>?_|refine kA' fun _=>?_|refine kK' fun _=>?_|refine kU' ?_|((first|refine kR' ?_ ?_|refine kQ' ?_ ?_);all_goals(intro hc;try simp only[hcs]at hc;try(exfalso;first|contradiction|omega))))
        all_goals (
          apply DW.quiet [0, 2]
          · decide +kernel
          · first | exact fun _ h => h | exact fun _ h => St.sub h subZ
          repeat'(first|refine yv' ?_|refine uv' ?_|refine un' ?_|(refine us' ?_ ?_;all_goals(intro hc;try simp only[hcs]at hc;try(exfalso;first|contradiction|omega)))|apply QL.nil)
          all_goals (show DW _ _ _ _ _ _ _ _))
        all_goals (
          apply DW.loud 1
          · exact rfl
          · decide +kernel
          repeat'(first|refine kg' ?_|refine kG' ?_|apply kM|refine kv' ?_|refine kK' fun _=>?_|refine kU' ?_|refine kB' fun _=>?_|refine kA' fun _=>?_|(apply kq; (· exact rfl); (· intro w1 h1; exact CallsTo.q (g45 bg ({ G with a := G.w }) w1 (h1.rd_of_blk memZ) (by show G.node ≠ 0; omega)) h1)))
          all_goals (refine At.stage_same (fun _ h => St.sub h subZ) ?_))
        all_goals (
          apply DW.quiet [3]
          · decide +kernel
          · first | exact fun _ h => h | exact fun _ h => St.sub h subZ
          repeat'(first|refine yv' ?_|refine uv' ?_|refine un' ?_|(refine us' ?_ ?_;all_goals(intro hc;try simp only[hcs]at hc;try(exfalso;first|contradiction|omega)))|apply QL.nil)
          all_goals (show DW _ _ _ _ _ _ _ _))
        all_goals (first | (apply DW.done_thn; (· decide +kernel)) | (apply DW.done; (· decide +kernel)))
        repeat'(first|refine kv' ?_|apply jJ|refine jE' ?_|refine jp' ?_|(apply jc;kernel_rfl)|refine kg' ?_|refine kG' ?_|refine kB' fun _=>?_|refine kA' fun _=>?_|refine kK' fun _=>?_|refine kU' ?_|(apply addX;(iterate 2 exact rfl);(iterate 2(first|omega|(dsimp only;omega)));exact rfl)|((first|refine kR' ?_ ?_|refine kQ' ?_ ?_);all_goals(intro hc;try simp only[hcs]at hc;try(exfalso;first|contradiction|omega))))
        all_goals (try (exfalso; revert hc; simp; done))
        refine At.again (i + 1, { G with a := G.w }) ⟨hi1, hG⟩ ?_ ?_ ?_ ?_
        · (repeat (first | exact Out.refl _ _ | exact Out.mix | (apply Out.upd; (· exact rfl)) | (apply Out.updL; (· exact rfl)) | (apply Out.mixs; (· exact rfl))))
        · exact ⟨rfl, trivial⟩
        · intro w' hw'
          refine hw'.sub ?_
          repeat (first | exact List.Sublist.refl _ | apply List.Sublist.cons_cons | apply List.Sublist.cons)
          done
        · exact hdec
    · by_cases hbb : beginB X.d.x.k X.d.ps = true
      · have e2 : beginM G X.d.x.k X.d.ps = chartM G.node (charts X.d.ps).1 := by unfold beginM; rw [if_pos hbb]
        have e3 : beginE X.d.x.k X.d.ps = 0 := by unfold beginE; rw [if_pos hbb]
        have hck := check_begin hGn hbb
        rw [e2] at hck
        have hcl := charts_len X.d.ps
        have hcb := charts_byt X.d.ps
        have hok : okK X.d.x.k := by unfold beginB at hbb; simp only [decide_eq_true_eq] at hbb; exact hbb.1
        have habp : aboveB X.d.x.k G.p = decide (0 < keysI X.d.x.k G.p) := by unfold aboveB; simp [hok]
        by_cases hab : aboveB X.d.x.k G.p = true
        · have e : beginS G X.d.x.k X.d.ps = { G with p := X.d.x.k } := by unfold beginS; rw [if_pos ⟨hbb, hab⟩]
          have hri : 0 < keysI X.d.x.k G.p := by rw [habp] at hab; simpa using hab
          repeat'(first|(apply CW.reg_held (St w NoF [.own _ (.cells X.d.x.k.cells.toArray 25 (0, 0)), rdA (some ⟨ba, oa, none⟩) (l.flatMap DooA.row)]))|refine kv' ?_|apply jJ|refine jE' ?_|refine jp' ?_|(apply jc;kernel_rfl)|refine kg' ?_|refine kG' ?_|refine kB' fun _=>?_|refine kA' fun _=>?_|refine kK' fun _=>?_|refine kU' ?_|(apply idxX;(iterate 2 exact rfl);(iterate 2(first|omega|(dsimp only;omega)));exact rfl)|(apply LR.ev; (· first | (apply Ev.load_agg_at (cs := X.row); (· exact rfl); (· exact rfl); (· intro w' hw'; exact ldr w' (hw'.rd_of memZ) _ (by simp))) | (apply Ev.load_agg_at (cs := X.d.x.k.cells); (· exact rfl); (· exact rfl); (· intro w' hw'; exact ldk w' (hw'.rd_of memZ) _ (by simp))) | (apply Ev.load_agg_at (cs := X.d.x.cells X.a X.c); (· exact rfl); (· exact rfl); (· intro w' hw'; exact ldi w' (hw'.rd_of memZ) _ (by simp)))); (· exact rfl))|(apply kq; (· exact rfl); (· intro w1 h1; have hq := CallsTo.q (hg41 w1) h1; rw [hk] at hq; exact hq))|((first|refine kR' ?_ ?_|refine kQ' ?_ ?_);all_goals(intro hc;try simp only[hcs]at hc;try(exfalso;first|contradiction|omega))))
          apply DW.quiet [0, 1, 2, 3, 4, 5, 6]
          · decide +kernel
          · exact fun _ h => St.sub h subZ
          repeat'(first|refine yv' ?_|(apply QL.ev; (· exact rfl); (· apply Ev.indexAddr; (· exact rfl); (· exact rfl); (· first | omega | (dsimp only; omega)); (· first | omega | (dsimp only; omega))); (· exact rfl))|(apply QL.ev; (· exact rfl); (· apply Ev.load; (· exact rfl); (· intro w' hw'; exact ldp w' (hw'.rd_of memZ) _ (by simp))); (· exact rfl))|refine uv' ?_|refine un' ?_|(refine us' ?_ ?_;all_goals(intro hc;try simp only[hcs]at hc;try(exfalso;first|contradiction|omega)))|apply QL.nil)
          apply DP.begin []
          refine DP.more (PI.lr 11 12 [] (fun b => .pointer (some ⟨b, 0, none⟩)) (fun b => [.own b (.cells [.int .i64 0, .int .i64 0, .int .i64 0, .int .i64 0, .int .i64 0, .int .i64 0, .int .i64 0, .bool false, .int .i64 0, .int .i64 0, .int .i64 0, .int .i64 0, .slice none 0 0].toArray 28 (0, 0))]) rfl (fun b x hx => by simp at hx; subst hx; rfl) ?_) ?_
          · intro h w2
            apply kA
            · exact rfl
            intro b
            apply kM
            exact At.made rfl
          refine DP.go 7 [11] [12] [[]] rfl rfl rfl rfl (by decide +kernel) ⟨trivial, fun _ _ _ => trivial, trivial⟩ (fun A w' hA => St.sub hA (by simp only [List.cons_append, List.nil_append]; repeat (first | exact List.nil_sublist _ | exact List.Sublist.refl _ | apply List.Sublist.cons_cons | apply List.Sublist.cons))) ?_
          intro gg A LA hLA
          simp only [List.cons_append, List.nil_append] at hLA
          subst hLA
          apply LR.call
          · exact rfl
          intro w1 h1
          have hh := g42 bg G X.d.x.k X.ak X.ck X.d.ps w1 (h1.own_at memZ) (by omega) (h1.oldRd hx.hrk) (h1.oldApart (x := gO 95 bg G) memZ rfl hx.hrk) hx.hmk hx.hik
          rw [e, e2, e3] at hh
          refine CallsTo.mono hh ?_
          clear hh
          rintro v w2 ⟨a1, c1, rfl, st⟩
          have h2 := h1.two st rfl rfl rfl selZ
          refine LR.back h2 ?_
          clear h2 h1
          apply kM
          apply At.pdone (ds := [12]) rfl
          · repeat (first | exact MixR.base _ | (apply MixR.upd; case hd => exact rfl))
          · repeat (first | exact Tl.nil | apply Tl.cons)
          · exact (fun A w' hA => St.sub hA (by simp only [List.cons_append, List.nil_append]; repeat (first | exact List.nil_sublist _ | exact List.Sublist.refl _ | apply List.Sublist.cons_cons | apply List.Sublist.cons)))
          refine DP.quiet [8, 9, 10] [11] [12] rfl rfl (by decide +kernel) (fun A w' hA => St.sub hA (by simp only [List.cons_append, List.nil_append]; repeat (first | exact List.nil_sublist _ | exact List.Sublist.refl _ | apply List.Sublist.cons_cons | apply List.Sublist.cons))) (fun gg => ?_)
          repeat'(first|refine yv' ?_|refine uv' ?_|refine un' ?_|(refine us' ?_ ?_;all_goals(intro hc;try simp only[hcs]at hc;try(exfalso;first|contradiction|omega)))|apply QL.nil)
          apply pq_done
          · repeat (first | exact MixR.base _ | (apply MixR.upd; case hd => exact rfl))
          refine DP.take 11 12 (fun b => .pointer (some ⟨b, 0, none⟩)) (fun b => [.own b (.cells [.int .i64 0, .int .i64 0, .int .i64 0, .int .i64 0, .int .i64 0, .int .i64 0, .int .i64 0, .bool false, .int .i64 0, .int .i64 0, .int .i64 0, .int .i64 0, .slice none 0 0].toArray 28 (0, 0))]) [] [12] [[]] rfl rfl rfl rfl rfl rfl rfl (by decide +kernel) ⟨trivial, fun _ _ _ => trivial, trivial⟩ (fun A w' hA => St.sub hA (by simp only [List.cons_append, List.nil_append]; repeat (first | exact List.nil_sublist _ | exact List.Sublist.refl _ | apply List.Sublist.cons_cons | apply List.Sublist.cons))) (fun b12 => ?_)
          refine DP.nil ?_
          refine DW.castL (by simp only [List.cons_append, List.nil_append]; exact rfl) ?_
          apply DW.loud 12
          · exact rfl
          · decide +kernel
          repeat'(first|refine kg' ?_|refine kG' ?_|apply kM|refine kv' ?_|refine kK' fun _=>?_|refine kU' ?_|refine kB' fun _=>?_|refine kA' fun _=>?_)
          refine At.stage_same (fun _ h => St.sub h subZ) ?_
          apply DW.quiet [13]
          · decide +kernel
          · exact fun _ h => St.sub h subZ
          repeat'(first|refine yv' ?_|refine uv' ?_|refine un' ?_|(refine us' ?_ ?_;all_goals(intro hc;try simp only[hcs]at hc;try(exfalso;first|contradiction|omega)))|apply QL.nil)
          all_goals (show DW _ _ _ _ _ _ _ _)
          first | (apply DW.done_thn; (· decide +kernel)) | (apply DW.done; (· decide +kernel))
          repeat'(first|(apply CW.reg_heldC)|refine kv' ?_|apply jJ|refine jE' ?_|refine jp' ?_|(apply jc;kernel_rfl)|refine kg' ?_|refine kG' ?_|refine kB' fun _=>?_|refine kA' fun _=>?_|refine kK' fun _=>?_|refine kU' ?_|(apply kq; (· exact rfl); (· intro w1 h1; exact CallsTo.q (g44 X.d.x.k G.p w1) h1))|(apply kq; (· exact rfl); (· intro w1 h1; have hq := CallsTo.q (d17 (chartM G.node (charts X.d.ps).1) a1 c1 w1 (h1.rd_of_own memZ) (fun e => (ownsRow_some (h1.holds (osl (.slice a1 (chartM G.node (charts X.d.ps).1).body.length c1) 5 1 (chartM G.node (charts X.d.ps).1).body.length (bv (chartM G.node (charts X.d.ps).1).body)) memZ) e).2) (by show (charts X.d.ps).1.length ≤ _; omega) hcb) h1; rw [hck] at hq; show CallsTo Try.prog 43 [(chartM G.node (charts X.d.ps).1).val a1 c1] w1 _; exact hq))|((first|refine kR' ?_ ?_|refine kQ' ?_ ?_);all_goals(intro hc;try simp only[hcs]at hc;try(exfalso;first|contradiction|omega))))
          all_goals (try (exfalso; revert hc; first | (simp [fromM, chartM]; done) | omega))
          repeat'(first|(apply CW.reg_heldC)|refine kv' ?_|apply jJ|refine jE' ?_|refine jp' ?_|(apply jc;kernel_rfl)|refine kg' ?_|refine kG' ?_|refine kB' fun _=>?_|refine kA' fun _=>?_|refine kK' fun _=>?_|refine kU' ?_|((first|refine kR' ?_ ?_|refine kQ' ?_ ?_);all_goals(intro hc;try simp only[hcs]at hc;try(exfalso;first|contradiction|omega))))
          all_goals (
            apply DW.quiet [0, 2]
            · decide +kernel
            · first | exact fun _ h => h | exact fun _ h => St.sub h subZ
            repeat'(first|refine yv' ?_|refine uv' ?_|refine un' ?_|(refine us' ?_ ?_;all_goals(intro hc;try simp only[hcs]at hc;try(exfalso;first|contradiction|omega)))|apply QL.nil)
            all_goals (show DW _ _ _ _ _ _ _ _))
          all_goals (
            apply DW.loud 1
            · exact rfl
            · decide +kernel
            repeat'(first|refine kg' ?_|refine kG' ?_|apply kM|refine kv' ?_|refine kK' fun _=>?_|refine kU' ?_|refine kB' fun _=>?_|refine kA' fun _=>?_|(apply kq; (· exact rfl); (· intro w1 h1; exact CallsTo.q (g45 bg ({ G with p := X.d.x.k }) w1 (h1.rd_of_blk memZ) (by show G.node ≠ 0; omega)) h1)))
            all_goals (refine At.stage_same (fun _ h => St.sub h subZ) ?_))
          all_goals (
            apply DW.quiet [3]
            · decide +kernel
            · first | exact fun _ h => h | exact fun _ h => St.sub h subZ
            repeat'(first|refine yv' ?_|refine uv' ?_|refine un' ?_|(refine us' ?_ ?_;all_goals(intro hc;try simp only[hcs]at hc;try(exfalso;first|contradiction|omega)))|apply QL.nil)
            all_goals (show DW _ _ _ _ _ _ _ _))
          all_goals (first | (apply DW.done_thn; (· decide +kernel)) | (apply DW.done; (· decide +kernel)))
          repeat'(first|refine kv' ?_|apply jJ|refine jE' ?_|refine jp' ?_|(apply jc;kernel_rfl)|refine kg' ?_|refine kG' ?_|refine kB' fun _=>?_|refine kA' fun _=>?_|refine kK' fun _=>?_|refine kU' ?_|(apply addX;(iterate 2 exact rfl);(iterate 2(first|omega|(dsimp only;omega)));exact rfl)|((first|refine kR' ?_ ?_|refine kQ' ?_ ?_);all_goals(intro hc;try simp only[hcs]at hc;try(exfalso;first|contradiction|omega))))
          all_goals (try (exfalso; revert hc; simp; done))
          refine At.again (i + 1, { G with p := X.d.x.k }) ⟨hi1, hG⟩ ?_ ?_ ?_ ?_
          · (repeat (first | exact Out.refl _ _ | exact Out.mix | (apply Out.upd; (· exact rfl)) | (apply Out.updL; (· exact rfl)) | (apply Out.mixs; (· exact rfl))))
          · exact ⟨rfl, trivial⟩
          · intro w' hw'
            refine hw'.sub ?_
            repeat (first | exact List.Sublist.refl _ | apply List.Sublist.cons_cons | apply List.Sublist.cons)
            done
          · exact hdec
        · have e : beginS G X.d.x.k X.d.ps = G := by unfold beginS; rw [if_neg (fun h => hab h.2)]
          have hri : ¬ 0 < keysI X.d.x.k G.p := by rw [habp] at hab; simpa using hab
          repeat'(first|(apply CW.reg_held (St w NoF [.own _ (.cells X.d.x.k.cells.toArray 25 (0, 0)), rdA (some ⟨ba, oa, none⟩) (l.flatMap DooA.row)]))|refine kv' ?_|apply jJ|refine jE' ?_|refine jp' ?_|(apply jc;kernel_rfl)|refine kg' ?_|refine kG' ?_|refine kB' fun _=>?_|refine kA' fun _=>?_|refine kK' fun _=>?_|refine kU' ?_|(apply idxX;(iterate 2 exact rfl);(iterate 2(first|omega|(dsimp only;omega)));exact rfl)|(apply LR.ev; (· first | (apply Ev.load_agg_at (cs := X.row); (· exact rfl); (· exact rfl); (· intro w' hw'; exact ldr w' (hw'.rd_of memZ) _ (by simp))) | (apply Ev.load_agg_at (cs := X.d.x.k.cells); (· exact rfl); (· exact rfl); (· intro w' hw'; exact ldk w' (hw'.rd_of memZ) _ (by simp))) | (apply Ev.load_agg_at (cs := X.d.x.cells X.a X.c); (· exact rfl); (· exact rfl); (· intro w' hw'; exact ldi w' (hw'.rd_of memZ) _ (by simp)))); (· exact rfl))|(apply kq; (· exact rfl); (· intro w1 h1; have hq := CallsTo.q (hg41 w1) h1; rw [hk] at hq; exact hq))|((first|refine kR' ?_ ?_|refine kQ' ?_ ?_);all_goals(intro hc;try simp only[hcs]at hc;try(exfalso;first|contradiction|omega))))
          apply DW.quiet [0, 1, 2, 3, 4, 5, 6]
          · decide +kernel
          · exact fun _ h => St.sub h subZ
          repeat'(first|refine yv' ?_|(apply QL.ev; (· exact rfl); (· apply Ev.indexAddr; (· exact rfl); (· exact rfl); (· first | omega | (dsimp only; omega)); (· first | omega | (dsimp only; omega))); (· exact rfl))|(apply QL.ev; (· exact rfl); (· apply Ev.load; (· exact rfl); (· intro w' hw'; exact ldp w' (hw'.rd_of memZ) _ (by simp))); (· exact rfl))|refine uv' ?_|refine un' ?_|(refine us' ?_ ?_;all_goals(intro hc;try simp only[hcs]at hc;try(exfalso;first|contradiction|omega)))|apply QL.nil)
          apply DP.begin []
          refine DP.more (PI.lr 11 12 [] (fun b => .pointer (some ⟨b, 0, none⟩)) (fun b => [.own b (.cells [.int .i64 0, .int .i64 0, .int .i64 0, .int .i64 0, .int .i64 0, .int .i64 0, .int .i64 0, .bool false, .int .i64 0, .int .i64 0, .int .i64 0, .int .i64 0, .slice none 0 0].toArray 28 (0, 0))]) rfl (fun b x hx => by simp at hx; subst hx; rfl) ?_) ?_
          · intro h w2
            apply kA
            · exact rfl
            intro b
            apply kM
            exact At.made rfl
          refine DP.go 7 [11] [12] [[]] rfl rfl rfl rfl (by decide +kernel) ⟨trivial, fun _ _ _ => trivial, trivial⟩ (fun A w' hA => St.sub hA (by simp only [List.cons_append, List.nil_append]; repeat (first | exact List.nil_sublist _ | exact List.Sublist.refl _ | apply List.Sublist.cons_cons | apply List.Sublist.cons))) ?_
          intro gg A LA hLA
          simp only [List.cons_append, List.nil_append] at hLA
          subst hLA
          apply LR.call
          · exact rfl
          intro w1 h1
          have hh := g42 bg G X.d.x.k X.ak X.ck X.d.ps w1 (h1.own_at memZ) (by omega) (h1.oldRd hx.hrk) (h1.oldApart (x := gO 95 bg G) memZ rfl hx.hrk) hx.hmk hx.hik
          rw [e, e2, e3] at hh
          refine CallsTo.mono hh ?_
          clear hh
          rintro v w2 ⟨a1, c1, rfl, st⟩
          have h2 := h1.two st rfl rfl rfl selZ
          refine LR.back h2 ?_
          clear h2 h1
          apply kM
          apply At.pdone (ds := [12]) rfl
          · repeat (first | exact MixR.base _ | (apply MixR.upd; case hd => exact rfl))
          · repeat (first | exact Tl.nil | apply Tl.cons)
          · exact (fun A w' hA => St.sub hA (by simp only [List.cons_append, List.nil_append]; repeat (first | exact List.nil_sublist _ | exact List.Sublist.refl _ | apply List.Sublist.cons_cons | apply List.Sublist.cons)))
          refine DP.quiet [8, 9, 10] [11] [12] rfl rfl (by decide +kernel) (fun A w' hA => St.sub hA (by simp only [List.cons_append, List.nil_append]; repeat (first | exact List.nil_sublist _ | exact List.Sublist.refl _ | apply List.Sublist.cons_cons | apply List.Sublist.cons))) (fun gg => ?_)
          repeat'(first|refine yv' ?_|refine uv' ?_|refine un' ?_|(refine us' ?_ ?_;all_goals(intro hc;try simp only[hcs]at hc;try(exfalso;first|contradiction|omega)))|apply QL.nil)
          apply pq_done
          · repeat (first | exact MixR.base _ | (apply MixR.upd; case hd => exact rfl))
          refine DP.take 11 12 (fun b => .pointer (some ⟨b, 0, none⟩)) (fun b => [.own b (.cells [.int .i64 0, .int .i64 0, .int .i64 0, .int .i64 0, .int .i64 0, .int .i64 0, .int .i64 0, .bool false, .int .i64 0, .int .i64 0, .int .i64 0, .int .i64 0, .slice none 0 0].toArray 28 (0, 0))]) [] [12] [[]] rfl rfl rfl rfl rfl rfl rfl (by decide +kernel) ⟨trivial, fun _ _ _ => trivial, trivial⟩ (fun A w' hA => St.sub hA (by simp only [List.cons_append, List.nil_append]; repeat (first | exact List.nil_sublist _ | exact List.Sublist.refl _ | apply List.Sublist.cons_cons | apply List.Sublist.cons))) (fun b12 => ?_)
          refine DP.nil ?_
          refine DW.castL (by simp only [List.cons_append, List.nil_append]; exact rfl) ?_
          apply DW.loud 12
          · exact rfl
          · decide +kernel
          repeat'(first|refine kg' ?_|refine kG' ?_|apply kM|refine kv' ?_|refine kK' fun _=>?_|refine kU' ?_|refine kB' fun _=>?_|refine kA' fun _=>?_)
          refine At.stage_same (fun _ h => St.sub h subZ) ?_
          apply DW.quiet [13]
          · decide +kernel
          · exact fun _ h => St.sub h subZ
          repeat'(first|refine yv' ?_|refine uv' ?_|refine un' ?_|(refine us' ?_ ?_;all_goals(intro hc;try simp only[hcs]at hc;try(exfalso;first|contradiction|omega)))|apply QL.nil)
          all_goals (show DW _ _ _ _ _ _ _ _)
          first | (apply DW.done_thn; (· decide +kernel)) | (apply DW.done; (· decide +kernel))
          repeat'(first|(apply CW.reg_heldC)|refine kv' ?_|apply jJ|refine jE' ?_|refine jp' ?_|(apply jc;kernel_rfl)|refine kg' ?_|refine kG' ?_|refine kB' fun _=>?_|refine kA' fun _=>?_|refine kK' fun _=>?_|refine kU' ?_|(apply kq; (· exact rfl); (· intro w1 h1; exact CallsTo.q (g44 X.d.x.k G.p w1) h1))|(apply kq; (· exact rfl); (· intro w1 h1; have hq := CallsTo.q (d17 (chartM G.node (charts X.d.ps).1) a1 c1 w1 (h1.rd_of_own memZ) (fun e => (ownsRow_some (h1.holds (osl (.slice a1 (chartM G.node (charts X.d.ps).1).body.length c1) 5 1 (chartM G.node (charts X.d.ps).1).body.length (bv (chartM G.node (charts X.d.ps).1).body)) memZ) e).2) (by show (charts X.d.ps).1.length ≤ _; omega) hcb) h1; rw [hck] at hq; show CallsTo Try.prog 43 [(chartM G.node (charts X.d.ps).1).val a1 c1] w1 _; exact hq))|((first|refine kR' ?_ ?_|refine kQ' ?_ ?_);all_goals(intro hc;try simp only[hcs]at hc;try(exfalso;first|contradiction|omega))))
          all_goals (try (exfalso; revert hc; first | (simp [fromM, chartM]; done) | omega))
          repeat'(first|(apply CW.reg_heldC)|refine kv' ?_|apply jJ|refine jE' ?_|refine jp' ?_|(apply jc;kernel_rfl)|refine kg' ?_|refine kG' ?_|refine kB' fun _=>?_|refine kA' fun _=>?_|refine kK' fun _=>?_|refine kU' ?_|((first|refine kR' ?_ ?_|refine kQ' ?_ ?_);all_goals(intro hc;try simp only[hcs]at hc;try(exfalso;first|contradiction|omega))))
          all_goals (
            apply DW.quiet [0, 2]
            · decide +kernel
            · first | exact fun _ h => h | exact fun _ h => St.sub h subZ
            repeat'(first|refine yv' ?_|refine uv' ?_|refine un' ?_|(refine us' ?_ ?_;all_goals(intro hc;try simp only[hcs]at hc;try(exfalso;first|contradiction|omega)))|apply QL.nil)
            all_goals (show DW _ _ _ _ _ _ _ _))
          all_goals (
            apply DW.loud 1
            · exact rfl
            · decide +kernel
            repeat'(first|refine kg' ?_|refine kG' ?_|apply kM|refine kv' ?_|refine kK' fun _=>?_|refine kU' ?_|refine kB' fun _=>?_|refine kA' fun _=>?_|(apply kq; (· exact rfl); (· intro w1 h1; exact CallsTo.q (g45 bg (G) w1 (h1.rd_of_blk memZ) (by show G.node ≠ 0; omega)) h1)))
            all_goals (refine At.stage_same (fun _ h => St.sub h subZ) ?_))
          all_goals (
            apply DW.quiet [3]
            · decide +kernel
            · first | exact fun _ h => h | exact fun _ h => St.sub h subZ
            repeat'(first|refine yv' ?_|refine uv' ?_|refine un' ?_|(refine us' ?_ ?_;all_goals(intro hc;try simp only[hcs]at hc;try(exfalso;first|contradiction|omega)))|apply QL.nil)
            all_goals (show DW _ _ _ _ _ _ _ _))
          all_goals (first | (apply DW.done_thn; (· decide +kernel)) | (apply DW.done; (· decide +kernel)))
          repeat'(first|refine kv' ?_|apply jJ|refine jE' ?_|refine jp' ?_|(apply jc;kernel_rfl)|refine kg' ?_|refine kG' ?_|refine kB' fun _=>?_|refine kA' fun _=>?_|refine kK' fun _=>?_|refine kU' ?_|(apply addX;(iterate 2 exact rfl);(iterate 2(first|omega|(dsimp only;omega)));exact rfl)|((first|refine kR' ?_ ?_|refine kQ' ?_ ?_);all_goals(intro hc;try simp only[hcs]at hc;try(exfalso;first|contradiction|omega))))
          all_goals (try (exfalso; revert hc; simp; done))
          refine At.again (i + 1, G) ⟨hi1, hG⟩ ?_ ?_ ?_ ?_
          · (repeat (first | exact Out.refl _ _ | exact Out.mix | (apply Out.upd; (· exact rfl)) | (apply Out.updL; (· exact rfl)) | (apply Out.mixs; (· exact rfl))))
          · exact ⟨rfl, trivial⟩
          · intro w' hw'
            refine hw'.sub ?_
            repeat (first | exact List.Sublist.refl _ | apply List.Sublist.cons_cons | apply List.Sublist.cons)
            done
          · exact hdec
      · have e2 : beginM G X.d.x.k X.d.ps = zeroMsg := by unfold beginM; rw [if_neg hbb]
        have e3 : beginE X.d.x.k X.d.ps = 2 := by unfold beginE; rw [if_neg hbb]
        have e : beginS G X.d.x.k X.d.ps = G := by unfold beginS; rw [if_neg (fun h => hbb h.1)]
        repeat'(first|(apply CW.reg_held (St w NoF [.own _ (.cells X.d.x.k.cells.toArray 25 (0, 0)), rdA (some ⟨ba, oa, none⟩) (l.flatMap DooA.row)]))|refine kv' ?_|apply jJ|refine jE' ?_|refine jp' ?_|(apply jc;kernel_rfl)|refine kg' ?_|refine kG' ?_|refine kB' fun _=>?_|refine kA' fun _=>?_|refine kK' fun _=>?_|refine kU' ?_|(apply idxX;(iterate 2 exact rfl);(iterate 2(first|omega|(dsimp only;omega)));exact rfl)|(apply LR.ev; (· first | (apply Ev.load_agg_at (cs := X.row); (· exact rfl); (· exact rfl); (· intro w' hw'; exact ldr w' (hw'.rd_of memZ) _ (by simp))) | (apply Ev.load_agg_at (cs := X.d.x.k.cells); (· exact rfl); (· exact rfl); (· intro w' hw'; exact ldk w' (hw'.rd_of memZ) _ (by simp))) | (apply Ev.load_agg_at (cs := X.d.x.cells X.a X.c); (· exact rfl); (· exact rfl); (· intro w' hw'; exact ldi w' (hw'.rd_of memZ) _ (by simp)))); (· exact rfl))|(apply kq; (· exact rfl); (· intro w1 h1; have hq := CallsTo.q (hg41 w1) h1; rw [hk] at hq; exact hq))|((first|refine kR' ?_ ?_|refine kQ' ?_ ?_);all_goals(intro hc;try simp only[hcs]at hc;try(exfalso;first|contradiction|omega))))
        apply DW.quiet [0, 1, 2, 3, 4, 5, 6]
        · decide +kernel
        · exact fun _ h => St.sub h subZ
        repeat'(first|refine yv' ?_|(apply QL.ev; (· exact rfl); (· apply Ev.indexAddr; (· exact rfl); (· exact rfl); (· first | omega | (dsimp only; omega)); (· first | omega | (dsimp only; omega))); (· exact rfl))|(apply QL.ev; (· exact rfl); (· apply Ev.load; (· exact rfl); (· intro w' hw'; exact ldp w' (hw'.rd_of memZ) _ (by simp))); (· exact rfl))|refine uv' ?_|refine un' ?_|(refine us' ?_ ?_;all_goals(intro hc;try simp only[hcs]at hc;try(exfalso;first|contradiction|omega)))|apply QL.nil)
        apply DP.begin []
        refine DP.more (PI.lr 11 12 [] (fun b => .pointer (some ⟨b, 0, none⟩)) (fun b => [.own b (.cells [.int .i64 0, .int .i64 0, .int .i64 0, .int .i64 0, .int .i64 0, .int .i64 0, .int .i64 0, .bool false, .int .i64 0, .int .i64 0, .int .i64 0, .int .i64 0, .slice none 0 0].toArray 28 (0, 0))]) rfl (fun b x hx => by simp at hx; subst hx; rfl) ?_) ?_
        · intro h w2
          apply kA
          · exact rfl
          intro b
          apply kM
          exact At.made rfl
        refine DP.go 7 [11] [12] [[]] rfl rfl rfl rfl (by decide +kernel) ⟨trivial, fun _ _ _ => trivial, trivial⟩ (fun A w' hA => St.sub hA (by simp only [List.cons_append, List.nil_append]; repeat (first | exact List.nil_sublist _ | exact List.Sublist.refl _ | apply List.Sublist.cons_cons | apply List.Sublist.cons))) ?_
        intro gg A LA hLA
        simp only [List.cons_append, List.nil_append] at hLA
        subst hLA
        apply LR.call
        · exact rfl
        intro w1 h1
        have hh := g42 bg G X.d.x.k X.ak X.ck X.d.ps w1 (h1.own_at memZ) (by omega) (h1.oldRd hx.hrk) (h1.oldApart (x := gO 95 bg G) memZ rfl hx.hrk) hx.hmk hx.hik
        rw [e, e2, e3] at hh
        refine CallsTo.mono hh ?_
        clear hh
        rintro v w2 ⟨a1, c1, rfl, st⟩
        have h2 := h1.two st rfl rfl rfl selZ
        refine LR.back h2 ?_
        clear h2 h1
        apply kM
        apply At.pdone (ds := [12]) rfl
        · repeat (first | exact MixR.base _ | (apply MixR.upd; case hd => exact rfl))
        · repeat (first | exact Tl.nil | apply Tl.cons)
        · exact (fun A w' hA => St.sub hA (by simp only [List.cons_append, List.nil_append]; repeat (first | exact List.nil_sublist _ | exact List.Sublist.refl _ | apply List.Sublist.cons_cons | apply List.Sublist.cons)))
        refine DP.quiet [8, 9, 10] [11] [12] rfl rfl (by decide +kernel) (fun A w' hA => St.sub hA (by simp only [List.cons_append, List.nil_append]; repeat (first | exact List.nil_sublist _ | exact List.Sublist.refl _ | apply List.Sublist.cons_cons | apply List.Sublist.cons))) (fun gg => ?_)
        repeat'(first|refine yv' ?_|refine uv' ?_|refine un' ?_|(refine us' ?_ ?_;all_goals(intro hc;try simp only[hcs]at hc;try(exfalso;first|contradiction|omega)))|apply QL.nil)
        apply pq_done
        · repeat (first | exact MixR.base _ | (apply MixR.upd; case hd => exact rfl))
        refine DP.take 11 12 (fun b => .pointer (some ⟨b, 0, none⟩)) (fun b => [.own b (.cells [.int .i64 0, .int .i64 0, .int .i64 0, .int .i64 0, .int .i64 0, .int .i64 0, .int .i64 0, .bool false, .int .i64 0, .int .i64 0, .int .i64 0, .int .i64 0, .slice none 0 0].toArray 28 (0, 0))]) [] [12] [[]] rfl rfl rfl rfl rfl rfl rfl (by decide +kernel) ⟨trivial, fun _ _ _ => trivial, trivial⟩ (fun A w' hA => St.sub hA (by simp only [List.cons_append, List.nil_append]; repeat (first | exact List.nil_sublist _ | exact List.Sublist.refl _ | apply List.Sublist.cons_cons | apply List.Sublist.cons))) (fun b12 => ?_)
        refine DP.nil ?_
        refine DW.castL (by simp only [List.cons_append, List.nil_append]; exact rfl) ?_
        apply DW.loud 12
        · exact rfl
        · decide +kernel
        repeat'(first|refine kg' ?_|refine kG' ?_|apply kM|refine kv' ?_|refine kK' fun _=>?_|refine kU' ?_|refine kB' fun _=>?_|refine kA' fun _=>?_)
        refine At.stage_same (fun _ h => St.sub h subZ) ?_
        apply DW.quiet [13]
        · decide +kernel
        · exact fun _ h => St.sub h subZ
        repeat'(first|refine yv' ?_|refine uv' ?_|refine un' ?_|(refine us' ?_ ?_;all_goals(intro hc;try simp only[hcs]at hc;try(exfalso;first|contradiction|omega)))|apply QL.nil)
        all_goals (show DW _ _ _ _ _ _ _ _)
        first | (apply DW.done_thn; (· decide +kernel)) | (apply DW.done; (· decide +kernel))
        repeat'(first|(apply CW.reg_heldC)|refine kv' ?_|apply jJ|refine jE' ?_|refine jp' ?_|(apply jc;kernel_rfl)|refine kg' ?_|refine kG' ?_|refine kB' fun _=>?_|refine kA' fun _=>?_|refine kK' fun _=>?_|refine kU' ?_|((first|refine kR' ?_ ?_|refine kQ' ?_ ?_);all_goals(intro hc;try simp only[hcs]at hc;try(exfalso;first|contradiction|omega))))
        all_goals (
          apply DW.quiet [0, 2]
          · decide +kernel
          · first | exact fun _ h => h | exact fun _ h => St.sub h subZ
          repeat'(first|refine yv' ?_|refine uv' ?_|refine un' ?_|(refine us' ?_ ?_;all_goals(intro hc;try simp only[hcs]at hc;try(exfalso;first|contradiction|omega)))|apply QL.nil)
          all_goals (show DW _ _ _ _ _ _ _ _))
        all_goals (
          apply DW.loud 1
          · exact rfl
          · decide +kernel
          repeat'(first|refine kg' ?_|refine kG' ?_|apply kM|refine kv' ?_|refine kK' fun _=>?_|refine kU' ?_|refine kB' fun _=>?_|refine kA' fun _=>?_|(apply kq; (· exact rfl); (· intro w1 h1; exact CallsTo.q (g45 bg (G) w1 (h1.rd_of_blk memZ) (by show G.node ≠ 0; omega)) h1)))
          all_goals (refine At.stage_same (fun _ h => St.sub h subZ) ?_))
        all_goals (
          apply DW.quiet [3]
          · decide +kernel
          · first | exact fun _ h => h | exact fun _ h => St.sub h subZ
          repeat'(first|refine yv' ?_|refine uv' ?_|refine un' ?_|(refine us' ?_ ?_;all_goals(intro hc;try simp only[hcs]at hc;try(exfalso;first|contradiction|omega)))|apply QL.nil)
          all_goals (show DW _ _ _ _ _ _ _ _))
        all_goals (first | (apply DW.done_thn; (· decide +kernel)) | (apply DW.done; (· decide +kernel)))
        repeat'(first|refine kv' ?_|apply jJ|refine jE' ?_|refine jp' ?_|(apply jc;kernel_rfl)|refine kg' ?_|refine kG' ?_|refine kB' fun _=>?_|refine kA' fun _=>?_|refine kK' fun _=>?_|refine kU' ?_|(apply addX;(iterate 2 exact rfl);(iterate 2(first|omega|(dsimp only;omega)));exact rfl)|((first|refine kR' ?_ ?_|refine kQ' ?_ ?_);all_goals(intro hc;try simp only[hcs]at hc;try(exfalso;first|contradiction|omega))))
        all_goals (try (exfalso; revert hc; simp; done))
        refine At.again (i + 1, G) ⟨hi1, hG⟩ ?_ ?_ ?_ ?_
        · (repeat (first | exact Out.refl _ _ | exact Out.mix | (apply Out.upd; (· exact rfl)) | (apply Out.updL; (· exact rfl)) | (apply Out.mixs; (· exact rfl))))
        · exact ⟨rfl, trivial⟩
        · intro w' hw'
          refine hw'.sub ?_
          repeat (first | exact List.Sublist.refl _ | apply List.Sublist.cons_cons | apply List.Sublist.cons)
          done
        · exact hdec
    · repeat'(first|refine kv' ?_|apply jJ|refine jE' ?_|refine jp' ?_|(apply jc;kernel_rfl)|refine kg' ?_|refine kG' ?_|refine kB' fun _=>?_|refine kA' fun _=>?_|refine kK' fun _=>?_|refine kU' ?_|(apply idxX;(iterate 2 exact rfl);(iterate 2(first|omega|(dsimp only;omega)));exact rfl)|(apply LR.ev; (· first | (apply Ev.load_agg_at (cs := X.row); (· exact rfl); (· exact rfl); (· intro w' hw'; exact ldr w' (hw'.rd_of memZ) _ (by simp))) | (apply Ev.load_agg_at (cs := X.d.x.k.cells); (· exact rfl); (· exact rfl); (· intro w' hw'; exact ldk w' (hw'.rd_of memZ) _ (by simp))) | (apply Ev.load_agg_at (cs := X.d.x.cells X.a X.c); (· exact rfl); (· exact rfl); (· intro w' hw'; exact ldi w' (hw'.rd_of memZ) _ (by simp)))); (· exact rfl))|(apply kq; (· exact rfl); (· intro w1 h1; have hq := CallsTo.q (hg41 w1) h1; rw [hk] at hq; exact hq))|((first|refine kR' ?_ ?_|refine kQ' ?_ ?_);all_goals(intro hc;try simp only[hcs]at hc;try(exfalso;first|contradiction|omega))))
      apply LR.call
      · exact rfl
      intro w1 h1
      have hh := g38 bg G w1 (h1.own_at memZ) (by omega)
      skip
      refine CallsTo.mono hh ?_
      clear hh
      rintro v w2 st
      have h2 := h1.one' st rfl (Asrt.dep_own _ _) selZ
      refine LR.back h2 ?_
      clear h2 h1
      repeat'(first|(apply CW.reg_heldC)|refine kv' ?_|apply jJ|refine jE' ?_|refine jp' ?_|(apply jc;kernel_rfl)|refine kg' ?_|refine kG' ?_|refine kB' fun _=>?_|refine kA' fun _=>?_|refine kK' fun _=>?_|refine kU' ?_|((first|refine kR' ?_ ?_|refine kQ' ?_ ?_);all_goals(intro hc;try simp only[hcs]at hc;try(exfalso;first|contradiction|omega))))
      all_goals (
        apply DW.quiet [0, 2]
        · decide +kernel
        · first | exact fun _ h => h | exact fun _ h => St.sub h subZ
        repeat'(first|refine yv' ?_|refine uv' ?_|refine un' ?_|(refine us' ?_ ?_;all_goals(intro hc;try simp only[hcs]at hc;try(exfalso;first|contradiction|omega)))|apply QL.nil)
        all_goals (show DW _ _ _ _ _ _ _ _))
      all_goals (
        apply DW.loud 1
        · exact rfl
        · decide +kernel
        repeat'(first|refine kg' ?_|refine kG' ?_|apply kM|refine kv' ?_|refine kK' fun _=>?_|refine kU' ?_|refine kB' fun _=>?_|refine kA' fun _=>?_|(apply kq; (· exact rfl); (· intro w1 h1; exact CallsTo.q (g45 bg ({ G with a := zeroK }) w1 (h1.rd_of_blk memZ) (by show G.node ≠ 0; omega)) h1)))
        all_goals (refine At.stage_same (fun _ h => St.sub h subZ) ?_))
      all_goals (
        apply DW.quiet [3]
        · decide +kernel
        · first | exact fun _ h => h | exact fun _ h => St.sub h subZ
        repeat'(first|refine yv' ?_|refine uv' ?_|refine un' ?_|(refine us' ?_ ?_;all_goals(intro hc;try simp only[hcs]at hc;try(exfalso;first|contradiction|omega)))|apply QL.nil)
        all_goals (show DW _ _ _ _ _ _ _ _))
      all_goals (first | (apply DW.done_thn; (· decide +kernel)) | (apply DW.done; (· decide +kernel)))
      repeat'(first|refine kv' ?_|apply jJ|refine jE' ?_|refine jp' ?_|(apply jc;kernel_rfl)|refine kg' ?_|refine kG' ?_|refine kB' fun _=>?_|refine kA' fun _=>?_|refine kK' fun _=>?_|refine kU' ?_|(apply addX;(iterate 2 exact rfl);(iterate 2(first|omega|(dsimp only;omega)));exact rfl)|((first|refine kR' ?_ ?_|refine kQ' ?_ ?_);all_goals(intro hc;try simp only[hcs]at hc;try(exfalso;first|contradiction|omega))))
      all_goals (try (exfalso; revert hc; simp; done))
      refine At.again (i + 1, { G with a := zeroK }) ⟨hi1, hG⟩ ?_ ?_ ?_ ?_
      · (repeat (first | exact Out.refl _ _ | exact Out.mix | (apply Out.upd; (· exact rfl)) | (apply Out.updL; (· exact rfl)) | (apply Out.mixs; (· exact rfl))))
      · exact ⟨rfl, trivial⟩
      · intro w' hw'
        refine hw'.sub ?_
        repeat (first | exact List.Sublist.refl _ | apply List.Sublist.cons_cons | apply List.Sublist.cons)
        done
      · exact hdec
  · repeat'(first|refine kv' ?_|apply jJ|refine jE' ?_|refine jp' ?_|(apply jc;kernel_rfl)|refine kg' ?_|refine kG' ?_|refine kB' fun _=>?_|refine kA' fun _=>?_|refine kK' fun _=>?_|refine kU' ?_|((first|refine kR' ?_ ?_|refine kQ' ?_ ?_);all_goals(intro hc;try simp only[hcs]at hc;try(exfalso;first|contradiction|omega))))
    all_goals (
      (apply ret1; (· exact rfl); intro w' hS)
      exact ⟨rfl, hS.toKeep⟩)
end Go.Proofs.Ytphcnaafhcfakaa

namespace Go.Proofs.Ytphcnaafhcfakaa
open Go.Hb
attribute [local irreducible] LR CW At Ev thn blk finK noG again CallsTo DW QL dnext TW DP
set_option maxRecDepth 100000

def zG : Gt := ⟨0, zeroK, zeroK, zeroK⟩
def noneG (w : World) (p : Option Addr) : Prop := p = none ∨ ∃ b, p = some ⟨b, 0, none⟩ ∧ Rd w (some ⟨b, 0, none⟩) zG.cells
theorem g53z (p : Option Addr) (w : World) (h : noneG w p) : CallsTo Try.prog 53 [.pointer p] w fun v w' => v = .bool true ∧ Grew w w' := by
  rcases h with rfl | ⟨b, rfl, hr⟩
  · exact g53n w
  · exact g53 b zG w hr
theorem g56z (p : Option Addr) (w : World) (h : noneG w p) : CallsTo Try.prog 56 [.pointer p] w fun v w' => v = .bool false ∧ Grew w w' := by
  rcases h with rfl | ⟨b, rfl, hr⟩
  · refine go_in (n := 17) (St.refl _ NoF) Try.func56 rfl rfl ?_
    repeat'(first|(apply CW.reg_heldC)|refine kv' ?_|apply jJ|refine jE' ?_|refine jp' ?_|(apply jc;kernel_rfl)|refine kg' ?_|refine kG' ?_|refine kB' fun _=>?_|refine kA' fun _=>?_|refine kK' fun _=>?_|refine kU' ?_|((first|refine kR' ?_ ?_|refine kQ' ?_ ?_);all_goals(intro hc;try simp only[hcs]at hc;try(exfalso;first|contradiction|omega))))
    all_goals (
      apply DW.quiet [0]
      · decide +kernel
      · first | exact fun _ h => h | exact fun _ h => St.sub h subZ
      repeat'(first|refine yv' ?_|refine uv' ?_|refine un' ?_|(refine us' ?_ ?_;all_goals(intro hc;try simp only[hcs]at hc;try(exfalso;first|contradiction|omega)))|apply QL.nil)
      all_goals (show DW _ _ _ _ _ _ _ _))
    all_goals (
      apply DW.loud 1
      · exact rfl
      · decide +kernel
      repeat'(first|refine kg' ?_|refine kG' ?_|apply kM|refine kv' ?_|refine kK' fun _=>?_|refine kU' ?_|refine kB' fun _=>?_|refine kA' fun _=>?_|(apply kq; (· exact rfl); (· intro w1 h1; exact CallsTo.q (g53z none w1 (Or.inl rfl)) h1)))
      all_goals (refine At.stage_same (fun _ h => St.sub h subZ) ?_))
    all_goals (
      apply DW.quiet [2, 3, 4, 5, 6, 7, 8, 9, 10, 11]
      · decide +kernel
      · first | exact fun _ h => h | exact fun _ h => St.sub h subZ
      repeat'(first|refine yv' ?_|refine uv' ?_|refine un' ?_|(refine us' ?_ ?_;all_goals(intro hc;try simp only[hcs]at hc;try(exfalso;first|contradiction|omega)))|apply QL.nil)
      all_goals (show DW _ _ _ _ _ _ _ _))
    all_goals (
      apply DW.loud 12
      · exact rfl
      · decide +kernel
      repeat'(first|refine kg' ?_|refine kG' ?_|apply kM|refine kv' ?_|refine kK' fun _=>?_|refine kU' ?_|refine kB' fun _=>?_|refine kA' fun _=>?_|(apply kq; (· exact rfl); (· intro w1 h1; exact CallsTo.q (g53z none w1 (Or.inl rfl)) h1)))
      all_goals (refine At.stage_same (fun _ h => St.sub h subZ) ?_))
    all_goals (
      apply DW.quiet [13, 14]
      · decide +kernel
      · first | exact fun _ h => h | exact fun _ h => St.sub h subZ
      repeat'(first|refine yv' ?_|refine uv' ?_|refine un' ?_|(refine us' ?_ ?_;all_goals(intro hc;try simp only[hcs]at hc;try(exfalso;first|contradiction|omega)))|apply QL.nil)
      all_goals (show DW _ _ _ _ _ _ _ _))
    all_goals (first | (apply DW.done_thn; (· decide +kernel)) | (apply DW.done; (· decide +kernel)))
    repeat'(first|refine kv' ?_|apply jJ|refine jE' ?_|refine jp' ?_|(apply jc;kernel_rfl)|refine kg' ?_|refine kG' ?_|refine kB' fun _=>?_|refine kA' fun _=>?_|refine kK' fun _=>?_|refine kU' ?_|((first|refine kR' ?_ ?_|refine kQ' ?_ ?_);all_goals(intro hc;try simp only[hcs]at hc;try(exfalso;first|contradiction|omega))))
    (apply ret1; (· exact rfl); intro w' hS)
    exact ⟨rfl, hS.toKeep⟩
  · refine go_in (n := 17) (St.rd1 hr) Try.func56 rfl rfl ?_
    repeat'(first|(apply CW.reg_heldC)|refine kv' ?_|apply jJ|refine jE' ?_|refine jp' ?_|(apply jc;kernel_rfl)|refine kg' ?_|refine kG' ?_|refine kB' fun _=>?_|refine kA' fun _=>?_|refine kK' fun _=>?_|refine kU' ?_|((first|refine kR' ?_ ?_|refine kQ' ?_ ?_);all_goals(intro hc;try simp only[hcs]at hc;try(exfalso;first|contradiction|omega))))
    all_goals (
      apply DW.quiet [0]
      · decide +kernel
      · first | exact fun _ h => h | exact fun _ h => St.sub h subZ
      repeat'(first|refine yv' ?_|refine uv' ?_|refine un' ?_|(refine us' ?_ ?_;all_goals(intro hc;try simp only[hcs]at hc;try(exfalso;first|contradiction|omega)))|apply QL.nil)
      all_goals (show DW _ _ _ _ _ _ _ _))
    all_goals (
      apply DW.loud 1
      · exact rfl
      · decide +kernel
      repeat'(first|refine kg' ?_|refine kG' ?_|apply kM|refine kv' ?_|refine kK' fun _=>?_|refine kU' ?_|refine kB' fun _=>?_|refine kA' fun _=>?_|(apply kq; (· exact rfl); (· intro w1 h1; exact CallsTo.q (g53z (some ⟨b, 0, none⟩) w1 (Or.inr ⟨b, rfl, h1.rd_of memZ⟩)) h1)))
      all_goals (refine At.stage_same (fun _ h => St.sub h subZ) ?_))
    all_goals (
      apply DW.quiet [2, 3, 4, 5, 6, 7, 8, 9, 10, 11]
      · decide +kernel
      · first | exact fun _ h => h | exact fun _ h => St.sub h subZ
      repeat'(first|refine yv' ?_|refine uv' ?_|refine un' ?_|(refine us' ?_ ?_;all_goals(intro hc;try simp only[hcs]at hc;try(exfalso;first|contradiction|omega)))|apply QL.nil)
      all_goals (show DW _ _ _ _ _ _ _ _))
    all_goals (
      apply DW.loud 12
      · exact rfl
      · decide +kernel
      repeat'(first|refine kg' ?_|refine kG' ?_|apply kM|refine kv' ?_|refine kK' fun _=>?_|refine kU' ?_|refine kB' fun _=>?_|refine kA' fun _=>?_|(apply kq; (· exact rfl); (· intro w1 h1; exact CallsTo.q (g53z (some ⟨b, 0, none⟩) w1 (Or.inr ⟨b, rfl, h1.rd_of memZ⟩)) h1)))
      all_goals (refine At.stage_same (fun _ h => St.sub h subZ) ?_))
    all_goals (
      apply DW.quiet [13, 14]
      · decide +kernel
      · first | exact fun _ h => h | exact fun _ h => St.sub h subZ
      repeat'(first|refine yv' ?_|refine uv' ?_|refine un' ?_|(refine us' ?_ ?_;all_goals(intro hc;try simp only[hcs]at hc;try(exfalso;first|contradiction|omega)))|apply QL.nil)
      all_goals (show DW _ _ _ _ _ _ _ _))
    all_goals (first | (apply DW.done_thn; (· decide +kernel)) | (apply DW.done; (· decide +kernel)))
    repeat'(first|refine kv' ?_|apply jJ|refine jE' ?_|refine jp' ?_|(apply jc;kernel_rfl)|refine kg' ?_|refine kG' ?_|refine kB' fun _=>?_|refine kA' fun _=>?_|refine kK' fun _=>?_|refine kU' ?_|((first|refine kR' ?_ ?_|refine kQ' ?_ ?_);all_goals(intro hc;try simp only[hcs]at hc;try(exfalso;first|contradiction|omega))))
    (apply ret1; (· exact rfl); intro w' hS)
    exact ⟨rfl, hS.toKeep⟩
theorem g32z (p : Option Addr) (x : Itm) (a : Option Addr) (c : Nat) (w : World) (h : noneG w p) : CallsTo Try.prog 32 [.pointer p, x.val a c] w fun v w' => v = .tuple [zeroMsg.val none 0, .bool false].toArray ∧ Grew w w' := by
  rcases h with rfl | ⟨b, rfl, hr⟩
  · refine go_in (n := 39) (St.refl _ NoF) Try.func32 rfl rfl ?_
    repeat'(first|(apply CW.reg_heldC)|refine kv' ?_|apply jJ|refine jE' ?_|refine jp' ?_|(apply jc;kernel_rfl)|refine kg' ?_|refine kG' ?_|refine kB' fun _=>?_|refine kA' fun _=>?_|refine kK' fun _=>?_|refine kU' ?_|((first|refine kR' ?_ ?_|refine kQ' ?_ ?_);all_goals(intro hc;try simp only[hcs]at hc;try(exfalso;first|contradiction|omega))))
    all_goals (
      apply DW.quiet [0]
      · decide +kernel
      · first | exact fun _ h => h | exact fun _ h => St.sub h subZ
      repeat'(first|refine yv' ?_|refine uv' ?_|refine un' ?_|(refine us' ?_ ?_;all_goals(intro hc;try simp only[hcs]at hc;try(exfalso;first|contradiction|omega)))|apply QL.nil)
      all_goals (show DW _ _ _ _ _ _ _ _))
    all_goals (
      apply DW.loud 1
      · exact rfl
      · decide +kernel
      repeat'(first|refine kg' ?_|refine kG' ?_|apply kM|refine kv' ?_|refine kK' fun _=>?_|refine kU' ?_|refine kB' fun _=>?_|refine kA' fun _=>?_|(apply kq; (· exact rfl); (· intro w1 h1; exact CallsTo.q (g53z none w1 (Or.inl rfl)) h1)))
      all_goals (refine At.stage_same (fun _ h => St.sub h subZ) ?_))
    all_goals (
      apply DW.quiet [2, 3, 4, 5, 6, 7, 8]
      · decide +kernel
      · first | exact fun _ h => h | exact fun _ h => St.sub h subZ
      repeat'(first|refine yv' ?_|refine uv' ?_|refine un' ?_|(refine us' ?_ ?_;all_goals(intro hc;try simp only[hcs]at hc;try(exfalso;first|contradiction|omega)))|apply QL.nil)
      all_goals (show DW _ _ _ _ _ _ _ _))
    all_goals (
      apply DW.loud 9
      · exact rfl
      · decide +kernel
      repeat'(first|refine kg' ?_|refine kG' ?_|apply kM|refine kv' ?_|refine kK' fun _=>?_|refine kU' ?_|refine kB' fun _=>?_|refine kA' fun _=>?_|(apply kq; (· exact rfl); (· intro w1 h1; exact CallsTo.q (g53z none w1 (Or.inl rfl)) h1)))
      all_goals (refine At.stage_same (fun _ h => St.sub h subZ) ?_))
    all_goals (
      apply DW.quiet [10, 11]
      · decide +kernel
      · first | exact fun _ h => h | exact fun _ h => St.sub h subZ
      repeat'(first|refine yv' ?_|refine uv' ?_|refine un' ?_|(refine us' ?_ ?_;all_goals(intro hc;try simp only[hcs]at hc;try(exfalso;first|contradiction|omega)))|apply QL.nil)
      all_goals (show DW _ _ _ _ _ _ _ _))
    all_goals (first | (apply DW.done_thn; (· decide +kernel)) | (apply DW.done; (· decide +kernel)))
    repeat'(first|refine kv' ?_|apply jJ|refine jE' ?_|refine jp' ?_|(apply jc;kernel_rfl)|refine kg' ?_|refine kG' ?_|refine kB' fun _=>?_|refine kA' fun _=>?_|refine kK' fun _=>?_|refine kU' ?_|((first|refine kR' ?_ ?_|refine kQ' ?_ ?_);all_goals(intro hc;try simp only[hcs]at hc;try(exfalso;first|contradiction|omega))))
    (apply ret2c; (· exact rfl); (· exact inferInstance); (· exact rfl); (· (repeat (first | exact List.Mem.head _ | apply List.Mem.tail))); (· exact rfl); intro w' hS)
    exact ⟨rfl, hS.toKeep⟩
  · refine go_in (n := 39) (St.rd1 hr) Try.func32 rfl rfl ?_
    repeat'(first|(apply CW.reg_heldC)|refine kv' ?_|apply jJ|refine jE' ?_|refine jp' ?_|(apply jc;kernel_rfl)|refine kg' ?_|refine kG' ?_|refine kB' fun _=>?_|refine kA' fun _=>?_|refine kK' fun _=>?_|refine kU' ?_|((first|refine kR' ?_ ?_|refine kQ' ?_ ?_);all_goals(intro hc;try simp only[hcs]at hc;try(exfalso;first|contradiction|omega))))
    all_goals (
      apply DW.quiet [0]
      · decide +kernel
      · first | exact fun _ h => h | exact fun _ h => St.sub h subZ
      repeat'(first|refine yv' ?_|refine uv' ?_|refine un' ?_|(refine us' ?_ ?_;all_goals(intro hc;try simp only[hcs]at hc;try(exfalso;first|contradiction|omega)))|apply QL.nil)
      all_goals (show DW _ _ _ _ _ _ _ _))
    all_goals (
      apply DW.loud 1
      · exact rfl
      · decide +kernel
      repeat'(first|refine kg' ?_|refine kG' ?_|apply kM|refine kv' ?_|refine kK' fun _=>?_|refine kU' ?_|refine kB' fun _=>?_|refine kA' fun _=>?_|(apply kq; (· exact rfl); (· intro w1 h1; exact CallsTo.q (g53z (some ⟨b, 0, none⟩) w1 (Or.inr ⟨b, rfl, h1.rd_of memZ⟩)) h1)))
      all_goals (refine At.stage_same (fun _ h => St.sub h subZ) ?_))
    all_goals (
      apply DW.quiet [2, 3, 4, 5, 6, 7, 8]
      · decide +kernel
      · first | exact fun _ h => h | exact fun _ h => St.sub h subZ
      repeat'(first|refine yv' ?_|refine uv' ?_|refine un' ?_|(refine us' ?_ ?_;all_goals(intro hc;try simp only[hcs]at hc;try(exfalso;first|contradiction|omega)))|apply QL.nil)
      all_goals (show DW _ _ _ _ _ _ _ _))
    all_goals (
      apply DW.loud 9
      · exact rfl
      · decide +kernel
      repeat'(first|refine kg' ?_|refine kG' ?_|apply kM|refine kv' ?_|refine kK' fun _=>?_|refine kU' ?_|refine kB' fun _=>?_|refine kA' fun _=>?_|(apply kq; (· exact rfl); (· intro w1 h1; exact CallsTo.q (g53z (some ⟨b, 0, none⟩) w1 (Or.inr ⟨b, rfl, h1.rd_of memZ⟩)) h1)))
      all_goals (refine At.stage_same (fun _ h => St.sub h subZ) ?_))
    all_goals (
      apply DW.quiet [10, 11]
      · decide +kernel
      · first | exact fun _ h => h | exact fun _ h => St.sub h subZ
      repeat'(first|refine yv' ?_|refine uv' ?_|refine un' ?_|(refine us' ?_ ?_;all_goals(intro hc;try simp only[hcs]at hc;try(exfalso;first|contradiction|omega)))|apply QL.nil)
      all_goals (show DW _ _ _ _ _ _ _ _))
    all_goals (first | (apply DW.done_thn; (· decide +kernel)) | (apply DW.done; (· decide +kernel)))
    repeat'(first|refine kv' ?_|apply jJ|refine jE' ?_|refine jp' ?_|(apply jc;kernel_rfl)|refine kg' ?_|refine kG' ?_|refine kB' fun _=>?_|refine kA' fun _=>?_|refine kK' fun _=>?_|refine kU' ?_|((first|refine kR' ?_ ?_|refine kQ' ?_ ?_);all_goals(intro hc;try simp only[hcs]at hc;try(exfalso;first|contradiction|omega))))
    (apply ret2c; (· exact rfl); (· exact inferInstance); (· exact rfl); (· (repeat (first | exact List.Mem.head _ | apply List.Mem.tail))); (· exact rfl); intro w' hS)
    exact ⟨rfl, hS.toKeep⟩
theorem g37z (p : Option Addr) (k : Ky) (w : World) (h : noneG w p) : CallsTo Try.prog 37 [.pointer p, k.val] w fun v w' => v = .tuple [zeroMsg.val none 0, .bool false].toArray ∧ Grew w w' := by
  rcases h with rfl | ⟨b, rfl, hr⟩
  · refine go_in (n := 33) (St.refl _ NoF) Try.func37 rfl rfl ?_
    repeat'(first|(apply CW.reg_heldC)|refine kv' ?_|apply jJ|refine jE' ?_|refine jp' ?_|(apply jc;kernel_rfl)|refine kg' ?_|refine kG' ?_|refine kB' fun _=>?_|refine kA' fun _=>?_|refine kK' fun _=>?_|refine kU' ?_|((first|refine kR' ?_ ?_|refine kQ' ?_ ?_);all_goals(intro hc;try simp only[hcs]at hc;try(exfalso;first|contradiction|omega))))
    all_goals (
      apply DW.quiet [0]
      · decide +kernel
      · first | exact fun _ h => h | exact fun _ h => St.sub h subZ
      repeat'(first|refine yv' ?_|refine uv' ?_|refine un' ?_|(refine us' ?_ ?_;all_goals(intro hc;try simp only[hcs]at hc;try(exfalso;first|contradiction|omega)))|apply QL.nil)
      all_goals (show DW _ _ _ _ _ _ _ _))
    all_goals (
      apply DW.loud 1
      · exact rfl
      · decide +kernel
      repeat'(first|refine kg' ?_|refine kG' ?_|apply kM|refine kv' ?_|refine kK' fun _=>?_|refine kU' ?_|refine kB' fun _=>?_|refine kA' fun _=>?_|(apply kq; (· exact rfl); (· intro w1 h1; exact CallsTo.q (g56z none w1 (Or.inl rfl)) h1)))
      all_goals (refine At.stage_same (fun _ h => St.sub h subZ) ?_))
    all_goals (
      apply DW.quiet [2, 3, 4]
      · decide +kernel
      · first | exact fun _ h => h | exact fun _ h => St.sub h subZ
      repeat'(first|refine yv' ?_|refine uv' ?_|refine un' ?_|(refine us' ?_ ?_;all_goals(intro hc;try simp only[hcs]at hc;try(exfalso;first|contradiction|omega)))|apply QL.nil)
      all_goals (show DW _ _ _ _ _ _ _ _))
    all_goals (
      apply DW.loud 5
      · exact rfl
      · decide +kernel
      repeat'(first|refine kg' ?_|refine kG' ?_|apply kM|refine kv' ?_|refine kK' fun _=>?_|refine kU' ?_|refine kB' fun _=>?_|refine kA' fun _=>?_|(apply kq; (· exact rfl); (· intro w1 h1; exact CallsTo.q (g56z none w1 (Or.inl rfl)) h1)))
      all_goals (refine At.stage_same (fun _ h => St.sub h subZ) ?_))
    all_goals (
      apply DW.quiet [6, 7, 8, 9, 10, 11, 12, 13]
      · decide +kernel
      · first | exact fun _ h => h | exact fun _ h => St.sub h subZ
      repeat'(first|refine yv' ?_|refine uv' ?_|refine un' ?_|(refine us' ?_ ?_;all_goals(intro hc;try simp only[hcs]at hc;try(exfalso;first|contradiction|omega)))|apply QL.nil)
      all_goals (show DW _ _ _ _ _ _ _ _))
    all_goals (
      apply DW.loud 14
      · exact rfl
      · decide +kernel
      repeat'(first|refine kg' ?_|refine kG' ?_|apply kM|refine kv' ?_|refine kK' fun _=>?_|refine kU' ?_|refine kB' fun _=>?_|refine kA' fun _=>?_|(apply kq; (· exact rfl); (· intro w1 h1; exact CallsTo.q (g56z none w1 (Or.inl rfl)) h1)))
      all_goals (refine At.stage_same (fun _ h => St.sub h subZ) ?_))
    all_goals (
      apply DW.quiet [15]
      · decide +kernel
      · first | exact fun _ h => h | exact fun _ h => St.sub h subZ
      repeat'(first|refine yv' ?_|refine uv' ?_|refine un' ?_|(refine us' ?_ ?_;all_goals(intro hc;try simp only[hcs]at hc;try(exfalso;first|contradiction|omega)))|apply QL.nil)
      all_goals (show DW _ _ _ _ _ _ _ _))
    all_goals (first | (apply DW.done_thn; (· decide +kernel)) | (apply DW.done; (· decide +kernel)))
    repeat'(first|refine kv' ?_|apply jJ|refine jE' ?_|refine jp' ?_|(apply jc;kernel_rfl)|refine kg' ?_|refine kG' ?_|refine kB' fun _=>?_|refine kA' fun _=>?_|refine kK' fun _=>?_|refine kU' ?_|((first|refine kR' ?_ ?_|refine kQ' ?_ ?_);all_goals(intro hc;try simp only[hcs]at hc;try(exfalso;first|contradiction|omega))))
    (apply ret2c; (· exact rfl); (· exact inferInstance); (· exact rfl); (· (repeat (first | exact List.Mem.head _ | apply List.Mem.tail))); (· exact rfl); intro w' hS)
    exact ⟨rfl, hS.toKeep⟩
  · refine go_in (n := 33) (St.rd1 hr) Try.func37 rfl rfl ?_
    repeat'(first|(apply CW.reg_heldC)|refine kv' ?_|apply jJ|refine jE' ?_|refine jp' ?_|(apply jc;kernel_rfl)|refine kg' ?_|refine kG' ?_|refine kB' fun _=>?_|refine kA' fun _=>?_|refine kK' fun _=>?_|refine kU' ?_|((first|refine kR' ?_ ?_|refine kQ' ?_ ?_);all_goals(intro hc;try simp only[hcs]at hc;try(exfalso;first|contradiction|omega))))
    all_goals (
      apply DW.quiet [0]
      · decide +kernel
      · first | exact fun _ h => h | exact fun _ h => St.sub h subZ
      repeat'(first|refine yv' ?_|refine uv' ?_|refine un' ?_|(refine us' ?_ ?_;all_goals(intro hc;try simp only[hcs]at hc;try(exfalso;first|contradiction|omega)))|apply QL.nil)
      all_goals (show DW _ _ _ _ _ _ _ _))
    all_goals (
      apply DW.loud 1
      · exact rfl
      · decide +kernel
      repeat'(first|refine kg' ?_|refine kG' ?_|apply kM|refine kv' ?_|refine kK' fun _=>?_|refine kU' ?_|refine kB' fun _=>?_|refine kA' fun _=>?_|(apply kq; (· exact rfl); (· intro w1 h1; exact CallsTo.q (g56z (some ⟨b, 0, none⟩) w1 (Or.inr ⟨b, rfl, h1.rd_of memZ⟩)) h1)))
      all_goals (refine At.stage_same (fun _ h => St.sub h subZ) ?_))
    all_goals (
      apply DW.quiet [2, 3, 4]
      · decide +kernel
      · first | exact fun _ h => h | exact fun _ h => St.sub h subZ
      repeat'(first|refine yv' ?_|refine uv' ?_|refine un' ?_|(refine us' ?_ ?_;all_goals(intro hc;try simp only[hcs]at hc;try(exfalso;first|contradiction|omega)))|apply QL.nil)
      all_goals (show DW _ _ _ _ _ _ _ _))
    all_goals (
      apply DW.loud 5
      · exact rfl
      · decide +kernel
      repeat'(first|refine kg' ?_|refine kG' ?_|apply kM|refine kv' ?_|refine kK' fun _=>?_|refine kU' ?_|refine kB' fun _=>?_|refine kA' fun _=>?_|(apply kq; (· exact rfl); (· intro w1 h1; exact CallsTo.q (g56z (some ⟨b, 0, none⟩) w1 (Or.inr ⟨b, rfl, h1.rd_of memZ⟩)) h1)))
      all_goals (refine At.stage_same (fun _ h => St.sub h subZ) ?_))
    all_goals (
      apply DW.quiet [6, 7, 8, 9, 10, 11, 12, 13]
      · decide +kernel
      · first | exact fun _ h => h | exact fun _ h => St.sub h subZ
      repeat'(first|refine yv' ?_|refine uv' ?_|refine un' ?_|(refine us' ?_ ?_;all_goals(intro hc;try simp only[hcs]at hc;try(exfalso;first|contradiction|omega)))|apply QL.nil)
      all_goals (show DW _ _ _ _ _ _ _ _))
    all_goals (
      apply DW.loud 14
      · exact rfl
      · decide +kernel
      repeat'(first|refine kg' ?_|refine kG' ?_|apply kM|refine kv' ?_|refine kK' fun _=>?_|refine kU' ?_|refine kB' fun _=>?_|refine kA' fun _=>?_|(apply kq; (· exact rfl); (· intro w1 h1; exact CallsTo.q (g56z (some ⟨b, 0, none⟩) w1 (Or.inr ⟨b, rfl, h1.rd_of memZ⟩)) h1)))
      all_goals (refine At.stage_same (fun _ h => St.sub h subZ) ?_))
    all_goals (
      apply DW.quiet [15]
      · decide +kernel
      · first | exact fun _ h => h | exact fun _ h => St.sub h subZ
      repeat'(first|refine yv' ?_|refine uv' ?_|refine un' ?_|(refine us' ?_ ?_;all_goals(intro hc;try simp only[hcs]at hc;try(exfalso;first|contradiction|omega)))|apply QL.nil)
      all_goals (show DW _ _ _ _ _ _ _ _))
    all_goals (first | (apply DW.done_thn; (· decide +kernel)) | (apply DW.done; (· decide +kernel)))
    repeat'(first|refine kv' ?_|apply jJ|refine jE' ?_|refine jp' ?_|(apply jc;kernel_rfl)|refine kg' ?_|refine kG' ?_|refine kB' fun _=>?_|refine kA' fun _=>?_|refine kK' fun _=>?_|refine kU' ?_|((first|refine kR' ?_ ?_|refine kQ' ?_ ?_);all_goals(intro hc;try simp only[hcs]at hc;try(exfalso;first|contradiction|omega))))
    (apply ret2c; (· exact rfl); (· exact inferInstance); (· exact rfl); (· (repeat (first | exact List.Mem.head _ | apply List.Mem.tail))); (· exact rfl); intro w' hS)
    exact ⟨rfl, hS.toKeep⟩
theorem g36z (p : Option Addr) (k : Ky) (w : World) (h : noneG w p) : CallsTo Try.prog 36 [.pointer p, k.val] w fun v w' => v = .tuple [zeroK.val, .bool false].toArray ∧ Grew w w' := by
  rcases h with rfl | ⟨b, rfl, hr⟩
  · refine go_in (n := 47) (St.refl _ NoF) Try.func36 rfl rfl ?_
    repeat'(first|(apply CW.reg_heldC)|refine kv' ?_|apply jJ|refine jE' ?_|refine jp' ?_|(apply jc;kernel_rfl)|refine kg' ?_|refine kG' ?_|refine kB' fun _=>?_|refine kA' fun _=>?_|refine kK' fun _=>?_|refine kU' ?_|((first|refine kR' ?_ ?_|refine kQ' ?_ ?_);all_goals(intro hc;try simp only[hcs]at hc;try(exfalso;first|contradiction|omega))))
    all_goals (
      apply DW.quiet [0]
      · decide +kernel
      · first | exact fun _ h => h | exact fun _ h => St.sub h subZ
      repeat'(first|refine yv' ?_|refine uv' ?_|refine un' ?_|(refine us' ?_ ?_;all_goals(intro hc;try simp only[hcs]at hc;try(exfalso;first|contradiction|omega)))|apply QL.nil)
      all_goals (show DW _ _ _ _ _ _ _ _))
    all_goals (
      apply DW.loud 1
      · exact rfl
      · decide +kernel
      repeat'(first|refine kg' ?_|refine kG' ?_|apply kM|refine kv' ?_|refine kK' fun _=>?_|refine kU' ?_|refine kB' fun _=>?_|refine kA' fun _=>?_|(apply kq; (· exact rfl); (· intro w1 h1; exact CallsTo.q (g56z none w1 (Or.inl rfl)) h1)))
      all_goals (refine At.stage_same (fun _ h => St.sub h subZ) ?_))
    all_goals (
      apply DW.quiet [2, 3, 4]
      · decide +kernel
      · first | exact fun _ h => h | exact fun _ h => St.sub h subZ
      repeat'(first|refine yv' ?_|refine uv' ?_|refine un' ?_|(refine us' ?_ ?_;all_goals(intro hc;try simp only[hcs]at hc;try(exfalso;first|contradiction|omega)))|apply QL.nil)
      all_goals (show DW _ _ _ _ _ _ _ _))
    all_goals (
      apply DW.loud 5
      · exact rfl
      · decide +kernel
      repeat'(first|refine kg' ?_|refine kG' ?_|apply kM|refine kv' ?_|refine kK' fun _=>?_|refine kU' ?_|refine kB' fun _=>?_|refine kA' fun _=>?_|(apply kq; (· exact rfl); (· intro w1 h1; exact CallsTo.q (g56z none w1 (Or.inl rfl)) h1)))
      all_goals (refine At.stage_same (fun _ h => St.sub h subZ) ?_))
    all_goals (
      apply DW.quiet [6, 7, 8, 9, 10, 11, 12, 13]
      · decide +kernel
      · first | exact fun _ h => h | exact fun _ h => St.sub h subZ
      repeat'(first|refine yv' ?_|refine uv' ?_|refine un' ?_|(refine us' ?_ ?_;all_goals(intro hc;try simp only[hcs]at hc;try(exfalso;first|contradiction|omega)))|apply QL.nil)
      all_goals (show DW _ _ _ _ _ _ _ _))
    all_goals (
      apply DW.loud 14
      · exact rfl
      · decide +kernel
      repeat'(first|refine kg' ?_|refine kG' ?_|apply kM|refine kv' ?_|refine kK' fun _=>?_|refine kU' ?_|refine kB' fun _=>?_|refine kA' fun _=>?_|(apply kq; (· exact rfl); (· intro w1 h1; exact CallsTo.q (g56z none w1 (Or.inl rfl)) h1)))
      all_goals (refine At.stage_same (fun _ h => St.sub h subZ) ?_))
    all_goals (
      apply DW.quiet [15, 16, 17, 18, 19, 20, 21, 22, 23, 24, 25]
      · decide +kernel
      · first | exact fun _ h => h | exact fun _ h => St.sub h subZ
      repeat'(first|refine yv' ?_|refine uv' ?_|refine un' ?_|(refine us' ?_ ?_;all_goals(intro hc;try simp only[hcs]at hc;try(exfalso;first|contradiction|omega)))|apply QL.nil)
      all_goals (show DW _ _ _ _ _ _ _ _))
    all_goals (
      apply DW.loud 26
      · exact rfl
      · decide +kernel
      repeat'(first|refine kg' ?_|refine kG' ?_|apply kM|refine kv' ?_|refine kK' fun _=>?_|refine kU' ?_|refine kB' fun _=>?_|refine kA' fun _=>?_|(apply kq; (· exact rfl); (· intro w1 h1; exact CallsTo.q (g56z none w1 (Or.inl rfl)) h1)))
      all_goals (refine At.stage_same (fun _ h => St.sub h subZ) ?_))
    all_goals (
      apply DW.quiet [27, 28]
      · decide +kernel
      · first | exact fun _ h => h | exact fun _ h => St.sub h subZ
      repeat'(first|refine yv' ?_|refine uv' ?_|refine un' ?_|(refine us' ?_ ?_;all_goals(intro hc;try simp only[hcs]at hc;try(exfalso;first|contradiction|omega)))|apply QL.nil)
      all_goals (show DW _ _ _ _ _ _ _ _))
    all_goals (first | (apply DW.done_thn; (· decide +kernel)) | (apply DW.done; (· decide +kernel)))
    repeat'(first|refine kv' ?_|apply jJ|refine jE' ?_|refine jp' ?_|(apply jc;kernel_rfl)|refine kg' ?_|refine kG' ?_|refine kB' fun _=>?_|refine kA' fun _=>?_|refine kK' fun _=>?_|refine kU' ?_|((first|refine kR' ?_ ?_|refine kQ' ?_ ?_);all_goals(intro hc;try simp only[hcs]at hc;try(exfalso;first|contradiction|omega))))
    (apply ret2c; (· exact rfl); (· exact inferInstance); (· exact rfl); (· (repeat (first | exact List.Mem.head _ | apply List.Mem.tail))); (· exact rfl); intro w' hS)
    exact ⟨rfl, hS.toKeep⟩
  · refine go_in (n := 47) (St.rd1 hr) Try.func36 rfl rfl ?_
    repeat'(first|(apply CW.reg_heldC)|refine kv' ?_|apply jJ|refine jE' ?_|refine jp' ?_|(apply jc;kernel_rfl)|refine kg' ?_|refine kG' ?_|refine kB' fun _=>?_|refine kA' fun _=>?_|refine kK' fun _=>?_|refine kU' ?_|((first|refine kR' ?_ ?_|refine kQ' ?_ ?_);all_goals(intro hc;try simp only[hcs]at hc;try(exfalso;first|contradiction|omega))))
    all_goals (
      apply DW.quiet [0]
      · decide +kernel
      · first | exact fun _ h => h | exact fun _ h => St.sub h subZ
      repeat'(first|refine yv' ?_|refine uv' ?_|refine un' ?_|(refine us' ?_ ?_;all_goals(intro hc;try simp only[hcs]at hc;try(exfalso;first|contradiction|omega)))|apply QL.nil)
      all_goals (show DW _ _ _ _ _ _ _ _))
    all_goals (
      apply DW.loud 1
      · exact rfl
      · decide +kernel
      repeat'(first|refine kg' ?_|refine kG' ?_|apply kM|refine kv' ?_|refine kK' fun _=>?_|refine kU' ?_|refine kB' fun _=>?_|refine kA' fun _=>?_|(apply kq; (· exact rfl); (· intro w1 h1; exact CallsTo.q (g56z (some ⟨b, 0, none⟩) w1 (Or.inr ⟨b, rfl, h1.rd_of memZ⟩)) h1)))
      all_goals (refine At.stage_same (fun _ h => St.sub h subZ) ?_))
    all_goals (
      apply DW.quiet [2, 3, 4]
      · decide +kernel
      · first | exact fun _ h => h | exact fun _ h => St.sub h subZ
      repeat'(first|refine yv' ?_|refine uv' ?_|refine un' ?_|(refine us' ?_ ?_;all_goals(intro hc;try simp only[hcs]at hc;try(exfalso;first|contradiction|omega)))|apply QL.nil)
      all_goals (show DW _ _ _ _ _ _ _ _))
    all_goals (
      apply DW.loud 5
      · exact rfl
      · decide +kernel
      repeat'(first|refine kg' ?_|refine kG' ?_|apply kM|refine kv' ?_|refine kK' fun _=>?_|refine kU' ?_|refine kB' fun _=>?_|refine kA' fun _=>?_|(apply kq; (· exact rfl); (· intro w1 h1; exact CallsTo.q (g56z (some ⟨b, 0, none⟩) w1 (Or.inr ⟨b, rfl, h1.rd_of memZ⟩)) h1)))
      all_goals (refine At.stage_same (fun _ h => St.sub h subZ) ?_))
    all_goals (
      apply DW.quiet [6, 7, 8, 9, 10, 11, 12, 13]
      · decide +kernel
      · first | exact fun _ h => h | exact fun _ h => St.sub h subZ
      repeat'(first|refine yv' ?_|refine uv' ?_|refine un' ?_|(refine us' ?_ ?_;all_goals(intro hc;try simp only[hcs]at hc;try(exfalso;first|contradiction|omega)))|apply QL.nil)
      all_goals (show DW _ _ _ _ _ _ _ _))
    all_goals (
      apply DW.loud 14
      · exact rfl
      · decide +kernel
      repeat'(first|refine kg' ?_|refine kG' ?_|apply kM|refine kv' ?_|refine kK' fun _=>?_|refine kU' ?_|refine kB' fun _=>?_|refine kA' fun _=>?_|(apply kq; (· exact rfl); (· intro w1 h1; exact CallsTo.q (g56z (some ⟨b, 0, none⟩) w1 (Or.inr ⟨b, rfl, h1.rd_of memZ⟩)) h1)))
      all_goals (refine At.stage_same (fun _ h => St.sub h subZ) ?_))
    all_goals (
      apply DW.quiet [15, 16, 17, 18, 19, 20, 21, 22, 23, 24, 25]
      · decide +kernel
      · first | exact fun _ h => h | exact fun _ h => St.sub h subZ
      repeat'(first|refine yv' ?_|refine uv' ?_|refine un' ?_|(refine us' ?_ ?_;all_goals(intro hc;try simp only[hcs]at hc;try(exfalso;first|contradiction|omega)))|apply QL.nil)
      all_goals (show DW _ _ _ _ _ _ _ _))
    all_goals (
      apply DW.loud 26
      · exact rfl
      · decide +kernel
      repeat'(first|refine kg' ?_|refine kG' ?_|apply kM|refine kv' ?_|refine kK' fun _=>?_|refine kU' ?_|refine kB' fun _=>?_|refine kA' fun _=>?_|(apply kq; (· exact rfl); (· intro w1 h1; exact CallsTo.q (g56z (some ⟨b, 0, none⟩) w1 (Or.inr ⟨b, rfl, h1.rd_of memZ⟩)) h1)))
      all_goals (refine At.stage_same (fun _ h => St.sub h subZ) ?_))
    all_goals (
      apply DW.quiet [27, 28]
      · decide +kernel
      · first | exact fun _ h => h | exact fun _ h => St.sub h subZ
      repeat'(first|refine yv' ?_|refine uv' ?_|refine un' ?_|(refine us' ?_ ?_;all_goals(intro hc;try simp only[hcs]at hc;try(exfalso;first|contradiction|omega)))|apply QL.nil)
      all_goals (show DW _ _ _ _ _ _ _ _))
    all_goals (first | (apply DW.done_thn; (· decide +kernel)) | (apply DW.done; (· decide +kernel)))
    repeat'(first|refine kv' ?_|apply jJ|refine jE' ?_|refine jp' ?_|(apply jc;kernel_rfl)|refine kg' ?_|refine kG' ?_|refine kB' fun _=>?_|refine kA' fun _=>?_|refine kK' fun _=>?_|refine kU' ?_|((first|refine kR' ?_ ?_|refine kQ' ?_ ?_);all_goals(intro hc;try simp only[hcs]at hc;try(exfalso;first|contradiction|omega))))
    (apply ret2c; (· exact rfl); (· exact inferInstance); (· exact rfl); (· (repeat (first | exact List.Mem.head _ | apply List.Mem.tail))); (· exact rfl); intro w' hS)
    exact ⟨rfl, hS.toKeep⟩
theorem g34z (p : Option Addr) (k : Ky) (w : World) (h : noneG w p) : CallsTo Try.prog 34 [.pointer p, k.val] w fun v w' => v = .tuple #[] ∧ Grew w w' := by
  rcases h with rfl | ⟨b, rfl, hr⟩
  · refine go_in (n := 19) (St.refl _ NoF) Try.func34 rfl rfl ?_
    repeat'(first|(apply CW.reg_heldC)|refine kv' ?_|apply jJ|refine jE' ?_|refine jp' ?_|(apply jc;kernel_rfl)|refine kg' ?_|refine kG' ?_|refine kB' fun _=>?_|refine kA' fun _=>?_|refine kK' fun _=>?_|refine kU' ?_|((first|refine kR' ?_ ?_|refine kQ' ?_ ?_);all_goals(intro hc;try simp only[hcs]at hc;try(exfalso;first|contradiction|omega))))
    all_goals (
      apply DW.quiet [0]
      · decide +kernel
      · first | exact fun _ h => h | exact fun _ h => St.sub h subZ
      repeat'(first|refine yv' ?_|refine uv' ?_|refine un' ?_|(refine us' ?_ ?_;all_goals(intro hc;try simp only[hcs]at hc;try(exfalso;first|contradiction|omega)))|apply QL.nil)
      all_goals (show DW _ _ _ _ _ _ _ _))
    all_goals (
      apply DW.loud 1
      · exact rfl
      · decide +kernel
      repeat'(first|refine kg' ?_|refine kG' ?_|apply kM|refine kv' ?_|refine kK' fun _=>?_|refine kU' ?_|refine kB' fun _=>?_|refine kA' fun _=>?_|(apply kq; (· exact rfl); (· intro w1 h1; exact CallsTo.q (g53z none w1 (Or.inl rfl)) h1)))
      all_goals (refine At.stage_same (fun _ h => St.sub h subZ) ?_))
    all_goals (
      apply DW.quiet [2, 3, 4, 5, 6, 7, 8]
      · decide +kernel
      · first | exact fun _ h => h | exact fun _ h => St.sub h subZ
      repeat'(first|refine yv' ?_|refine uv' ?_|refine un' ?_|(refine us' ?_ ?_;all_goals(intro hc;try simp only[hcs]at hc;try(exfalso;first|contradiction|omega)))|apply QL.nil)
      all_goals (show DW _ _ _ _ _ _ _ _))
    all_goals (
      apply DW.loud 9
      · exact rfl
      · decide +kernel
      repeat'(first|refine kg' ?_|refine kG' ?_|apply kM|refine kv' ?_|refine kK' fun _=>?_|refine kU' ?_|refine kB' fun _=>?_|refine kA' fun _=>?_|(apply kq; (· exact rfl); (· intro w1 h1; exact CallsTo.q (g53z none w1 (Or.inl rfl)) h1)))
      all_goals (refine At.stage_same (fun _ h => St.sub h subZ) ?_))
    all_goals (
      apply DW.quiet [10]
      · decide +kernel
      · first | exact fun _ h => h | exact fun _ h => St.sub h subZ
      repeat'(first|refine yv' ?_|refine uv' ?_|refine un' ?_|(refine us' ?_ ?_;all_goals(intro hc;try simp only[hcs]at hc;try(exfalso;first|contradiction|omega)))|apply QL.nil)
      all_goals (show DW _ _ _ _ _ _ _ _))
    all_goals (first | (apply DW.done_thn; (· decide +kernel)) | (apply DW.done; (· decide +kernel)))
    repeat'(first|refine kv' ?_|apply jJ|refine jE' ?_|refine jp' ?_|(apply jc;kernel_rfl)|refine kg' ?_|refine kG' ?_|refine kB' fun _=>?_|refine kA' fun _=>?_|refine kK' fun _=>?_|refine kU' ?_|((first|refine kR' ?_ ?_|refine kQ' ?_ ?_);all_goals(intro hc;try simp only[hcs]at hc;try(exfalso;first|contradiction|omega))))
    apply end0; (· exact rfl); intro w' hS
    exact ⟨rfl, hS.toKeep⟩
  · refine go_in (n := 19) (St.rd1 hr) Try.func34 rfl rfl ?_
    repeat'(first|(apply CW.reg_heldC)|refine kv' ?_|apply jJ|refine jE' ?_|refine jp' ?_|(apply jc;kernel_rfl)|refine kg' ?_|refine kG' ?_|refine kB' fun _=>?_|refine kA' fun _=>?_|refine kK' fun _=>?_|refine kU' ?_|((first|refine kR' ?_ ?_|refine kQ' ?_ ?_);all_goals(intro hc;try simp only[hcs]at hc;try(exfalso;first|contradiction|omega))))
    all_goals (
      apply DW.quiet [0]
      · decide +kernel
      · first | exact fun _ h => h | exact fun _ h => St.sub h subZ
      repeat'(first|refine yv' ?_|refine uv' ?_|refine un' ?_|(refine us' ?_ ?_;all_goals(intro hc;try simp only[hcs]at hc;try(exfalso;first|contradiction|omega)))|apply QL.nil)
      all_goals (show DW _ _ _ _ _ _ _ _))
    all_goals (
      apply DW.loud 1
      · exact rfl
      · decide +kernel
      repeat'(first|refine kg' ?_|refine kG' ?_|apply kM|refine kv' ?_|refine kK' fun _=>?_|refine kU' ?_|refine kB' fun _=>?_|refine kA' fun _=>?_|(apply kq; (· exact rfl); (· intro w1 h1; exact CallsTo.q (g53z (some ⟨b, 0, none⟩) w1 (Or.inr ⟨b, rfl, h1.rd_of memZ⟩)) h1)))
      all_goals (refine At.stage_same (fun _ h => St.sub h subZ) ?_))
    all_goals (
      apply DW.quiet [2, 3, 4, 5, 6, 7, 8]
      · decide +kernel
      · first | exact fun _ h => h | exact fun _ h => St.sub h subZ
      repeat'(first|refine yv' ?_|refine uv' ?_|refine un' ?_|(refine us' ?_ ?_;all_goals(intro hc;try simp only[hcs]at hc;try(exfalso;first|contradiction|omega)))|apply QL.nil)
      all_goals (show DW _ _ _ _ _ _ _ _))
    all_goals (
      apply DW.loud 9
      · exact rfl
      · decide +kernel
      repeat'(first|refine kg' ?_|refine kG' ?_|apply kM|refine kv' ?_|refine kK' fun _=>?_|refine kU' ?_|refine kB' fun _=>?_|refine kA' fun _=>?_|(apply kq; (· exact rfl); (· intro w1 h1; exact CallsTo.q (g53z (some ⟨b, 0, none⟩) w1 (Or.inr ⟨b, rfl, h1.rd_of memZ⟩)) h1)))
      all_goals (refine At.stage_same (fun _ h => St.sub h subZ) ?_))
    all_goals (
      apply DW.quiet [10]
      · decide +kernel
      · first | exact fun _ h => h | exact fun _ h => St.sub h subZ
      repeat'(first|refine yv' ?_|refine uv' ?_|refine un' ?_|(refine us' ?_ ?_;all_goals(intro hc;try simp only[hcs]at hc;try(exfalso;first|contradiction|omega)))|apply QL.nil)
      all_goals (show DW _ _ _ _ _ _ _ _))
    all_goals (first | (apply DW.done_thn; (· decide +kernel)) | (apply DW.done; (· decide +kernel)))
    repeat'(first|refine kv' ?_|apply jJ|refine jE' ?_|refine jp' ?_|(apply jc;kernel_rfl)|refine kg' ?_|refine kG' ?_|refine kB' fun _=>?_|refine kA' fun _=>?_|refine kK' fun _=>?_|refine kU' ?_|((first|refine kR' ?_ ?_|refine kQ' ?_ ?_);all_goals(intro hc;try simp only[hcs]at hc;try(exfalso;first|contradiction|omega))))
    apply end0; (· exact rfl); intro w' hS
    exact ⟨rfl, hS.toKeep⟩
theorem g38z (p : Option Addr) (w : World) (h : noneG w p) : CallsTo Try.prog 38 [.pointer p] w fun v w' => v = .tuple #[] ∧ Grew w w' := by
  rcases h with rfl | ⟨b, rfl, hr⟩
  · refine go_in (n := 9) (St.refl _ NoF) Try.func38 rfl rfl ?_
    repeat'(first|refine kv' ?_|apply jJ|refine jE' ?_|refine jp' ?_|(apply jc;kernel_rfl)|refine kg' ?_|refine kG' ?_|refine kB' fun _=>?_|refine kA' fun _=>?_|refine kK' fun _=>?_|refine kU' ?_|(apply kq; (· exact rfl); (· intro w1 h1; exact CallsTo.q (g53z none w1 (Or.inl rfl)) h1))|((first|refine kR' ?_ ?_|refine kQ' ?_ ?_);all_goals(intro hc;try simp only[hcs]at hc;try(exfalso;first|contradiction|omega))))
    apply end0; (· exact rfl); intro w' hS
    exact ⟨rfl, hS.toKeep⟩
  · refine go_in (n := 9) (St.rd1 hr) Try.func38 rfl rfl ?_
    repeat'(first|refine kv' ?_|apply jJ|refine jE' ?_|refine jp' ?_|(apply jc;kernel_rfl)|refine kg' ?_|refine kG' ?_|refine kB' fun _=>?_|refine kA' fun _=>?_|refine kK' fun _=>?_|refine kU' ?_|(apply kq; (· exact rfl); (· intro w1 h1; exact CallsTo.q (g53z (some ⟨b, 0, none⟩) w1 (Or.inr ⟨b, rfl, h1.rd_of memZ⟩)) h1))|((first|refine kR' ?_ ?_|refine kQ' ?_ ?_);all_goals(intro hc;try simp only[hcs]at hc;try(exfalso;first|contradiction|omega))))
    apply end0; (· exact rfl); intro w' hS
    exact ⟨rfl, hS.toKeep⟩
theorem g42z (p : Option Addr) (k : Ky) (u : Value) (w : World) (h : noneG w p) : CallsTo Try.prog 42 [.pointer p, k.val, u] w fun v w' => v = .tuple [zeroMsg.val none 0, .int .i64 1].toArray ∧ Grew w w' := by
  rcases h with rfl | ⟨b, rfl, hr⟩
  · refine go_in (n := 42) (St.refl _ NoF) Try.func42 rfl rfl ?_
    repeat'(first|refine kv' ?_|apply jJ|refine jE' ?_|refine jp' ?_|(apply jc;kernel_rfl)|refine kg' ?_|refine kG' ?_|refine kB' fun _=>?_|refine kA' fun _=>?_|refine kK' fun _=>?_|refine kU' ?_|(apply kq; (· exact rfl); (· intro w1 h1; exact CallsTo.q (g53z none w1 (Or.inl rfl)) h1))|((first|refine kR' ?_ ?_|refine kQ' ?_ ?_);all_goals(intro hc;try simp only[hcs]at hc;try(exfalso;first|contradiction|omega))))
    (apply ret2c; (· exact rfl); (· exact inferInstance); (· exact rfl); (· (repeat (first | exact List.Mem.head _ | apply List.Mem.tail))); (· exact rfl); intro w' hS)
    exact ⟨rfl, hS.toKeep⟩
  · refine go_in (n := 42) (St.rd1 hr) Try.func42 rfl rfl ?_
    repeat'(first|refine kv' ?_|apply jJ|refine jE' ?_|refine jp' ?_|(apply jc;kernel_rfl)|refine kg' ?_|refine kG' ?_|refine kB' fun _=>?_|refine kA' fun _=>?_|refine kK' fun _=>?_|refine kU' ?_|(apply kq; (· exact rfl); (· intro w1 h1; exact CallsTo.q (g53z (some ⟨b, 0, none⟩) w1 (Or.inr ⟨b, rfl, h1.rd_of memZ⟩)) h1))|((first|refine kR' ?_ ?_|refine kQ' ?_ ?_);all_goals(intro hc;try simp only[hcs]at hc;try(exfalso;first|contradiction|omega))))
    (apply ret2c; (· exact rfl); (· exact inferInstance); (· exact rfl); (· (repeat (first | exact List.Mem.head _ | apply List.Mem.tail))); (· exact rfl); intro w' hS)
    exact ⟨rfl, hS.toKeep⟩
theorem g45z (p : Option Addr) (w : World) (h : noneG w p) : CallsTo Try.prog 45 [.pointer p] w fun v w' => v = zeroK.val ∧ Grew w w' := by
  rcases h with rfl | ⟨b, rfl, hr⟩
  · refine go_in (n := 10) (St.refl _ NoF) Try.func45 rfl rfl ?_
    repeat'(first|refine kv' ?_|apply jJ|refine jE' ?_|refine jp' ?_|(apply jc;kernel_rfl)|refine kg' ?_|refine kG' ?_|refine kB' fun _=>?_|refine kA' fun _=>?_|refine kK' fun _=>?_|refine kU' ?_|(apply kq; (· exact rfl); (· intro w1 h1; exact CallsTo.q (g53z none w1 (Or.inl rfl)) h1))|((first|refine kR' ?_ ?_|refine kQ' ?_ ?_);all_goals(intro hc;try simp only[hcs]at hc;try(exfalso;first|contradiction|omega))))
    (apply ret1c; (· exact rfl); (· exact inferInstance); (· exact rfl); (· (repeat (first | exact List.Mem.head _ | apply List.Mem.tail))); (· exact rfl); intro w' hS)
    exact ⟨rfl, hS.toKeep⟩
  · refine go_in (n := 10) (St.rd1 hr) Try.func45 rfl rfl ?_
    repeat'(first|refine kv' ?_|apply jJ|refine jE' ?_|refine jp' ?_|(apply jc;kernel_rfl)|refine kg' ?_|refine kG' ?_|refine kB' fun _=>?_|refine kA' fun _=>?_|refine kK' fun _=>?_|refine kU' ?_|(apply kq; (· exact rfl); (· intro w1 h1; exact CallsTo.q (g53z (some ⟨b, 0, none⟩) w1 (Or.inr ⟨b, rfl, h1.rd_of memZ⟩)) h1))|((first|refine kR' ?_ ?_|refine kQ' ?_ ?_);all_goals(intro hc;try simp only[hcs]at hc;try(exfalso;first|contradiction|omega))))
    (apply ret1c; (· exact rfl); (· exact inferInstance); (· exact rfl); (· (repeat (first | exact List.Mem.head _ | apply List.Mem.tail))); (· exact rfl); intro w' hS)
    exact ⟨rfl, hS.toKeep⟩
end Go.Proofs.Ytphcnaafhcfakaa

namespace Go.Proofs.Ytphcnaafhcfakaa
open Go.Hb
attribute [local irreducible] LR CW At Ev thn blk finK noG again CallsTo DW QL dnext TW
set_option maxRecDepth 100000

theorem g39 (node : Int) (w : World) (h : 1 ≤ node ∧ node ≤ 8) : CallsTo Try.prog 39 [.int .i64 node] w fun v w' => ∃ b, v = .tuple [.pointer (some ⟨b, 0, none⟩), .int .i64 0].toArray ∧ New1 (gO 111 b (newG node)) w w' := by
  refine go_in (n := 13) (St.refl _ NoF) Try.func39 rfl rfl ?_
  repeat'(first|refine kv' ?_|apply jJ|refine jE' ?_|refine jp' ?_|(apply jc;kernel_rfl)|refine kg' ?_|refine kG' ?_|refine kB' fun _=>?_|refine kA' fun _=>?_|refine kK' fun _=>?_|refine kU' ?_|((first|refine kR' ?_ ?_|refine kQ' ?_ ?_);all_goals(intro hc;try simp only[hcs]at hc;try(exfalso;first|contradiction|omega))))
  (apply ret2; (· exact rfl); intro w' hS)
  exact ⟨_, rfl, St.new1 hS rfl⟩
theorem g39n (node : Int) (w : World) (h : ¬ (1 ≤ node ∧ node ≤ 8)) : CallsTo Try.prog 39 [.int .i64 node] w fun v w' => v = .tuple [.pointer none, .int .i64 2].toArray ∧ Grew w w' := by
  refine go_in (n := 13) (St.refl _ NoF) Try.func39 rfl rfl ?_
  repeat'(first|refine kv' ?_|apply jJ|refine jE' ?_|refine jp' ?_|(apply jc;kernel_rfl)|refine kg' ?_|refine kG' ?_|refine kB' fun _=>?_|refine kA' fun _=>?_|refine kK' fun _=>?_|refine kU' ?_|((first|refine kR' ?_ ?_|refine kQ' ?_ ?_);all_goals(intro hc;try simp only[hcs]at hc;try(exfalso;first|contradiction|omega))))
  all_goals (
    (apply ret2; (· exact rfl); intro w' hS)
    exact ⟨rfl, hS⟩)
theorem g61 (b : Nat) (g : Gt) (k : Ky) (w : World) (h : w.heap[b]? = some (.cells g.cells.toArray 111 (0, 0))) : CallsTo Try.prog 61 [.pointer (some ⟨b, 0, none⟩), k.val] w fun v w' => Step (gO 111 b g) (gO 111 b (wantS g k)) w w' := by
  refine go_in (n := 14) (gO_in h) Try.func61 rfl rfl ?_
  repeat'(first|(apply CW.reg_heldC)|refine kv' ?_|apply jJ|refine jE' ?_|refine jp' ?_|(apply jc;kernel_rfl)|refine kg' ?_|refine kG' ?_|refine kB' fun _=>?_|refine kA' fun _=>?_|refine kK' fun _=>?_|refine kU' ?_|((first|refine kR' ?_ ?_|refine kQ' ?_ ?_);all_goals(intro hc;try simp only[hcs]at hc;try(exfalso;first|contradiction|omega))))
  all_goals (
    apply DW.quiet [0, 1, 2, 3, 4]
    · decide +kernel
    · first | exact fun _ h => h | exact fun _ h => St.sub h subZ
    repeat'(first|refine yv' ?_|refine uv' ?_|refine un' ?_|(refine us' ?_ ?_;all_goals(intro hc;try simp only[hcs]at hc;try(exfalso;first|contradiction|omega)))|apply QL.nil)
    all_goals (show DW _ _ _ _ _ _ _ _))
  all_goals (
    apply DW.loud 5
    · exact rfl
    · decide +kernel
    repeat'(first|refine kg' ?_|refine kG' ?_|apply kM|refine kv' ?_|refine kK' fun _=>?_|refine kU' ?_|refine kB' fun _=>?_|refine kA' fun _=>?_|(apply kq; (· exact rfl); (· intro w1 h1; exact CallsTo.q (g79 k g.w w1) h1)))
    all_goals (refine At.stage_same (fun _ h => St.sub h subZ) ?_))
  all_goals (first | (apply DW.done_thn; (· decide +kernel)) | (apply DW.done; (· decide +kernel)))
  repeat'(first|refine kv' ?_|apply jJ|refine jE' ?_|refine jp' ?_|(apply jc;kernel_rfl)|refine kg' ?_|refine kG' ?_|refine kB' fun _=>?_|refine kA' fun _=>?_|refine kK' fun _=>?_|refine kU' ?_|((first|refine kR' ?_ ?_|refine kQ' ?_ ?_);all_goals(intro hc;try simp only[hcs]at hc;try(exfalso;first|contradiction|omega))))
  all_goals (
    apply end0; (· exact rfl); intro w' hS
    first
    | (rw [show wantS g k = { g with w := k } by unfold wantS; rw [if_pos (by assumption)]]; exact (front hS 1 rfl rfl).step rfl)
    | (rw [show wantS g k = g by unfold wantS; rw [if_neg (by simp_all)]]; exact (front hS 1 rfl rfl).step rfl))
theorem lt_above {g : Gt} {k : Ky} (h : aboveB g.w g.p = true) : aboveB g.w k = decide (keysI k g.w < 0) := by
  unfold aboveB at h ⊢
  have := keysI_anti k g.w
  simp only [decide_eq_true_eq] at h
  rw [Bool.eq_iff_iff]
  simp only [decide_eq_true_eq, h.1, true_and]
  omega
set_option maxHeartbeats 1000000 in
theorem g62 (b : Nat) (g : Gt) (k : Ky) (w : World) (h : w.heap[b]? = some (.cells g.cells.toArray 111 (0, 0))) (hn : g.node ≠ 0) : CallsTo Try.prog 62 [.pointer (some ⟨b, 0, none⟩), k.val] w fun v w' => v = .tuple [(markM g k).val none 0, .bool (markB g k)].toArray ∧ Step (gO 111 b g) (gO 111 b (markS g k)) w w' := by
  refine go_in (n := 41) (gO_in h) Try.func62 rfl rfl ?_
  repeat'(first|(apply CW.reg_heldC)|refine kv' ?_|apply jJ|refine jE' ?_|refine jp' ?_|(apply jc;kernel_rfl)|refine kg' ?_|refine kG' ?_|refine kB' fun _=>?_|refine kA' fun _=>?_|refine kK' fun _=>?_|refine kU' ?_|((first|refine kR' ?_ ?_|refine kQ' ?_ ?_);all_goals(intro hc;try simp only[hcs]at hc;try(exfalso;first|contradiction|omega))))
  all_goals (
    apply DW.quiet [0]
    · decide +kernel
    · first | exact fun _ h => h | exact fun _ h => St.sub h subZ
    repeat'(first|refine yv' ?_|refine uv' ?_|refine un' ?_|(refine us' ?_ ?_;all_goals(intro hc;try simp only[hcs]at hc;try(exfalso;first|contradiction|omega)))|apply QL.nil)
    all_goals (show DW _ _ _ _ _ _ _ _))
  all_goals (
    apply DW.loud 1
    · exact rfl
    · decide +kernel
    repeat'(first|refine kg' ?_|refine kG' ?_|apply kM|refine kv' ?_|refine kK' fun _=>?_|refine kU' ?_|refine kB' fun _=>?_|refine kA' fun _=>?_|(apply kq; (· exact rfl); (· intro w1 h1; exact CallsTo.q (g79 g.w g.p w1) h1))|(apply kq; (· exact rfl); (· intro w1 h1; exact CallsTo.q (g81 k g.w w1) h1))|(apply kq; (· exact rfl); (· intro w1 h1; exact CallsTo.q (c63 k.t k.s k.r k.q w1) h1)))
    all_goals (refine At.stage_same (fun _ h => St.sub h subZ) ?_))
  all_goals (
    apply DW.quiet [2, 3, 4, 5, 6, 7, 8, 9, 10, 11]
    · decide +kernel
    · first | exact fun _ h => h | exact fun _ h => St.sub h subZ
    repeat'(first|refine yv' ?_|refine uv' ?_|refine un' ?_|(refine us' ?_ ?_;all_goals(intro hc;try simp only[hcs]at hc;try(exfalso;first|contradiction|omega)))|apply QL.nil)
    all_goals (show DW _ _ _ _ _ _ _ _))
  all_goals (
    apply DW.loud 12
    · exact rfl
    · decide +kernel
    repeat'(first|refine kg' ?_|refine kG' ?_|apply kM|refine kv' ?_|refine kK' fun _=>?_|refine kU' ?_|refine kB' fun _=>?_|refine kA' fun _=>?_|(apply kq; (· exact rfl); (· intro w1 h1; exact CallsTo.q (g79 g.w g.p w1) h1))|(apply kq; (· exact rfl); (· intro w1 h1; exact CallsTo.q (g81 k g.w w1) h1))|(apply kq; (· exact rfl); (· intro w1 h1; exact CallsTo.q (c63 k.t k.s k.r k.q w1) h1)))
    all_goals (refine At.stage_same (fun _ h => St.sub h subZ) ?_))
  all_goals (
    apply DW.quiet [13, 14, 15, 16, 17, 18, 19, 20]
    · decide +kernel
    · first | exact fun _ h => h | exact fun _ h => St.sub h subZ
    repeat'(first|refine yv' ?_|refine uv' ?_|refine un' ?_|(refine us' ?_ ?_;all_goals(intro hc;try simp only[hcs]at hc;try(exfalso;first|contradiction|omega)))|apply QL.nil)
    all_goals (show DW _ _ _ _ _ _ _ _))
  all_goals (
    apply DW.loud 21
    · exact rfl
    · decide +kernel
    repeat'(first|refine kg' ?_|refine kG' ?_|apply kM|refine kv' ?_|refine kK' fun _=>?_|refine kU' ?_|refine kB' fun _=>?_|refine kA' fun _=>?_|(apply kq; (· exact rfl); (· intro w1 h1; exact CallsTo.q (g79 g.w g.p w1) h1))|(apply kq; (· exact rfl); (· intro w1 h1; exact CallsTo.q (g81 k g.w w1) h1))|(apply kq; (· exact rfl); (· intro w1 h1; exact CallsTo.q (c63 k.t k.s k.r k.q w1) h1)))
    all_goals (refine At.stage_same (fun _ h => St.sub h subZ) ?_))
  all_goals (
    apply DW.quiet [22, 23]
    · decide +kernel
    · first | exact fun _ h => h | exact fun _ h => St.sub h subZ
    repeat'(first|refine yv' ?_|refine uv' ?_|refine un' ?_|(refine us' ?_ ?_;all_goals(intro hc;try simp only[hcs]at hc;try(exfalso;first|contradiction|omega)))|apply QL.nil)
    all_goals (show DW _ _ _ _ _ _ _ _))
  all_goals (first | (apply DW.done_thn; (· decide +kernel)) | (apply DW.done; (· decide +kernel)))
  repeat'(first|(apply CW.reg_held1)|refine kv' ?_|apply jJ|refine jE' ?_|refine jp' ?_|(apply jc;kernel_rfl)|refine kg' ?_|refine kG' ?_|refine kB' fun _=>?_|refine kA' fun _=>?_|refine kK' fun _=>?_|refine kU' ?_|((first|refine kR' ?_ ?_|refine kQ' ?_ ?_);all_goals(intro hc;try simp only[hcs]at hc;try(exfalso;first|contradiction|omega))))
  rotate_right
  · skip
    all_goals (
      apply DW.quiet [0, 1, 2, 3, 4, 5]
      · decide +kernel
      · first | exact fun _ h => h | exact fun _ h => St.sub h subZ
      repeat'(first|refine yv' ?_|refine uv' ?_|refine un' ?_|(refine us' ?_ ?_;all_goals(intro hc;try simp only[hcs]at hc;try(exfalso;first|contradiction|omega)))|apply QL.nil)
      all_goals (show DW _ _ _ _ _ _ _ _))
    all_goals (
      apply DW.loud 6
      · exact rfl
      · decide +kernel
      repeat'(first|refine kg' ?_|refine kG' ?_|apply kM|refine kv' ?_|refine kK' fun _=>?_|refine kU' ?_|refine kB' fun _=>?_|refine kA' fun _=>?_)
      all_goals (refine At.stage_same (fun _ h => St.sub h subZ) ?_))
    all_goals (
      apply DW.quiet [7]
      · decide +kernel
      · first | exact fun _ h => h | exact fun _ h => St.sub h subZ
      repeat'(first|refine yv' ?_|refine uv' ?_|refine un' ?_|(refine us' ?_ ?_;all_goals(intro hc;try simp only[hcs]at hc;try(exfalso;first|contradiction|omega)))|apply QL.nil)
      all_goals (show DW _ _ _ _ _ _ _ _))
    all_goals (first | (apply DW.done_thn; (· decide +kernel)) | (apply DW.done; (· decide +kernel)))
    repeat'(first|refine kv' ?_|apply jJ|refine jE' ?_|refine jp' ?_|(apply jc;kernel_rfl)|refine kg' ?_|refine kG' ?_|refine kB' fun _=>?_|refine kA' fun _=>?_|refine kK' fun _=>?_|refine kU' ?_|((first|refine kR' ?_ ?_|refine kQ' ?_ ?_);all_goals(intro hc;try simp only[hcs]at hc;try(exfalso;first|contradiction|omega))))
    (apply ret2c; (· exact rfl); (· exact inferInstance); (· exact rfl); (· (repeat (first | exact List.Mem.head _ | apply List.Mem.tail))); (· exact rfl); intro w' hS)
    have e : markB g k = true := by have := @lt_above g k; simp_all [markB, okK, owesB]
    unfold markM markS
    simp only [e, if_true]
    exact ⟨rfl, (front hS 2 rfl rfl).step rfl⟩
  all_goals (
    (apply ret2c; (· exact rfl); (· exact inferInstance); (· exact rfl); (· (repeat (first | exact List.Mem.head _ | apply List.Mem.tail))); (· exact rfl); intro w' hS)
    have e : markB g k = false := by have := @lt_above g k; simp_all [markB, okK, owesB]
    unfold markM markS
    simp only [e, Bool.false_eq_true, if_false]
    exact ⟨rfl, (front hS 2 rfl rfl).step rfl⟩)
set_option maxHeartbeats 1000000 in
theorem g63 (b : Nat) (g : Gt) (k : Ky) (w : World) (h : w.heap[b]? = some (.cells g.cells.toArray 111 (0, 0))) (hn : g.node ≠ 0) : CallsTo Try.prog 63 [.pointer (some ⟨b, 0, none⟩), k.val] w fun v w' => v = .tuple [(askK g k).val, .bool (askB g k)].toArray ∧ Step (gO 111 b g) (gO 111 b (askS g k)) w w' := by
  refine go_in (n := 54) (gO_in h) Try.func63 rfl rfl ?_
  repeat'(first|(apply CW.reg_heldC)|refine kv' ?_|apply jJ|refine jE' ?_|refine jp' ?_|(apply jc;kernel_rfl)|refine kg' ?_|refine kG' ?_|refine kB' fun _=>?_|refine kA' fun _=>?_|refine kK' fun _=>?_|refine kU' ?_|((first|refine kR' ?_ ?_|refine kQ' ?_ ?_);all_goals(intro hc;try simp only[hcs]at hc;try(exfalso;first|contradiction|omega))))
  all_goals (
    apply DW.quiet [0]
    · decide +kernel
    · first | exact fun _ h => h | exact fun _ h => St.sub h subZ
    repeat'(first|refine yv' ?_|refine uv' ?_|refine un' ?_|(refine us' ?_ ?_;all_goals(intro hc;try simp only[hcs]at hc;try(exfalso;first|contradiction|omega)))|apply QL.nil)
    all_goals (show DW _ _ _ _ _ _ _ _))
  all_goals (
    apply DW.loud 1
    · exact rfl
    · decide +kernel
    repeat'(first|refine kg' ?_|refine kG' ?_|apply kM|refine kv' ?_|refine kK' fun _=>?_|refine kU' ?_|refine kB' fun _=>?_|refine kA' fun _=>?_|(apply kq; (· exact rfl); (· intro w1 h1; exact CallsTo.q (g79 g.w g.p w1) h1))|(apply kq; (· exact rfl); (· intro w1 h1; exact CallsTo.q (g79 g.w k w1) h1))|(apply kq; (· exact rfl); (· intro w1 h1; exact CallsTo.q (g79 g.w g.a w1) h1))|(apply kq; (· exact rfl); (· intro w1 h1; exact CallsTo.q (c63 k.t k.s k.r k.q w1) h1)))
    all_goals (refine At.stage_same (fun _ h => St.sub h subZ) ?_))
  all_goals (
    apply DW.quiet [2, 3, 4, 5, 6, 7, 8, 9, 10, 11]
    · decide +kernel
    · first | exact fun _ h => h | exact fun _ h => St.sub h subZ
    repeat'(first|refine yv' ?_|refine uv' ?_|refine un' ?_|(refine us' ?_ ?_;all_goals(intro hc;try simp only[hcs]at hc;try(exfalso;first|contradiction|omega)))|apply QL.nil)
    all_goals (show DW _ _ _ _ _ _ _ _))
  all_goals (
    apply DW.loud 12
    · exact rfl
    · decide +kernel
    repeat'(first|refine kg' ?_|refine kG' ?_|apply kM|refine kv' ?_|refine kK' fun _=>?_|refine kU' ?_|refine kB' fun _=>?_|refine kA' fun _=>?_|(apply kq; (· exact rfl); (· intro w1 h1; exact CallsTo.q (g79 g.w g.p w1) h1))|(apply kq; (· exact rfl); (· intro w1 h1; exact CallsTo.q (g79 g.w k w1) h1))|(apply kq; (· exact rfl); (· intro w1 h1; exact CallsTo.q (g79 g.w g.a w1) h1))|(apply kq; (· exact rfl); (· intro w1 h1; exact CallsTo.q (c63 k.t k.s k.r k.q w1) h1)))
    all_goals (refine At.stage_same (fun _ h => St.sub h subZ) ?_))
  all_goals (
    apply DW.quiet [13, 14, 15, 16, 17, 18, 19, 20]
    · decide +kernel
    · first | exact fun _ h => h | exact fun _ h => St.sub h subZ
    repeat'(first|refine yv' ?_|refine uv' ?_|refine un' ?_|(refine us' ?_ ?_;all_goals(intro hc;try simp only[hcs]at hc;try(exfalso;first|contradiction|omega)))|apply QL.nil)
    all_goals (show DW _ _ _ _ _ _ _ _))
  all_goals (
    apply DW.loud 21
    · exact rfl
    · decide +kernel
    repeat'(first|refine kg' ?_|refine kG' ?_|apply kM|refine kv' ?_|refine kK' fun _=>?_|refine kU' ?_|refine kB' fun _=>?_|refine kA' fun _=>?_|(apply kq; (· exact rfl); (· intro w1 h1; exact CallsTo.q (g79 g.w g.p w1) h1))|(apply kq; (· exact rfl); (· intro w1 h1; exact CallsTo.q (g79 g.w k w1) h1))|(apply kq; (· exact rfl); (· intro w1 h1; exact CallsTo.q (g79 g.w g.a w1) h1))|(apply kq; (· exact rfl); (· intro w1 h1; exact CallsTo.q (c63 k.t k.s k.r k.q w1) h1)))
    all_goals (refine At.stage_same (fun _ h => St.sub h subZ) ?_))
  all_goals (
    apply DW.quiet [22, 23, 24, 25, 26, 27, 28, 29, 30, 31, 32]
    · decide +kernel
    · first | exact fun _ h => h | exact fun _ h => St.sub h subZ
    repeat'(first|refine yv' ?_|refine uv' ?_|refine un' ?_|(refine us' ?_ ?_;all_goals(intro hc;try simp only[hcs]at hc;try(exfalso;first|contradiction|omega)))|apply QL.nil)
    all_goals (show DW _ _ _ _ _ _ _ _))
  all_goals (
    apply DW.loud 33
    · exact rfl
    · decide +kernel
    repeat'(first|refine kg' ?_|refine kG' ?_|apply kM|refine kv' ?_|refine kK' fun _=>?_|refine kU' ?_|refine kB' fun _=>?_|refine kA' fun _=>?_|(apply kq; (· exact rfl); (· intro w1 h1; exact CallsTo.q (g79 g.w g.p w1) h1))|(apply kq; (· exact rfl); (· intro w1 h1; exact CallsTo.q (g79 g.w k w1) h1))|(apply kq; (· exact rfl); (· intro w1 h1; exact CallsTo.q (g79 g.w g.a w1) h1))|(apply kq; (· exact rfl); (· intro w1 h1; exact CallsTo.q (c63 k.t k.s k.r k.q w1) h1)))
    all_goals (refine At.stage_same (fun _ h => St.sub h subZ) ?_))
  all_goals (
    apply DW.quiet [34, 35]
    · decide +kernel
    · first | exact fun _ h => h | exact fun _ h => St.sub h subZ
    repeat'(first|refine yv' ?_|refine uv' ?_|refine un' ?_|(refine us' ?_ ?_;all_goals(intro hc;try simp only[hcs]at hc;try(exfalso;first|contradiction|omega)))|apply QL.nil)
    all_goals (show DW _ _ _ _ _ _ _ _))
  all_goals (first | (apply DW.done_thn; (· decide +kernel)) | (apply DW.done; (· decide +kernel)))
  repeat'(first|refine kv' ?_|apply jJ|refine jE' ?_|refine jp' ?_|(apply jc;kernel_rfl)|refine kg' ?_|refine kG' ?_|refine kB' fun _=>?_|refine kA' fun _=>?_|refine kK' fun _=>?_|refine kU' ?_|((first|refine kR' ?_ ?_|refine kQ' ?_ ?_);all_goals(intro hc;try simp only[hcs]at hc;try(exfalso;first|contradiction|omega))))
  rotate_right
  · (apply ret2c; (· exact rfl); (· exact inferInstance); (· exact rfl); (· (repeat (first | exact List.Mem.head _ | apply List.Mem.tail))); (· exact rfl); intro w' hS)
    have e : askB g k = true := by simp_all [askB, okK, owesB]
    unfold askK askS
    simp only [e, if_true]
    exact ⟨rfl, (front hS 2 rfl rfl).step rfl⟩
  all_goals (
    (apply ret2c; (· exact rfl); (· exact inferInstance); (· exact rfl); (· (repeat (first | exact List.Mem.head _ | apply List.Mem.tail))); (· exact rfl); intro w' hS)
    have e : askB g k = false := by simp_all [askB, okK, owesB]
    unfold askK askS
    simp only [e, Bool.false_eq_true, if_false]
    exact ⟨rfl, (front hS 2 rfl rfl).step rfl⟩)
theorem g65 (b : Nat) (g : Gt) (w : World) (h : w.heap[b]? = some (.cells g.cells.toArray 111 (0, 0))) : CallsTo Try.prog 65 [.pointer (some ⟨b, 0, none⟩)] w fun v w' => Step (gO 111 b g) (gO 111 b { g with a := zeroK }) w w' := by
  refine go_in (n := 6) (gO_in h) Try.func65 rfl rfl ?_
  repeat'(first|refine kv' ?_|apply jJ|refine jE' ?_|refine jp' ?_|(apply jc;kernel_rfl)|refine kg' ?_|refine kG' ?_|refine kB' fun _=>?_|refine kA' fun _=>?_|refine kK' fun _=>?_|refine kU' ?_|((first|refine kR' ?_ ?_|refine kQ' ?_ ?_);all_goals(intro hc;try simp only[hcs]at hc;try(exfalso;first|contradiction|omega))))
  apply end0; (· exact rfl); intro w' hS
  exact hS.step rfl
theorem g66 (b : Nat) (g : Gt) (w : World) (h : Rd w (some ⟨b, 0, none⟩) g.cells) : CallsTo Try.prog 66 [.pointer (some ⟨b, 0, none⟩)] w fun v w' => v = g.p.val ∧ Grew w w' := by
  refine go_in (n := 7) (St.rd1 h) Try.func66 rfl rfl ?_
  repeat'(first|refine kv' ?_|apply jJ|refine jE' ?_|refine jp' ?_|(apply jc;kernel_rfl)|refine kg' ?_|refine kG' ?_|refine kB' fun _=>?_|refine kA' fun _=>?_|refine kK' fun _=>?_|refine kU' ?_|((first|refine kR' ?_ ?_|refine kQ' ?_ ?_);all_goals(intro hc;try simp only[hcs]at hc;try(exfalso;first|contradiction|omega))))
  (apply ret1c; (· exact rfl); (· exact inferInstance); (· exact rfl); (· (repeat (first | exact List.Mem.head _ | apply List.Mem.tail))); (· exact rfl); intro w' hS)
  exact ⟨rfl, hS.toKeep⟩
set_option maxHeartbeats 1000000 in
theorem g64 (b : Nat) (g : Gt) (k : Ky) (a : Option Addr) (c : Nat) (ps : List Plc) (w : World) (h : w.heap[b]? = some (.cells g.cells.toArray 111 (0, 0))) (hr : Rd w a (pcs ps)) (hd : ∀ x, rdFoot a (pcs ps) x → x ≠ b) (hm : ps.length ≤ 281474976710656) (hi : plcsI ps) :
    CallsTo Try.prog 64 [.pointer (some ⟨b, 0, none⟩), k.val, .slice a ps.length c] w fun v w' => ∃ a2 c2, v = .tuple [(beginM g k ps).val a2 c2, .int .i64 (beginE k ps)].toArray ∧
      St w (gO 111 b g).foot [gO 111 b (beginS g k ps), osl (.slice a2 (beginM g k ps).body.length c2) 5 1 (beginM g k ps).body.length (bv (beginM g k ps).body)] w' := by
  refine go_in (n := 39) ((gO_in h).addRd hr hd) Try.func64 rfl rfl ?_
  repeat'(first|refine kv' ?_|apply jJ|refine jE' ?_|refine jp' ?_|(apply jc;kernel_rfl)|refine kg' ?_|refine kG' ?_|refine kB' fun _=>?_|refine kA' fun _=>?_|refine kK' fun _=>?_|refine kU' ?_|((first|refine kR' ?_ ?_|refine kQ' ?_ ?_);all_goals(intro hc;try simp only[hcs]at hc;try(exfalso;first|contradiction|omega))))
  apply LR.call
  · exact rfl
  intro w1 h1
  refine (c29 a c ps w1 (h1.rd_of memZ) hm hi).mono ?_
  rintro v w2 ⟨a1, c1, rfl, hn1⟩
  refine LR.back (h1.newSl hn1) ?_
  clear hn1 h1
  repeat'(first|(apply CW.reg_heldC)|refine kv' ?_|apply jJ|refine jE' ?_|refine jp' ?_|(apply jc;kernel_rfl)|refine kg' ?_|refine kG' ?_|refine kB' fun _=>?_|refine kA' fun _=>?_|refine kK' fun _=>?_|refine kU' ?_|(apply kq; (· exact rfl); (· intro w1 h1; exact CallsTo.q (c63 k.t k.s k.r k.q w1) h1))|((first|refine kR' ?_ ?_|refine kQ' ?_ ?_);all_goals(intro hc;try simp only[hcs]at hc;try(exfalso;first|contradiction|omega))))
  rotate_right
  · skip
    all_goals (
      apply DW.quiet [0, 1, 2, 3, 4]
      · decide +kernel
      · first | exact fun _ h => h | exact fun _ h => St.sub h subZ
      repeat'(first|refine yv' ?_|refine uv' ?_|refine un' ?_|(refine us' ?_ ?_;all_goals(intro hc;try simp only[hcs]at hc;try(exfalso;first|contradiction|omega)))|apply QL.nil)
      all_goals (show DW _ _ _ _ _ _ _ _))
    all_goals (
      apply DW.loud 5
      · exact rfl
      · decide +kernel
      repeat'(first|refine kg' ?_|refine kG' ?_|apply kM|refine kv' ?_|refine kK' fun _=>?_|refine kU' ?_|refine kB' fun _=>?_|refine kA' fun _=>?_|(apply kq; (· exact rfl); (· intro w1 h1; exact CallsTo.q (g79 k g.p w1) h1)))
      all_goals (refine At.stage_same (fun _ h => St.sub h subZ) ?_))
    all_goals (first | (apply DW.done_thn; (· decide +kernel)) | (apply DW.done; (· decide +kernel)))
    repeat'(first|refine kv' ?_|apply jJ|refine jE' ?_|refine jp' ?_|(apply jc;kernel_rfl)|refine kg' ?_|refine kG' ?_|refine kB' fun _=>?_|refine kA' fun _=>?_|refine kK' fun _=>?_|refine kU' ?_|((first|refine kR' ?_ ?_|refine kQ' ?_ ?_);all_goals(intro hc;try simp only[hcs]at hc;try(exfalso;first|contradiction|omega))))
    all_goals (
      (apply ret2c; (· exact rfl); (· exact inferInstance); (· exact rfl); (· (repeat (first | exact List.Mem.head _ | apply List.Mem.tail))); (· exact rfl); intro w' hS)
      have e : beginB k ps = true := by simp_all [beginB, okK]
      unfold beginM beginS beginE
      simp only [e, if_true, true_and]
      first
      | (rw [if_pos (by assumption)]; exact ⟨a1, c1, rfl, (front hS 4 rfl rfl).pair⟩)
      | (rw [if_neg (by simp_all)]; exact ⟨a1, c1, rfl, (front hS 4 rfl rfl).pair⟩))
  all_goals (
    (apply ret2c; (· exact rfl); (· exact inferInstance); (· exact rfl); (· (repeat (first | exact List.Mem.head _ | apply List.Mem.tail))); (· exact rfl); intro w' hS)
    have e : beginB k ps = false := by simp_all [beginB, okK]
    unfold beginM beginS beginE
    simp only [e, Bool.false_eq_true, if_false, false_and]
    exact ⟨none, 0, rfl, (front (hS.nilsl 5 1) 5 rfl rfl).pair⟩)
set_option maxHeartbeats 1000000 in
theorem g59 (b : Nat) (g : Gt) (x : Itm) (a : Option Addr) (c : Nat) (w : World) (h : w.heap[b]? = some (.cells g.cells.toArray 111 (0, 0))) (hr : Rd w a (bv x.m.body)) (hd : ∀ y, rdFoot a (bv x.m.body) y → y ≠ b) (hz : a = none → c = 0) (hm : x.m.body.length ≤ 140737488355328) (hb : Byt x.m.body) (hp : plcI x.p) :
    CallsTo Try.prog 59 [.pointer (some ⟨b, 0, none⟩), x.val a c] w fun v w' => ∃ a2 c2, v = .tuple [(passM g x).val a2 c2, .bool (passB g x)].toArray ∧
      St w (gO 111 b g).foot [gO 111 b (passS g x), osl (.slice a2 (passM g x).body.length c2) 5 1 (passM g x).body.length (bv (passM g x).body)] w' := by
  refine go_in (n := 67) ((gO_in h).addRd hr hd) Try.func59 rfl rfl ?_
  repeat'(first|(apply CW.reg_heldC)|refine kv' ?_|apply jJ|refine jE' ?_|refine jp' ?_|(apply jc;kernel_rfl)|refine kg' ?_|refine kG' ?_|refine kB' fun _=>?_|refine kA' fun _=>?_|refine kK' fun _=>?_|refine kU' ?_|((first|refine kR' ?_ ?_|refine kQ' ?_ ?_);all_goals(intro hc;try simp only[hcs]at hc;try(exfalso;first|contradiction|omega))))
  all_goals (
    apply DW.quiet [0, 1, 2, 3, 4, 5]
    · decide +kernel
    · first | exact fun _ h => h | exact fun _ h => St.sub h subZ
    repeat'(first|refine yv' ?_|refine uv' ?_|refine un' ?_|(refine us' ?_ ?_;all_goals(intro hc;try simp only[hcs]at hc;try(exfalso;first|contradiction|omega)))|apply QL.nil)
    all_goals (show DW _ _ _ _ _ _ _ _))
  all_goals (
    apply DW.loud 6
    · exact rfl
    · decide +kernel
    repeat'(first|refine kg' ?_|refine kG' ?_|apply kM|refine kv' ?_|refine kK' fun _=>?_|refine kU' ?_|refine kB' fun _=>?_|refine kA' fun _=>?_|(apply kq; (· exact rfl); (· intro w1 h1; exact CallsTo.q (g79 x.k g.p w1) h1)))
    all_goals (refine At.stage_same (fun _ h => St.sub h subZ) ?_))
  all_goals (
    apply DW.quiet [7]
    · decide +kernel
    · first | exact fun _ h => h | exact fun _ h => St.sub h subZ
    repeat'(first|refine yv' ?_|refine uv' ?_|refine un' ?_|(refine us' ?_ ?_;all_goals(intro hc;try simp only[hcs]at hc;try(exfalso;first|contradiction|omega)))|apply QL.nil)
    all_goals (show DW _ _ _ _ _ _ _ _))
  all_goals (first | (apply DW.done_thn; (· decide +kernel)) | (apply DW.done; (· decide +kernel)))
  repeat'(first|refine kv' ?_|apply jJ|refine jE' ?_|refine jp' ?_|(apply jc;kernel_rfl)|refine kg' ?_|refine kG' ?_|refine kB' fun _=>?_|refine kA' fun _=>?_|refine kK' fun _=>?_|refine kU' ?_|(apply kq; (· exact rfl); (· intro w1 h1; have hq := CallsTo.q (d18 x.m a c w1 (h1.rd_of memZ) hz hm hb) h1; show CallsTo Try.prog 47 [x.m.val a c] w1 _; exact hq))|((first|refine kR' ?_ ?_|refine kQ' ?_ ?_);all_goals(intro hc;try simp only[hcs]at hc;try(exfalso;first|contradiction|omega))))
  · (apply ret2c; (· exact rfl); (· exact inferInstance); (· exact rfl); (· (repeat (first | exact List.Mem.head _ | apply List.Mem.tail))); (· exact rfl); intro w' hS)
    have e : passB g x = false := by simp_all [passB]
    unfold passM passS
    simp only [e, Bool.false_eq_true, if_false]
    exact ⟨none, 0, rfl, (front (hS.nilsl 5 1) 4 rfl rfl).pair⟩
  iterate 2 (
    · (apply ret2c; (· exact rfl); (· exact inferInstance); (· exact rfl); (· (repeat (first | exact List.Mem.head _ | apply List.Mem.tail))); (· exact rfl); intro w' hS)
      have e : passB g x = false := by simp_all [passB, itemB]
      unfold passM passS
      simp only [e, Bool.false_eq_true, if_false]
      exact ⟨none, 0, rfl, (front (hS.nilsl 5 1) 5 rfl rfl).pair⟩
  )
  iterate 2 (
    · have hk : x.m.kind = 1 ∨ x.m.kind = 4 := by simp_all
      apply LR.call
      · exact rfl
      intro w1 h1
      refine CallsTo.mono (show CallsTo Try.prog 12 [x.m.val a c] w1 _ from c14 x.m a c w1 (h1.rd_of memZ) hz hm) ?_
      rintro v w2 ⟨a1, c1, rfl, hn1⟩
      refine LR.back (h1.newSl hn1) ?_
      clear hn1 h1
      repeat'(first|refine kv' ?_|apply jJ|refine jE' ?_|refine jp' ?_|(apply jc;kernel_rfl)|refine kg' ?_|refine kG' ?_|refine kB' fun _=>?_|refine kA' fun _=>?_|refine kK' fun _=>?_|refine kU' ?_|((first|refine kR' ?_ ?_|refine kQ' ?_ ?_);all_goals(intro hc;try simp only[hcs]at hc;try(exfalso;first|contradiction|omega))))
      (apply ret2c; (· exact rfl); (· exact inferInstance); (· exact rfl); (· (repeat (first | exact List.Mem.head _ | apply List.Mem.tail))); (· exact rfl); intro w' hS)
      have e0 : itemM g x = x.m := by unfold itemM; rw [if_neg (by assumption), if_pos hk]
      have e : passB g x = true := by simp_all [passB, itemB]
      unfold passM passS
      simp only [e, if_true, e0]
      exact ⟨a1, c1, rfl, (front hS 5 rfl rfl).pair⟩
  )
  have hpi : plcsI [x.p] := fun q hq => by simp at hq; subst hq; exact hp
  apply LR.call
  · exact rfl
  intro w1 h1
  refine CallsTo.mono (show CallsTo Try.prog 80 [.slice (some ⟨_, 0, none⟩) 1 1] w1 _ from c29 _ 1 [x.p] w1 (h1.rd_of_blk memZ) (by simp) hpi) ?_
  rintro v w2 ⟨a1, c1, rfl, hn1⟩
  refine LR.back (h1.newSl hn1) ?_
  clear hn1 h1
  repeat'(first|refine kv' ?_|apply jJ|refine jE' ?_|refine jp' ?_|(apply jc;kernel_rfl)|refine kg' ?_|refine kG' ?_|refine kB' fun _=>?_|refine kA' fun _=>?_|refine kK' fun _=>?_|refine kU' ?_|((first|refine kR' ?_ ?_|refine kQ' ?_ ?_);all_goals(intro hc;try simp only[hcs]at hc;try(exfalso;first|contradiction|omega))))
  · (apply ret2c; (· exact rfl); (· exact inferInstance); (· exact rfl); (· (repeat (first | exact List.Mem.head _ | apply List.Mem.tail))); (· exact rfl); intro w' hS)
    have e : passB g x = false := by simp_all [passB, itemB]
    unfold passM passS
    simp only [e, Bool.false_eq_true, if_false]
    exact ⟨none, 0, rfl, (front (hS.nilsl 5 1) 7 rfl rfl).pair⟩
  · (apply ret2c; (· exact rfl); (· exact inferInstance); (· exact rfl); (· (repeat (first | exact List.Mem.head _ | apply List.Mem.tail))); (· exact rfl); intro w' hS)
    have e0 : itemM g x = chartM g.node (charts [x.p]).1 := by unfold itemM; rw [if_pos (by assumption)]
    have e : passB g x = true := by simp_all [passB, itemB]
    unfold passM passS
    simp only [e, if_true, e0]
    exact ⟨a1, c1, rfl, (front hS 6 rfl rfl).pair⟩
end Go.Proofs.Ytphcnaafhcfakaa

namespace Go.Proofs.Ytphcnaafhcfakaa
open Go.Hb Go.ChangeShapes Go.WideShapes
attribute [local irreducible] LR CW At Ev thn blk finK noG again CallsTo DW QL dnext TW
set_option maxRecDepth 100000

def sameI (x y : Itm) : Bool := decide ([x.k.t, x.k.s, x.k.r, x.k.q] = [y.k.t, y.k.s, y.k.r, y.k.q]) && decide ([x.p.ring, x.p.seq, x.p.rep, x.p.members] = [y.p.ring, y.p.seq, y.p.rep, y.p.members]) && sameB x.m y.m
theorem sameI_self (x : Itm) : sameI x x = true := by simp [sameI, sameB_self]
theorem g58 (x : Itm) (a : Option Addr) (c : Nat) (w : World) (hr : Rd w a (bv x.m.body)) (hz : a = none → c = 0) (hm : x.m.body.length ≤ 140737488355328) :
    CallsTo Try.prog 58 [x.val a c] w fun v w' => ∃ a2 c2, v = x.val a2 c2 ∧ NewSl w w' (.slice a2 x.m.body.length c2) 5 1 x.m.body.length (bv x.m.body) := by
  refine go_in (n := 10) (St.rd1 hr) Try.func58 rfl rfl ?_
  repeat'(first|refine kv' ?_|apply jJ|refine jE' ?_|refine jp' ?_|(apply jc;kernel_rfl)|refine kg' ?_|refine kG' ?_|refine kB' fun _=>?_|refine kA' fun _=>?_|refine kK' fun _=>?_|refine kU' ?_|((first|refine kR' ?_ ?_|refine kQ' ?_ ?_);all_goals(intro hc;try simp only[hcs]at hc;try(exfalso;first|contradiction|omega))))
  apply LR.call
  · exact rfl
  intro w1 h1
  refine CallsTo.mono (show CallsTo Try.prog 12 [x.m.val a c] w1 _ from c14 x.m a c w1 (h1.rd_of memZ) hz hm) ?_
  rintro v w2 ⟨a1, c1, rfl, hn1⟩
  refine LR.back (h1.newSl hn1) ?_
  clear hn1 h1
  repeat'(first|refine kv' ?_|apply jJ|refine jE' ?_|refine jp' ?_|(apply jc;kernel_rfl)|refine kg' ?_|refine kG' ?_|refine kB' fun _=>?_|refine kA' fun _=>?_|refine kK' fun _=>?_|refine kU' ?_|((first|refine kR' ?_ ?_|refine kQ' ?_ ?_);all_goals(intro hc;try simp only[hcs]at hc;try(exfalso;first|contradiction|omega))))
  (apply ret1c; (· exact rfl); (· exact inferInstance); (· exact rfl); (· (repeat (first | exact List.Mem.head _ | apply List.Mem.tail))); (· exact rfl); intro w' hS)
  exact ⟨a1, c1, rfl, hS.toNew memZ⟩
theorem g60 (x y : Itm) (a b : Option Addr) (c d : Nat) (w : World) (hx : Rd w a (bv x.m.body)) (hy : Rd w b (bv y.m.body)) (hm : x.m.body.length ≤ 140737488355328) :
    CallsTo Try.prog 60 [x.val a c, y.val b d] w fun v w' => v = .bool (sameI x y) ∧ Grew w w' := by
  refine go_in (n := 24) (St.rd2 hx hy) Try.func60 rfl rfl ?_
  repeat'(first|refine kv' ?_|apply jJ|refine jE' ?_|refine jp' ?_|(apply jc;kernel_rfl)|refine kg' ?_|refine kG' ?_|refine kB' fun _=>?_|refine kA' fun _=>?_|refine kK' fun _=>?_|refine kU' ?_|(apply kq; (· exact rfl); (· intro w1 h1; have hq := CallsTo.q (c20 x.m y.m a b c d w1 (h1.rd_of memZ) (h1.rd_of memZ) hm) h1; show CallsTo Try.prog 17 [x.m.val a c, y.m.val b d] w1 _; exact hq))|((first|refine kR' ?_ ?_|refine kQ' ?_ ?_);all_goals(intro hc;try simp only[hcs]at hc;try(exfalso;first|contradiction|omega))))
  all_goals (
    (apply ret1; (· exact rfl); intro w' hS)
    refine ⟨congrArg Value.bool ?_, hS.toKeep⟩
    simp_all [sameI])
def stepS (g : Gt) (d : Doo) : Gt :=
  if bring d.kind 6 = 0 then passS g d.x else if bring d.kind 6 = 1 then wantS g d.x.k else if bring d.kind 6 = 2 then markS g d.x.k else if bring d.kind 6 = 3 then askS g d.x.k else if bring d.kind 6 = 4 then beginS g d.x.k d.ps else { g with a := zeroK }
theorem stepS_node (g : Gt) (d : Doo) : (stepS g d).node = g.node := by
  unfold stepS passS wantS markS askS beginS
  repeat' split
  all_goals rfl

set_option maxHeartbeats 8000000 in
theorem g40 (bg br : Nat) (g : Gt) (d : Doo) (a : Option Addr) (c : Nat) (ak : Option Addr) (ck : Nat) (w : World) (h : (both (gO 95 bg g) (gO 111 br g)).holds w) (hn : g.node ≠ 0)
    (hr : Rd w a (bv d.x.m.body)) (hz : a = none → c = 0) (hm : d.x.m.body.length ≤ 140737488355328) (hb : Byt d.x.m.body) (hp : plcI d.x.p) (hd : ∀ y, rdFoot a (bv d.x.m.body) y → ¬ (both (gO 95 bg g) (gO 111 br g)).foot y)
    (hrk : Rd w ak (pcs d.ps)) (hmk : d.ps.length ≤ 281474976710656) (hik : plcsI d.ps) (hdk : ∀ y, rdFoot ak (pcs d.ps) y → ¬ (both (gO 95 bg g) (gO 111 br g)).foot y) :
    CallsTo Try.prog 40 [.pointer (some ⟨bg, 0, none⟩), .pointer (some ⟨br, 0, none⟩), d.val a c ak ck] w fun v w' => v = .bool true ∧ Step (both (gO 95 bg g) (gO 111 br g)) (both (gO 95 bg (stepS g d)) (gO 111 br (stepS g d))) w w' := by
  have hda : ∀ y, rdFoot a (bv d.x.m.body) y → y ≠ bg ∧ y ≠ br := fun y hy => ⟨fun e => hd y hy (.inl e), fun e => hd y hy (.inr e)⟩
  have hdp : ∀ y, rdFoot ak (pcs d.ps) y → y ≠ bg ∧ y ≠ br := fun y hy => ⟨fun e => hdk y hy (.inl e), fun e => hdk y hy (.inr e)⟩
  have hS0 := St.one h (both_live h) (both_dep (Asrt.dep_own _ _) (Asrt.dep_own _ _))
  have hS1 := (front ((hS0.addRd hr hd).addRd hrk hdk) 2 rfl rfl).part (Asrt.dep_own _ _) (Asrt.dep_own _ _)
  generalize hF : (both (gO 95 bg g) (gO 111 br g)).foot = F at *
  refine go_in (n := 169) (hS1.cast (L' := [gO 95 bg g, gO 111 br g, rdA ak (pcs d.ps), rdA a (bv d.x.m.body)]) rfl) Try.func40 rfl rfl ?_
  have hk : bring d.kind 6 = 0 ∨ bring d.kind 6 = 1 ∨ bring d.kind 6 = 2 ∨ bring d.kind 6 = 3 ∨ bring d.kind 6 = 4 ∨ bring d.kind 6 = 5 := by have := bring_bd d.kind 6 (by omega); omega
  have hg41 := fun w1 => g41 d a c ak ck w1
  have fin : ∀ (g' : Gt) (R : List Asrt) (w' : World), g' = stepS g d → St w F (gO 95 bg g' :: gO 111 br g' :: R) w' → Step (both (gO 95 bg g) (gO 111 br g)) (both (gO 95 bg (stepS g d)) (gO 111 br (stepS g d))) w w' := by
    intro g' R w' e hS
    subst e
    subst hF
    exact (hS.join rfl rfl).step rfl
  rcases hk with hk | hk | hk | hk | hk | hk
  · have e : passS g d.x = stepS g d := by unfold stepS; rw [if_pos hk]
    have el : (passM g d.x).body.length ≤ 140737488355328 := by
      unfold passM
      split
      · unfold itemM fromM
        split
        · have := charts_len [d.x.p]
          show (charts [d.x.p]).1.length ≤ _
          omega
        · split
          · exact hm
          · simp [zeroMsg]
      · simp [zeroMsg]
    cases hmb : passB g d.x
    all_goals (
      repeat'(first|refine kv' ?_|apply jJ|refine jE' ?_|refine jp' ?_|(apply jc;kernel_rfl)|refine kg' ?_|refine kG' ?_|refine kB' fun _=>?_|refine kA' fun _=>?_|refine kK' fun _=>?_|refine kU' ?_|(apply kq; (· exact rfl); (· intro w1 h1; have hq := CallsTo.q (hg41 w1) h1; rw [hk] at hq; exact hq))|((first|refine kR' ?_ ?_|refine kQ' ?_ ?_);all_goals(intro hc;try simp only[hcs]at hc;try(exfalso;first|contradiction|omega))))
      rename_i b5 b7
      apply LR.call
      · exact rfl
      intro w1 h1
      refine CallsTo.mono (show CallsTo Try.prog 58 [d.x.val a c] w1 _ from g58 d.x a c w1 (h1.rd_of memZ) hz hm) ?_
      rintro v w2 ⟨ai, ci, rfl, hn1⟩
      have hzi := hn1.some_of
      refine LR.back (h1.newSl hn1) ?_
      clear hn1 h1
      repeat'(first|refine kv' ?_|apply jJ|refine jE' ?_|refine jp' ?_|(apply jc;kernel_rfl)|refine kg' ?_|refine kG' ?_|refine kB' fun _=>?_|refine kA' fun _=>?_|refine kK' fun _=>?_|refine kU' ?_|((first|refine kR' ?_ ?_|refine kQ' ?_ ?_);all_goals(intro hc;try simp only[hcs]at hc;try(exfalso;first|contradiction|omega))))
      rename_i b8
      apply LR.call
      · exact rfl
      intro w1 h1
      have hh := g32 bg g d.x ai ci w1 (h1.own_at memZ) hn (h1.rd_of_own memZ) (fun y hy e => (front h1 1 rfl rfl).apart (y := gO 95 bg g) memZ rfl y (St.osl_foot hy) e) (fun e => (hzi e).2) hm hb hp
      rw [hmb] at hh
      refine CallsTo.mono (show CallsTo Try.prog 32 [.pointer (some ⟨bg, 0, none⟩), d.x.val ai ci] w1 _ from hh) ?_
      clear hh
      rintro v w2 ⟨a1, c1, rfl, st⟩
      have h2 := h1.two st rfl rfl rfl selZ
      refine LR.back h2 ?_
      clear h2 h1
      repeat'(first|refine kv' ?_|apply jJ|refine jE' ?_|refine jp' ?_|(apply jc;kernel_rfl)|refine kg' ?_|refine kG' ?_|refine kB' fun _=>?_|refine kA' fun _=>?_|refine kK' fun _=>?_|refine kU' ?_|((first|refine kR' ?_ ?_|refine kQ' ?_ ?_);all_goals(intro hc;try simp only[hcs]at hc;try(exfalso;first|contradiction|omega))))
      rename_i b9
      apply LR.call
      · exact rfl
      intro w1 h1
      have hh := g59 br g d.x a c w1 (h1.own_at memZ) (h1.rd_of memZ) (fun y hy => (hda y hy).2) hz hm hb hp
      rw [hmb] at hh
      refine CallsTo.mono (show CallsTo Try.prog 59 [.pointer (some ⟨br, 0, none⟩), d.x.val a c] w1 _ from hh) ?_
      clear hh
      rintro v w2 ⟨a2, c2, rfl, st⟩
      have h2 := h1.two st rfl rfl rfl selZ
      refine LR.back h2 ?_
      clear h2 h1
      repeat'(first|refine kv' ?_|apply jJ|refine jE' ?_|refine jp' ?_|(apply jc;kernel_rfl)|refine kg' ?_|refine kG' ?_|refine kB' fun _=>?_|refine kA' fun _=>?_|refine kK' fun _=>?_|refine kU' ?_|(apply kq; (· exact rfl); (· intro w1 h1; have hq := CallsTo.q (c20 (passM g d.x) (passM g d.x) a1 a2 c1 c2 w1 (h1.rd_of_own memZ) (h1.rd_of_own memZ) el) h1; rw [sameB_self] at hq; show CallsTo Try.prog 17 [(passM g d.x).val a1 c1, (passM g d.x).val a2 c2] w1 _; exact hq))|((first|refine kR' ?_ ?_|refine kQ' ?_ ?_);all_goals(intro hc;try simp only[hcs]at hc;try(exfalso;first|contradiction|omega))))
      generalize hM : passM g d.x = M at *
      apply CW.loop [13, 62, 63, 64, 65, 66, 67, 68, 69, 70, 71, 72, 73, 74, 75, 76, 77, 78] (fun s : Nat × List Int => s.1 ≤ M.body.length ∧ s.2.length = M.body.length) (fun s => [(13, Value.int .i64 (s.1 : Int))])
        (fun s => St w F [osl (.slice a1 M.body.length c1) 5 1 M.body.length (bv s.2), .own b9 (.cells (M.cells a1 c1).toArray 28 (0, 0)), .own b8 (.cells (d.x.cells ai ci).toArray 72 (0, 0)), osl (.slice ai d.x.m.body.length ci) 5 1 d.x.m.body.length (bv d.x.m.body), .own b5 (.cells (d.cells a c ak ck).toArray 87 (0, 0)), gO 95 bg (passS g d.x), gO 111 br (passS g d.x), rdA a (bv d.x.m.body)]) (fun s => M.body.length - s.1)
      · exact fun w' hw' => ⟨(0, M.body), ⟨by simp, rfl⟩, ⟨rfl, trivial⟩, (front hw' 3 rfl rfl).sub subZ⟩
      rintro ⟨i, l'⟩ gg ⟨hi, hl'⟩
      simp only at hi hl' ⊢
      by_cases hlt : i < M.body.length
      · have hne : (bv l') ≠ [] := fun e => by have := congrArg List.length e; simp at this; subst this; simp at hl'; omega
        refine LR_cls_cw fun w1 hw1 => ?_
        obtain ⟨bx, ox, rfl⟩ := (ownsRow_rd hw1.g0).form hne
        refine CW.sub (D := St w F _) ?_ (fun u e => e ▸ hw1)
        repeat'(first|(apply CW.reg_held1)|refine kv' ?_|apply jJ|refine jE' ?_|refine jp' ?_|(apply jc;kernel_rfl)|refine kg' ?_|refine kG' ?_|refine kB' fun _=>?_|refine kA' fun _=>?_|refine kK' fun _=>?_|refine kU' ?_|((first|refine kR' ?_ ?_|refine kQ' ?_ ?_);all_goals(intro hc;try simp only[hcs]at hc;try(exfalso;first|contradiction|omega))))
        apply DW.quiet [0, 1, 2, 3, 4, 5, 6]
        · decide +kernel
        · exact fun _ h => h.tail1
        repeat'(first|refine yv' ?_|(apply QL.ev; (· exact rfl); (· apply Ev.indexAddr; (· exact rfl); (· exact rfl); (· first | omega | (dsimp only; omega)); (· first | omega | (dsimp only; omega))); (· exact rfl))|refine uv' ?_|refine un' ?_|apply QL.nil)
        apply DW.loud 7
        · exact rfl
        · decide +kernel
        repeat'(first|refine kv' ?_|apply jJ|refine jE' ?_|refine jp' ?_|(apply jc;kernel_rfl)|refine kg' ?_|refine kG' ?_|refine kB' fun _=>?_|refine kA' fun _=>?_|refine kK' fun _=>?_|refine kU' ?_|(apply LR.ev; (· apply Ev.load_osl; (· exact rfl); (· (repeat (first | exact mH _ _ | apply mT))); (· exact bv_at (l := l') (i := i) (by simp) (by omega))); (· exact rfl))|((first|refine kR' ?_ ?_|refine kQ' ?_ ?_);all_goals(intro hc;try simp only[hcs]at hc;try(exfalso;first|contradiction|omega))))
        refine At.stage_same (fun _ h => h.tail1) ?_
        apply DW.quiet [8, 9]
        · decide +kernel
        · exact fun _ h => h.tail1
        repeat'(first|refine yv' ?_|(apply QL.ev; (· exact rfl); (· apply Ev.indexAddr; (· exact rfl); (· exact rfl); (· first | omega | (dsimp only; omega)); (· first | omega | (dsimp only; omega))); (· exact rfl))|refine uv' ?_|refine un' ?_|apply QL.nil)
        apply DW.loud 10
        · exact rfl
        · decide +kernel
        refine LR.store_obj (v := .int .u8 (xorI .u8 l'[i] 90)) (z' := osl (.slice (some ⟨bx, ox, none⟩) M.body.length c1) 5 1 M.body.length (bv (l'.set i (xorI .u8 l'[i] 90)))) rfl rfl (sH _ _ _) rfl ?_ (osl.dep _ _ _ _ _) ?_
        · have st := Stores.osl (P := Try.prog) (T := 5) (q := 1) (b := bx) (o := ox) (i := (i : Int).toNat * 1) (n := M.body.length) (c := c1) (v := .int .u8 (xorI .u8 l'[i] 90)) (vs := [.int .u8 (xorI .u8 l'[i] 90)]) (xs := bv l') (E := 5) (sz := 1) inferInstance rfl rfl rfl (by simp; omega)
          rw [show (i : Int).toNat * 1 = i by omega] at st ⊢
          rwa [splice_bv _ _ _ (by omega)] at st
        repeat'(first|refine kv' ?_|apply jJ|refine jE' ?_|refine jp' ?_|(apply jc;kernel_rfl)|refine kg' ?_|refine kG' ?_|refine kB' fun _=>?_|refine kA' fun _=>?_|refine kK' fun _=>?_|refine kU' ?_|((first|refine kR' ?_ ?_|refine kQ' ?_ ?_);all_goals(intro hc;try simp only[hcs]at hc;try(exfalso;first|contradiction|omega))))
        refine At.stage_same (fun _ h => h.tail1) ?_
        apply DW.done
        · kernel_rfl
        repeat'(first|refine kv' ?_|apply jJ|refine jE' ?_|refine jp' ?_|(apply jc;kernel_rfl)|refine kg' ?_|refine kG' ?_|refine kB' fun _=>?_|refine kA' fun _=>?_|refine kK' fun _=>?_|refine kU' ?_|(apply addX;(iterate 2 exact rfl);(iterate 2(first|omega|(dsimp only;omega)));exact rfl)|((first|refine kR' ?_ ?_|refine kQ' ?_ ?_);all_goals(intro hc;try simp only[hcs]at hc;try(exfalso;first|contradiction|omega))))
        apply At.again (i + 1, l'.set i (xorI .u8 l'[i] 90)) ⟨by show i + 1 ≤ _; omega, by simp [hl']⟩
        · (repeat (first | exact Out.refl _ _ | exact Out.mix | (apply Out.upd; (· exact rfl)) | (apply Out.updL; (· exact rfl)) | (apply Out.mixs; (· exact rfl))))
        · exact ⟨rfl, trivial⟩
        · exact fun w' hw' => hw'
        · show M.body.length - (i + 1) < M.body.length - i; omega
      · repeat'(first|refine kv' ?_|apply jJ|refine jE' ?_|refine jp' ?_|(apply jc;kernel_rfl)|refine kg' ?_|refine kG' ?_|refine kB' fun _=>?_|refine kA' fun _=>?_|refine kK' fun _=>?_|refine kU' ?_|(apply kq; (· exact rfl); (· intro w1 h1; have hq := CallsTo.q (g60 d.x d.x ai a ci c w1 (h1.rd_of_own memZ) (h1.rd_of memZ) hm) h1; rw [sameI_self] at hq; show CallsTo Try.prog 60 [d.x.val ai ci, d.x.val a c] w1 _; exact hq))|(apply kq; (· exact rfl); (· intro w1 h1; exact CallsTo.q (g45 bg (passS g d.x) w1 (h1.rd_of_blk memZ) (by rw [e, stepS_node]; exact hn)) h1))|(apply kq; (· exact rfl); (· intro w1 h1; exact CallsTo.q (g66 br (passS g d.x) w1 (h1.rd_of_blk memZ)) h1))|((first|refine kR' ?_ ?_|refine kQ' ?_ ?_);all_goals(intro hc;try simp only[hcs]at hc;try(exfalso;first|contradiction|omega))))
        (apply ret1; (· exact rfl); intro w' hS)
        exact ⟨congrArg Value.bool (by simp), fin _ _ _ e (front (front hS 6 rfl rfl) 6 rfl rfl)⟩
      )
  · have e : wantS g d.x.k = stepS g d := by unfold stepS; rw [if_neg (by omega), if_pos hk]
    repeat'(first|refine kv' ?_|apply jJ|refine jE' ?_|refine jp' ?_|(apply jc;kernel_rfl)|refine kg' ?_|refine kG' ?_|refine kB' fun _=>?_|refine kA' fun _=>?_|refine kK' fun _=>?_|refine kU' ?_|(apply kq; (· exact rfl); (· intro w1 h1; have hq := CallsTo.q (hg41 w1) h1; rw [hk] at hq; exact hq))|((first|refine kR' ?_ ?_|refine kQ' ?_ ?_);all_goals(intro hc;try simp only[hcs]at hc;try(exfalso;first|contradiction|omega))))
    apply LR.call
    · exact rfl
    intro w1 h1
    have hh := g34 bg g d.x.k w1 (h1.own_at memZ) hn
    skip
    refine CallsTo.mono hh ?_
    clear hh
    rintro v w2 st
    have h2 := h1.one' st rfl (Asrt.dep_own _ _) selZ
    refine LR.back h2 ?_
    clear h2 h1
    repeat'(first|refine kv' ?_|apply jJ|refine jE' ?_|refine jp' ?_|(apply jc;kernel_rfl)|refine kg' ?_|refine kG' ?_|refine kB' fun _=>?_|refine kA' fun _=>?_|refine kK' fun _=>?_|refine kU' ?_|((first|refine kR' ?_ ?_|refine kQ' ?_ ?_);all_goals(intro hc;try simp only[hcs]at hc;try(exfalso;first|contradiction|omega))))
    apply LR.call
    · exact rfl
    intro w1 h1
    have hh := g61 br g d.x.k w1 (h1.own_at memZ)
    skip
    refine CallsTo.mono hh ?_
    clear hh
    rintro v w2 st
    have h2 := h1.one' st rfl (Asrt.dep_own _ _) selZ
    refine LR.back h2 ?_
    clear h2 h1
    repeat'(first|refine kv' ?_|apply jJ|refine jE' ?_|refine jp' ?_|(apply jc;kernel_rfl)|refine kg' ?_|refine kG' ?_|refine kB' fun _=>?_|refine kA' fun _=>?_|refine kK' fun _=>?_|refine kU' ?_|(apply kq; (· exact rfl); (· intro w1 h1; exact CallsTo.q (g45 bg (wantS g d.x.k) w1 (h1.rd_of_blk memZ) (by rw [e, stepS_node]; exact hn)) h1))|(apply kq; (· exact rfl); (· intro w1 h1; exact CallsTo.q (g66 br (wantS g d.x.k) w1 (h1.rd_of_blk memZ)) h1))|((first|refine kR' ?_ ?_|refine kQ' ?_ ?_);all_goals(intro hc;try simp only[hcs]at hc;try(exfalso;first|contradiction|omega))))
    (apply ret1; (· exact rfl); intro w' hS)
    exact ⟨congrArg Value.bool (by simp), fin _ _ _ e (front (front hS 3 rfl rfl) 3 rfl rfl)⟩
  · have e : markS g d.x.k = stepS g d := by unfold stepS; rw [if_neg (by omega), if_neg (by omega), if_pos hk]
    have eb : (markM g d.x.k).body = [] := by unfold markM; split <;> rfl
    cases hmb : markB g d.x.k
    all_goals (
      repeat'(first|refine kv' ?_|apply jJ|refine jE' ?_|refine jp' ?_|(apply jc;kernel_rfl)|refine kg' ?_|refine kG' ?_|refine kB' fun _=>?_|refine kA' fun _=>?_|refine kK' fun _=>?_|refine kU' ?_|(apply kq; (· exact rfl); (· intro w1 h1; have hq := CallsTo.q (hg41 w1) h1; rw [hk] at hq; exact hq))|((first|refine kR' ?_ ?_|refine kQ' ?_ ?_);all_goals(intro hc;try simp only[hcs]at hc;try(exfalso;first|contradiction|omega))))
      apply LR.call
      · exact rfl
      intro w1 h1
      have hh := g37 bg g d.x.k w1 (h1.own_at memZ)
      rw [hmb] at hh
      refine CallsTo.mono hh ?_
      clear hh
      rintro v w2 ⟨rfl, st⟩
      have h2 := h1.one' st rfl (Asrt.dep_own _ _) selZ
      refine LR.back h2 ?_
      clear h2 h1
      repeat'(first|refine kv' ?_|apply jJ|refine jE' ?_|refine jp' ?_|(apply jc;kernel_rfl)|refine kg' ?_|refine kG' ?_|refine kB' fun _=>?_|refine kA' fun _=>?_|refine kK' fun _=>?_|refine kU' ?_|((first|refine kR' ?_ ?_|refine kQ' ?_ ?_);all_goals(intro hc;try simp only[hcs]at hc;try(exfalso;first|contradiction|omega))))
      apply LR.call
      · exact rfl
      intro w1 h1
      have hh := g62 br g d.x.k w1 (h1.own_at memZ) hn
      rw [hmb] at hh
      refine CallsTo.mono hh ?_
      clear hh
      rintro v w2 ⟨rfl, st⟩
      have h2 := h1.one' st rfl (Asrt.dep_own _ _) selZ
      refine LR.back h2 ?_
      clear h2 h1
      repeat'(first|refine kv' ?_|apply jJ|refine jE' ?_|refine jp' ?_|(apply jc;kernel_rfl)|refine kg' ?_|refine kG' ?_|refine kB' fun _=>?_|refine kA' fun _=>?_|refine kK' fun _=>?_|refine kU' ?_|(apply kq; (· exact rfl); (· intro w1 h1; exact CallsTo.q (g45 bg (markS g d.x.k) w1 (h1.rd_of_blk memZ) (by rw [e, stepS_node]; exact hn)) h1))|(apply kq; (· exact rfl); (· intro w1 h1; exact CallsTo.q (g66 br (markS g d.x.k) w1 (h1.rd_of_blk memZ)) h1))|(apply kq; (· exact rfl); (· intro w1 h1; have hq := CallsTo.q (c20 (markM g d.x.k) (markM g d.x.k) none none 0 0 w1 (by rw [eb]; exact Rd.nil _ _) (by rw [eb]; exact Rd.nil _ _) (by rw [eb]; simp)) h1; rw [sameB_self] at hq; show CallsTo Try.prog 17 [(markM g d.x.k).val none 0, (markM g d.x.k).val none 0] w1 _; exact hq))|((first|refine kR' ?_ ?_|refine kQ' ?_ ?_);all_goals(intro hc;try simp only[hcs]at hc;try(exfalso;first|contradiction|omega))))
      (apply ret1; (· exact rfl); intro w' hS)
      exact ⟨congrArg Value.bool (by simp), fin _ _ _ e (front (front hS 5 rfl rfl) 5 rfl rfl)⟩
      )
  · have e : askS g d.x.k = stepS g d := by unfold stepS; rw [if_neg (by omega), if_neg (by omega), if_neg (by omega), if_pos hk]
    cases hmb : askB g d.x.k
    all_goals (
      repeat'(first|refine kv' ?_|apply jJ|refine jE' ?_|refine jp' ?_|(apply jc;kernel_rfl)|refine kg' ?_|refine kG' ?_|refine kB' fun _=>?_|refine kA' fun _=>?_|refine kK' fun _=>?_|refine kU' ?_|(apply kq; (· exact rfl); (· intro w1 h1; have hq := CallsTo.q (hg41 w1) h1; rw [hk] at hq; exact hq))|((first|refine kR' ?_ ?_|refine kQ' ?_ ?_);all_goals(intro hc;try simp only[hcs]at hc;try(exfalso;first|contradiction|omega))))
      apply LR.call
      · exact rfl
      intro w1 h1
      have hh := g36 bg g d.x.k w1 (h1.own_at memZ)
      rw [hmb] at hh
      refine CallsTo.mono hh ?_
      clear hh
      rintro v w2 ⟨rfl, st⟩
      have h2 := h1.one' st rfl (Asrt.dep_own _ _) selZ
      refine LR.back h2 ?_
      clear h2 h1
      repeat'(first|refine kv' ?_|apply jJ|refine jE' ?_|refine jp' ?_|(apply jc;kernel_rfl)|refine kg' ?_|refine kG' ?_|refine kB' fun _=>?_|refine kA' fun _=>?_|refine kK' fun _=>?_|refine kU' ?_|((first|refine kR' ?_ ?_|refine kQ' ?_ ?_);all_goals(intro hc;try simp only[hcs]at hc;try(exfalso;first|contradiction|omega))))
      apply LR.call
      · exact rfl
      intro w1 h1
      have hh := g63 br g d.x.k w1 (h1.own_at memZ) hn
      rw [hmb] at hh
      refine CallsTo.mono hh ?_
      clear hh
      rintro v w2 ⟨rfl, st⟩
      have h2 := h1.one' st rfl (Asrt.dep_own _ _) selZ
      refine LR.back h2 ?_
      clear h2 h1
      repeat'(first|refine kv' ?_|apply jJ|refine jE' ?_|refine jp' ?_|(apply jc;kernel_rfl)|refine kg' ?_|refine kG' ?_|refine kB' fun _=>?_|refine kA' fun _=>?_|refine kK' fun _=>?_|refine kU' ?_|(apply kq; (· exact rfl); (· intro w1 h1; exact CallsTo.q (g45 bg (askS g d.x.k) w1 (h1.rd_of_blk memZ) (by rw [e, stepS_node]; exact hn)) h1))|(apply kq; (· exact rfl); (· intro w1 h1; exact CallsTo.q (g66 br (askS g d.x.k) w1 (h1.rd_of_blk memZ)) h1))|((first|refine kR' ?_ ?_|refine kQ' ?_ ?_);all_goals(intro hc;try simp only[hcs]at hc;try(exfalso;first|contradiction|omega))))
      all_goals (try (exfalso; revert hc; simp; done))
      (apply ret1; (· exact rfl); intro w' hS)
      exact ⟨congrArg Value.bool (by simp), fin _ _ _ e (front (front hS 5 rfl rfl) 5 rfl rfl)⟩
      )
  · have e : beginS g d.x.k d.ps = stepS g d := by unfold stepS; rw [if_neg (by omega), if_neg (by omega), if_neg (by omega), if_neg (by omega), if_pos hk]
    have el : (beginM g d.x.k d.ps).body.length ≤ 200 := by unfold beginM; split; (· exact charts_len _); (· simp [zeroMsg])
    obtain ⟨ee, he⟩ : ∃ ee, beginE d.x.k d.ps = ee := ⟨_, rfl⟩
    have hee : ee = 0 ∨ ee = 2 := by subst he; unfold beginE; split <;> simp
    rcases hee with rfl | rfl
    all_goals (
      repeat'(first|refine kv' ?_|apply jJ|refine jE' ?_|refine jp' ?_|(apply jc;kernel_rfl)|refine kg' ?_|refine kG' ?_|refine kB' fun _=>?_|refine kA' fun _=>?_|refine kK' fun _=>?_|refine kU' ?_|(apply kq; (· exact rfl); (· intro w1 h1; have hq := CallsTo.q (hg41 w1) h1; rw [hk] at hq; exact hq))|((first|refine kR' ?_ ?_|refine kQ' ?_ ?_);all_goals(intro hc;try simp only[hcs]at hc;try(exfalso;first|contradiction|omega))))
      apply LR.call
      · exact rfl
      intro w1 h1
      have hh := g42 bg g d.x.k ak ck d.ps w1 (h1.own_at memZ) hn (h1.rd_of memZ) (fun y hy => (hdp y hy).1) hmk hik
      rw [he] at hh
      refine CallsTo.mono hh ?_
      clear hh
      rintro v w2 ⟨a1, c1, rfl, st⟩
      have h2 := h1.two st rfl rfl rfl selZ
      refine LR.back h2 ?_
      clear h2 h1
      repeat'(first|refine kv' ?_|apply jJ|refine jE' ?_|refine jp' ?_|(apply jc;kernel_rfl)|refine kg' ?_|refine kG' ?_|refine kB' fun _=>?_|refine kA' fun _=>?_|refine kK' fun _=>?_|refine kU' ?_|((first|refine kR' ?_ ?_|refine kQ' ?_ ?_);all_goals(intro hc;try simp only[hcs]at hc;try(exfalso;first|contradiction|omega))))
      apply LR.call
      · exact rfl
      intro w1 h1
      have hh := g64 br g d.x.k ak ck d.ps w1 (h1.own_at memZ) (h1.rd_of memZ) (fun y hy => (hdp y hy).2) hmk hik
      rw [he] at hh
      refine CallsTo.mono hh ?_
      clear hh
      rintro v w2 ⟨a2, c2, rfl, st⟩
      have h2 := h1.two st rfl rfl rfl selZ
      refine LR.back h2 ?_
      clear h2 h1
      repeat'(first|refine kv' ?_|apply jJ|refine jE' ?_|refine jp' ?_|(apply jc;kernel_rfl)|refine kg' ?_|refine kG' ?_|refine kB' fun _=>?_|refine kA' fun _=>?_|refine kK' fun _=>?_|refine kU' ?_|(apply kq; (· exact rfl); (· intro w1 h1; exact CallsTo.q (g45 bg (beginS g d.x.k d.ps) w1 (h1.rd_of_blk memZ) (by rw [e, stepS_node]; exact hn)) h1))|(apply kq; (· exact rfl); (· intro w1 h1; exact CallsTo.q (g66 br (beginS g d.x.k d.ps) w1 (h1.rd_of_blk memZ)) h1))|(apply kq; (· exact rfl); (· intro w1 h1; have hq := CallsTo.q (c20 (beginM g d.x.k d.ps) (beginM g d.x.k d.ps) a1 a2 c1 c2 w1 (h1.rd_of_own memZ) (h1.rd_of_own memZ) (by first | omega | simp)) h1; rw [sameB_self] at hq; show CallsTo Try.prog 17 [(beginM g d.x.k d.ps).val a1 c1, (beginM g d.x.k d.ps).val a2 c2] w1 _; exact hq))|((first|refine kR' ?_ ?_|refine kQ' ?_ ?_);all_goals(intro hc;try simp only[hcs]at hc;try(exfalso;first|contradiction|omega))))
      (apply ret1; (· exact rfl); intro w' hS)
      exact ⟨congrArg Value.bool (by simp), fin _ _ _ e (front (front hS 7 rfl rfl) 7 rfl rfl)⟩
      )
  · have e : { g with a := zeroK } = stepS g d := by unfold stepS; rw [if_neg (by omega), if_neg (by omega), if_neg (by omega), if_neg (by omega), if_neg (by omega)]
    repeat'(first|refine kv' ?_|apply jJ|refine jE' ?_|refine jp' ?_|(apply jc;kernel_rfl)|refine kg' ?_|refine kG' ?_|refine kB' fun _=>?_|refine kA' fun _=>?_|refine kK' fun _=>?_|refine kU' ?_|(apply kq; (· exact rfl); (· intro w1 h1; have hq := CallsTo.q (hg41 w1) h1; rw [hk] at hq; exact hq))|((first|refine kR' ?_ ?_|refine kQ' ?_ ?_);all_goals(intro hc;try simp only[hcs]at hc;try(exfalso;first|contradiction|omega))))
    apply LR.call
    · exact rfl
    intro w1 h1
    have hh := g38 bg g w1 (h1.own_at memZ) hn
    skip
    refine CallsTo.mono hh ?_
    clear hh
    rintro v w2 st
    have h2 := h1.one' st rfl (Asrt.dep_own _ _) selZ
    refine LR.back h2 ?_
    clear h2 h1
    repeat'(first|refine kv' ?_|apply jJ|refine jE' ?_|refine jp' ?_|(apply jc;kernel_rfl)|refine kg' ?_|refine kG' ?_|refine kB' fun _=>?_|refine kA' fun _=>?_|refine kK' fun _=>?_|refine kU' ?_|((first|refine kR' ?_ ?_|refine kQ' ?_ ?_);all_goals(intro hc;try simp only[hcs]at hc;try(exfalso;first|contradiction|omega))))
    apply LR.call
    · exact rfl
    intro w1 h1
    have hh := g65 br g w1 (h1.own_at memZ)
    skip
    refine CallsTo.mono hh ?_
    clear hh
    rintro v w2 st
    have h2 := h1.one' st rfl (Asrt.dep_own _ _) selZ
    refine LR.back h2 ?_
    clear h2 h1
    repeat'(first|refine kv' ?_|apply jJ|refine jE' ?_|refine jp' ?_|(apply jc;kernel_rfl)|refine kg' ?_|refine kG' ?_|refine kB' fun _=>?_|refine kA' fun _=>?_|refine kK' fun _=>?_|refine kU' ?_|(apply kq; (· exact rfl); (· intro w1 h1; exact CallsTo.q (g45 bg ({ g with a := zeroK }) w1 (h1.rd_of_blk memZ) (by rw [e, stepS_node]; exact hn)) h1))|(apply kq; (· exact rfl); (· intro w1 h1; exact CallsTo.q (g66 br ({ g with a := zeroK }) w1 (h1.rd_of_blk memZ)) h1))|((first|refine kR' ?_ ?_|refine kQ' ?_ ?_);all_goals(intro hc;try simp only[hcs]at hc;try(exfalso;first|contradiction|omega))))
    (apply ret1; (· exact rfl); intro w' hS)
    exact ⟨congrArg Value.bool (by simp), fin _ _ _ e (front (front hS 3 rfl rfl) 3 rfl rfl)⟩
end Go.Proofs.Ytphcnaafhcfakaa

namespace Go.Proofs.Ytphcnaafhcfakaa
open Go.Hb Go.ChangeShapes Go.WideShapes
attribute [local irreducible] LR CW At Ev thn blk finK noG again CallsTo DW QL dnext TW
set_option maxRecDepth 100000

set_option maxHeartbeats 4000000 in
theorem g9 (node : Int) (al : Option Addr) (cl : Nat) (l : List DooA) (w : World) (hr : Rd w al (l.flatMap DooA.row)) (hR : ∀ x ∈ l, DooR w x) (hm : l.length ≤ 140737488351232) :
    CallsTo Try.prog 9 [.int .i64 node, .slice al l.length cl] w fun v w' => v = .bool true ∧ Grew w w' := by
  refine go_in (n := 53) (St.rd1 hr) Try.func9 rfl rfl ?_
  by_cases hnode : 1 ≤ node ∧ node ≤ 8
  · repeat'(first|refine kv' ?_|apply jJ|refine jE' ?_|refine jp' ?_|(apply jc;kernel_rfl)|refine kg' ?_|refine kG' ?_|refine kB' fun _=>?_|refine kA' fun _=>?_|refine kK' fun _=>?_|refine kU' ?_|((first|refine kR' ?_ ?_|refine kQ' ?_ ?_);all_goals(intro hc;try simp only[hcs]at hc;try(exfalso;first|contradiction|omega))))
    apply LR.call
    · exact rfl
    intro w1 h1
    have hh := g31 node w1 hnode
    skip
    refine CallsTo.mono hh ?_
    clear hh
    rintro v w2 ⟨bg, rfl, hn⟩
    have h2 := h1.got hn (Asrt.dep_own _ _)
    refine LR.back h2 ?_
    clear h2 h1
    repeat'(first|refine kv' ?_|apply jJ|refine jE' ?_|refine jp' ?_|(apply jc;kernel_rfl)|refine kg' ?_|refine kG' ?_|refine kB' fun _=>?_|refine kA' fun _=>?_|refine kK' fun _=>?_|refine kU' ?_|((first|refine kR' ?_ ?_|refine kQ' ?_ ?_);all_goals(intro hc;try simp only[hcs]at hc;try(exfalso;first|contradiction|omega))))
    apply LR.call
    · exact rfl
    intro w1 h1
    have hh := g39 node w1 hnode
    skip
    refine CallsTo.mono hh ?_
    clear hh
    rintro v w2 ⟨br, rfl, hn⟩
    have h2 := h1.got hn (Asrt.dep_own _ _)
    refine LR.back h2 ?_
    clear h2 h1
    repeat'(first|refine kv' ?_|apply jJ|refine jE' ?_|refine jp' ?_|(apply jc;kernel_rfl)|refine kg' ?_|refine kG' ?_|refine kB' fun _=>?_|refine kA' fun _=>?_|refine kK' fun _=>?_|refine kU' ?_|((first|refine kR' ?_ ?_|refine kQ' ?_ ?_);all_goals(intro hc;try simp only[hcs]at hc;try(exfalso;first|contradiction|omega))))
    apply CW.loop [4, 9, 30, 31, 32, 33, 34, 35, 36, 37, 38, 39, 40, 41, 42, 43, 44, 45, 46, 47, 48, 49, 50, 51] (fun s : Nat × Gt => s.1 ≤ l.length ∧ s.2.node = node) (fun s => [(9, Value.int .i64 (s.1 : Int))]) (fun s => St w NoF [gO 111 br s.2, gO 95 bg s.2, rdA al (l.flatMap DooA.row)]) (fun s => l.length - s.1)
    · exact fun w' hw' => ⟨(0, newG node), ⟨by simp, rfl⟩, ⟨rfl, trivial⟩, hw'⟩
    rintro ⟨i, G⟩ g ⟨hi, hG⟩
    simp only at hi hG ⊢
    by_cases hlt : i < l.length ∧ i < 150
    · obtain ⟨hl, h150⟩ := hlt
      obtain ⟨ba, oa, rfl⟩ := hr.form (rows_ne DooA.row_len (by omega) hl)
      have hx := hR _ (List.getElem_mem hl)
      repeat'(first|refine kv' ?_|apply jJ|refine jE' ?_|refine jp' ?_|(apply jc;kernel_rfl)|refine kg' ?_|refine kG' ?_|refine kB' fun _=>?_|refine kA' fun _=>?_|refine kK' fun _=>?_|refine kU' ?_|(apply idxX;(iterate 2 exact rfl);(iterate 2(first|omega|(dsimp only;omega)));exact rfl)|(apply LR.ev; (· apply Ev.load_agg_at (cs := l[i].row); (· exact rfl); (· exact rfl); (· intro w' hw'; exact rd_row DooA.row_len (hw'.rd_of memZ) hl (by simp))); (· exact rfl))|((first|refine kR' ?_ ?_|refine kQ' ?_ ?_);all_goals(intro hc;try simp only[hcs]at hc;try(exfalso;first|contradiction|omega))))
      apply LR.call
      · exact rfl
      intro w1 h1
      have h2 := (front h1 1 rfl rfl).join rfl rfl
      have hh := g40 bg br G l[i].d l[i].a l[i].c l[i].ak l[i].ck w1 h2.g0 (by omega) (h1.oldRd hx.hr) hx.hz (by have := hx.hm; omega) hx.hb hx.hp (h2.oldApart (mH _ _) rfl hx.hr) (h1.oldRd hx.hrk) hx.hmk hx.hik (h2.oldApart (mH _ _) rfl hx.hrk)
      refine CallsTo.mono (show CallsTo Try.prog 40 [.pointer (some ⟨bg, 0, none⟩), .pointer (some ⟨br, 0, none⟩), l[i].d.val l[i].a l[i].c l[i].ak l[i].ck] w1 _ from hh) ?_
      rintro v w2 ⟨rfl, st⟩
      have h3 := ((h2.did (sH _ _ _) rfl st (both_dep (Asrt.dep_own _ _) (Asrt.dep_own _ _))).part (Asrt.dep_own _ _) (Asrt.dep_own _ _)).swap
      refine LR.back h3 ?_
      clear h3 h2 h1 hh st
      repeat'(first|refine kv' ?_|apply jJ|refine jE' ?_|refine jp' ?_|(apply jc;kernel_rfl)|refine kg' ?_|refine kG' ?_|refine kB' fun _=>?_|refine kA' fun _=>?_|refine kK' fun _=>?_|refine kU' ?_|(apply addX;(iterate 2 exact rfl);(iterate 2(first|omega|(dsimp only;omega)));exact rfl)|((first|refine kR' ?_ ?_|refine kQ' ?_ ?_);all_goals(intro hc;try simp only[hcs]at hc;try(exfalso;first|contradiction|omega))))
      apply At.again (i + 1, stepS G l[i].d) ⟨by show i + 1 ≤ _; omega, by show (stepS G l[i].d).node = _; rw [stepS_node]; exact hG⟩
      · (repeat (first | exact Out.refl _ _ | exact Out.mix | (apply Out.upd; (· exact rfl)) | (apply Out.updL; (· exact rfl)) | (apply Out.mixs; (· exact rfl))))
      · exact ⟨rfl, trivial⟩
      · exact fun w' hw' => hw'
      · show l.length - (i + 1) < l.length - i; omega
    · repeat'(first|refine kv' ?_|apply jJ|refine jE' ?_|refine jp' ?_|(apply jc;kernel_rfl)|refine kg' ?_|refine kG' ?_|refine kB' fun _=>?_|refine kA' fun _=>?_|refine kK' fun _=>?_|refine kU' ?_|(apply kq; (· exact rfl); (· intro w1 h1; exact CallsTo.q (g30 w1) h1))|((first|refine kR' ?_ ?_|refine kQ' ?_ ?_);all_goals(intro hc;try simp only[hcs]at hc;try(exfalso;first|contradiction|omega))))
      all_goals (
        (apply ret1; (· exact rfl); intro w' hS)
        exact ⟨rfl, hS.toKeep⟩)
  · repeat'(first|refine kv' ?_|apply jJ|refine jE' ?_|refine jp' ?_|(apply jc;kernel_rfl)|refine kg' ?_|refine kG' ?_|refine kB' fun _=>?_|refine kA' fun _=>?_|refine kK' fun _=>?_|refine kU' ?_|(apply kq; (· exact rfl); (· intro w1 h1; exact CallsTo.q (g31n node w1 hnode) h1))|(apply kq; (· exact rfl); (· intro w1 h1; exact CallsTo.q (g39n node w1 hnode) h1))|((first|refine kR' ?_ ?_|refine kQ' ?_ ?_);all_goals(intro hc;try simp only[hcs]at hc;try(exfalso;first|contradiction|omega))))
    apply CW.loop [4, 9, 30, 31, 32, 33, 34, 35, 36, 37, 38, 39, 40, 41, 42, 43, 44, 45, 46, 47, 48, 49, 50, 51] (fun s : Nat => s = 0) (fun s => [(9, Value.int .i64 0)]) (fun s => St w NoF [rdA al (l.flatMap DooA.row)]) (fun s => 0)
    · exact fun w' hw' => ⟨0, rfl, ⟨rfl, trivial⟩, hw'⟩
    intro s g hs
    repeat'(first|refine kv' ?_|apply jJ|refine jE' ?_|refine jp' ?_|(apply jc;kernel_rfl)|refine kg' ?_|refine kG' ?_|refine kB' fun _=>?_|refine kA' fun _=>?_|refine kK' fun _=>?_|refine kU' ?_|(apply kq; (· exact rfl); (· intro w1 h1; exact CallsTo.q (g30 w1) h1))|((first|refine kR' ?_ ?_|refine kQ' ?_ ?_);all_goals(intro hc;try simp only[hcs]at hc;try(exfalso;first|contradiction|omega))))
    all_goals (
      (apply ret1; (· exact rfl); intro w' hS)
      exact ⟨rfl, hS.toKeep⟩)
end Go.Proofs.Ytphcnaafhcfakaa

namespace Go.Hb

def Finds {κ : Type} (P : Program) (kt : TypeId) (enc : κ → Value) (l : List (κ × Value)) (es : List MapEntry) (a : κ) (w : World) : Prop :=
  ((Instr.findKey kt (enc a) es).run P w = .ok none w ∧ ∀ p ∈ l, p.1 ≠ a) ∨ ∃ j u, (Instr.findKey kt (enc a) es).run P w = .ok (some (j, u)) w ∧ l[j]? = some (a, u)
class KMap (P : Program) (T : TypeId) {κ : Type} (enc : κ → Value) (ok : κ → Prop) (z : outParam Value) : Prop where
  ex : ∃ kt et, P.underlying T = some (.map kt et) ∧ (∀ em a w, ok a → (Instr.checkKey em 10000 kt (enc a)).run P w = .ok () w) ∧
    (∀ (l : List (κ × Value)) (es : List MapEntry) a w, es.map (fun e => (e.key, e.val)) = l.map (fun p => (enc p.1, p.2)) → (∀ p ∈ l, ok p.1) → ok a → Finds P kt enc l es a w) ∧ ∀ w, (zeroValue et).run P w = .ok z w
def kmH {κ : Type} (enc : κ → Value) (b : Nat) (l : List (κ × Value)) (w : World) : Prop := ∃ es clock, w.heap[b]? = some (.map es clock) ∧ es.toList.map (fun e => (e.key, e.val)) = l.map (fun p => (enc p.1, p.2))
def kmap {κ : Type} (enc : κ → Value) (b : Nat) (l : List (κ × Value)) : Asrt := .ex (fun j => j = b) (kmH enc b l)
section
variable {κ : Type} {enc : κ → Value} {ok : κ → Prop}
theorem kmap.dep (b : Nat) (l : List (κ × Value)) : (kmap enc b l).dep := by
  intro w w' hk h
  obtain ⟨es, clock, hb, he⟩ := h
  exact ⟨es, clock, by rw [hk b rfl]; exact hb, he⟩
theorem kmap.live {b : Nat} {l : List (κ × Value)} {w : World} (h : kmH enc b l w) : ∀ j, (kmap enc b l).foot j → j < w.heap.size := by
  rintro j rfl
  obtain ⟨es, clock, hb, _⟩ := h
  exact (Array.getElem?_eq_some_iff.1 hb).1
variable {P : Program} {f : Frm} {T T' : TypeId} {x y z : Operand} {v zv : Value} {w0 : World} {F : Nat → Prop} {L L' : List Asrt}
variable {C : World → Prop} {n : Nat} {ops rest : List Oper} {Q : Post} {p : String} {af : Array Edge} {d : Nat}
end
end Go.Hb

namespace Go.Hb
section
variable {α : Type} {f : α → Asrt} {w0 w : World} {F : Nat → Prop} {R : List Asrt} {x : α} {l : List α}
end
end Go.Hb

namespace Go.Hb
section
variable {w0 w : World} {F : Nat → Prop} {L L' : List Asrt}
def ownsAt (w : World) (E : TypeId) (sz : Nat) (v : Value) (n : Nat) (xs : List Value) : Prop :=
  xs.length = n * sz ∧ ((v = .slice none 0 0 ∧ n = 0) ∨
   ∃ g o cap cur, v = .slice (some ⟨g, o, none⟩) n cap ∧ w.heap[g]? = some (.cells cur E (0, 0)) ∧ n ≤ cap ∧ cap ≤ maxLen ∧ o + cap * sz ≤ cur.size ∧ (cur.toList.drop o).take (n * sz) = xs)
def odl (v : Value) (E : TypeId) (sz n : Nat) (xs : List Value) : Asrt := .ex (fun k => v.ownBlock = some k) (fun w => ownsAt w E sz v n xs)
theorem odl.dep (v : Value) (E : TypeId) (sz n : Nat) (xs : List Value) : (odl v E sz n xs).dep := by
  intro w w' hk h
  refine ⟨h.1, ?_⟩
  rcases h.2 with hn | ⟨g, o, cap, cur, rfl, hg, r⟩
  · exact .inl hn
  · refine .inr ⟨g, o, cap, cur, rfl, ?_, r⟩
    rw [hk g rfl]; exact hg
end
section
variable {P : Program} {f : Frm} {T T' : TypeId} {s x y : Operand} {v : Value} {w0 : World} {F : Nat → Prop} {L : List Asrt} {C : World → Prop}
variable {n : Nat} {ops rest : List Oper} {Q : Post} {p : String} {af : Array Edge} {d : Nat}
end
section
variable {α : Type} {f : α → Asrt} {w0 w : World} {F : Nat → Prop} {R : List Asrt} {x : α} {l r : List α}
end
theorem splice_take {D vs : List Value} {i N : Nat} (h : i + vs.length ≤ N) (hN : N ≤ D.length) : (splice D i vs).take N = splice (D.take N) i vs := by
  have e2 : splice D i vs = splice (D.take N) i vs ++ D.drop N := by
    have e3 : D = D.take N ++ D.drop N := (List.take_append_drop N D).symm
    have hl : (D.take N).length = N := by simp; omega
    conv => lhs; rw [e3]
    unfold splice
    rw [List.take_append_of_le_length (by omega), List.drop_append_of_le_length (by omega)]
    simp
  have e4 : (splice (D.take N) i vs).length = N := by simp [splice]; omega
  rw [e2, List.take_append_of_le_length (by omega), List.take_of_length_le (by omega)]
theorem splice_drop {D vs : List Value} {o i : Nat} (h : o + i ≤ D.length) : (splice D (o + i) vs).drop o = splice (D.drop o) i vs := by
  unfold splice
  rw [List.append_assoc, List.drop_append, List.drop_take, List.length_take, show o - min (o + i) D.length = 0 by omega, List.drop_zero, show o + i - o = i by omega, List.drop_drop, List.append_assoc, Nat.add_assoc]
theorem Stores.odl {P : Program} {T : TypeId} {q b o i n c : Nat} {v : Value} {vs xs : List Value} {E : TypeId} {sz : Nat} (h : Sz P T q) (hv : v.cells = vs.toArray) (h1 : vs.all Value.oneCell' = true) (hm : vs.length = q) (hb : i + vs.length ≤ xs.length) :
    Stores P T ⟨b, o + i, none⟩ v (odl (.slice (some ⟨b, o, none⟩) n c) E sz n xs) (odl (.slice (some ⟨b, o, none⟩) n c) E sz n (splice xs i vs)) := by
  intro w hw
  have hw' : ownsAt w E sz (.slice (some ⟨b, o, none⟩) n c) n xs := hw
  obtain ⟨hl, hr⟩ := hw'
  rcases hr with ⟨he, _⟩ | ⟨g, o', cap, cur, he, hg, hnc, hcm, hcs, htake⟩
  · cases he
  simp only [Value.slice.injEq, Option.some.injEq, Addr.mk.injEq, and_true, true_and] at he
  obtain ⟨⟨rfl, rfl⟩, rfl⟩ := he
  have hmul : n * sz ≤ c * sz := Nat.mul_le_mul_right _ hnc
  have hg' : w.heap[b]? = some (.cells cur.toList.toArray E (0, 0)) := by simpa using hg
  have hsz : cur.toList.length = cur.size := Array.length_toList
  have hrun := run_storeVar (P := P) h w b (o + i) v vs cur.toList E hv hm hg' (by omega) h1
  refine ⟨_, hrun, ⟨Keep.setRow w b _ _ E hg' rfl, ?_, fun k hk => .inl hk⟩⟩
  refine ⟨by simp [splice]; omega, .inr ⟨b, o, c, (splice cur.toList (o + i) vs).toArray, rfl, setRow_heap w b _ _ E (0, 0) hg', hnc, hcm, ?_, ?_⟩⟩
  · simp [splice]; omega
  · show ((splice cur.toList (o + i) vs).drop o).take (n * sz) = splice xs i vs
    rw [splice_drop (by omega), splice_take (by omega) (by simp; omega), htake]
end Go.Hb

namespace Go.Hb
section
variable {P : Program} {md : Region.Mode} {ops : Array Oper} {Q Q' : Exit → Act → World → Prop} {z : Nat}
structure Sink (md : Region.Mode) (ops : Array Oper) (z : Nat) : Prop where
  deps : ∀ (j : Nat) (o : Oper), ops[j]? = some o → ∀ e ∈ o.after, Region.binds md e = true → e.on ≠ z ∧ e.on < j
  all : ∀ i, i < ops.size → i ≠ z → ∃ (j : Nat) (o : Oper), ops[j]? = some o ∧ ∃ e ∈ o.after, Region.binds md e = true ∧ e.on = i
  lt : z < ops.size
def Closed (md : Region.Mode) (ops : Array Oper) (z : Nat) (listed : Array Bool) : Prop := ∀ (j : Nat) (o : Oper), ops[j]? = some o → j ≠ z → listed.getD j false = true → ∀ e ∈ o.after, Region.binds md e = true → listed.getD e.on false = true
theorem Sink.before (hs : Sink md ops z) {listed : Array Bool} (hc : Closed md ops z listed) (hz : z ∈ Region.ready md ops listed) : ∀ d k, ops.size - k ≤ d → k < ops.size → k ≠ z → listed.getD k false = true := by
  intro d
  induction d with
  | zero => intro k hd hk; omega
  | succ d ih =>
    intro k hd hk hkz
    obtain ⟨j, o, ho, e, he, hb, rfl⟩ := hs.all k hk hkz
    have hj : j < ops.size := (Array.getElem?_eq_some_iff.1 ho).1
    have hlt := (hs.deps j o ho e he hb).2
    by_cases hjz : j = z
    · subst hjz
      obtain ⟨_, o', ho', hd'⟩ := mem_ready.1 hz
      rw [ho] at ho'; cases ho'
      exact hd' e he hb
    · exact hc j o ho hjz (ih j (by omega) hj hjz) e he hb
end
section
variable {P : Program} {n : Nat} {ops : List Oper} {Q : Post} {f : Frm} {C : World → Prop}
end
end Go.Hb

namespace Go.Hb
section
variable {P : Program} {f : Frm} {T T' T'' : TypeId} {x y : Operand} {C : World → Prop} {w0 w : World} {F : Nat → Prop} {L L' : List Asrt}
class MapT (P : Program) (T : TypeId) : Prop where
  ex : ∃ k e, P.underlying T = some (.map k e)
theorem equalIn_map (w : World) (d : Nat) {t k e : TypeId} {r : Option Nat} (h : P.underlying t = some (.map k e)) : (Op.equalIn (d + 1) t (.map r) (.map none)).run P w = .ok r.isNone w := by
  cases r <;> simp [Op.equalIn, run_underlying h]
theorem Ev.map_nil [h : MapT P T'] {r : Option Nat} (hx : f.ev x = .map r) (hy : f.ev y = .map none) : Ev P C f (.binOp .eql T' x y T'') T (.bool r.isNone) :=
  ev_eql_of (fun w => by rw [hx, hy]; rfl) (by rw [hx, hy]; rfl) (fun w => by
    obtain ⟨k, e, hu⟩ := h.ex
    rw [hx, hy]
    exact equalIn_map w _ hu)
end
end Go.Hb
