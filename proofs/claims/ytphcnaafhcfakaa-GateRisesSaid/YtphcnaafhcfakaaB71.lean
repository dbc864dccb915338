/-
  How calls of gates are read.
-/
import Derived.Test.YtphcnaafhcfakaaB61
import Derived.Test.YtphcnaafhcfakaaHb14
-- all by hand
namespace Go.Proofs.Ytphcnaafhcfakaa
open Go.Hb Go.ChangeShapes Go.WideShapes
attribute [local irreducible] LR CW At Ev thn blk finK noG again CallsTo DW QL dnext TW
set_option linter.unusedSimpArgs false
set_option linter.unusedVariables false
set_option maxRecDepth 100000

structure DooA where
  d : Doo
  a : Option Addr
  c : Nat
  ak : Option Addr
  ck : Nat
def DooA.row (x : DooA) : List Value := x.d.cells x.a x.c x.ak x.ck
theorem DooA.row_len (x : DooA) : x.row.length = 23 := rfl
structure DooR (w : World) (x : DooA) : Prop where
  hr : Rd w x.a (bv x.d.x.m.body)
  hz : x.a = none → x.c = 0
  hm : x.d.x.m.body.length ≤ 140737488351232
  hb : Byt x.d.x.m.body
  hp : plcI x.d.x.p
  hrk : Rd w x.ak (pcs x.d.ps)
  hmk : x.d.ps.length ≤ 281474976710656
  hik : plcsI x.d.ps
  hi : MsgI x.d.x.m ∧ i64 x.d.kind ∧ i64 x.d.x.k.t ∧ i64 x.d.x.k.s ∧ i64 x.d.x.k.r ∧ i64 x.d.x.k.q

theorem opn_item : Opn Try.prog 72 (fun w cs => ∃ (x : Itm) (a : Option Addr) (c : Nat), cs = x.cells a c ∧ Rd w a (bv x.m.body) ∧ Byt x.m.body ∧ (a = none → c = 0) ∧ x.m.body.length ≤ 140737488351232 ∧ plcI x.p ∧ (MsgI x.m ∧ i64 x.k.t ∧ i64 x.k.s ∧ i64 x.k.r ∧ i64 x.k.q)) := by
  refine (opn_struct Try.underlying72).mono fun w cs ⟨hl, h⟩ => ?_
  have hl : cs.length = 21 := hl
  match cs, hl with
  | y0 :: y1 :: y2 :: y3 :: r, hl =>
    have hl : r.length = 17 := by simpa using hl
    obtain ⟨x0, x1, x2, x3, h0, g0, g1, g2, g3⟩ := h 0 _ rfl _ opn_key
    obtain ⟨m, a, c, h1, hr, hb, hz, hm, hi⟩ := h 1 _ rfl _ opn_msg
    obtain ⟨p, h2, hp⟩ := h 2 _ rfl _ opn_plc
    have h0 : [y0, y1, y2, y3] = [Value.int .i64 x0, .int .i64 x1, .int .i64 x2, .int .i64 x3] := h0
    have h1 : r.take 13 = m.cells a c := h1
    have h2 : (r.drop 13).take 4 = p.cells := h2
    have h3 : r = m.cells a c ++ p.cells := by
      rw [← h1, ← h2]
      rw [List.take_of_length_le (l := r.drop 13) (by simp; omega), List.take_append_drop]
    simp only [List.cons.injEq, and_true] at h0
    exact ⟨⟨⟨x0, x1, x2, x3⟩, m, p⟩, a, c, by rw [h0.1, h0.2.1, h0.2.2.1, h0.2.2.2, h3]; rfl, hr, hb, hz, hm, hp, hi, g0, g1, g2, g3⟩
theorem opn_do : Opn Try.prog 87 (fun w cs => ∃ x : DooA, cs = x.row ∧ DooR w x) := by
  refine (opn_struct Try.underlying87).mono fun w cs ⟨hl, h⟩ => ?_
  have hl : cs.length = 23 := hl
  match cs, hl with
  | y0 :: r, hl =>
    have hl : r.length = 22 := by simpa using hl
    obtain ⟨x0, h0, g0⟩ := h 0 _ rfl _ opn_i64
    obtain ⟨x, a, c, h1, hr, hb, hz, hm, hp, hi⟩ := h 1 _ rfl _ opn_item
    obtain ⟨ak, ck, ps, h2, hrk, hik, hzk, hck, hmk⟩ := h 2 _ rfl _ opn_plcs
    have h0 : [y0] = [Value.int .i64 x0] := h0
    have h1 : r.take 21 = x.cells a c := h1
    have h2 : (r.drop 21).take 1 = [.slice ak ps.length ck] := h2
    have h3 : r = x.cells a c ++ [.slice ak ps.length ck] := by
      rw [← h1, ← h2]
      rw [List.take_of_length_le (l := r.drop 21) (by simp; omega), List.take_append_drop]
    simp only [List.cons.injEq, and_true] at h0
    exact ⟨⟨⟨x0, x, ps⟩, a, c, ak, ck⟩, by rw [h0, h3]; rfl, hr, hz, hm, hb, hp, hrk, by show ps.length ≤ _; omega, hik, hi.1, g0, hi.2.1, hi.2.2.1, hi.2.2.2.1, hi.2.2.2.2⟩
theorem opn_dos : Opn Try.prog 80 (fun w cs => ∃ (a : Option Addr) (c : Nat) (l : List DooA), cs = [.slice a l.length c] ∧ Rd w a (l.flatMap DooA.row) ∧ (∀ x ∈ l, DooR w x) ∧ (a = none → c = 0) ∧ l.length ≤ c ∧ l.length ≤ 140737488351232) := by
  refine (opn_slice Try.underlying80 (sz := 23) (by_ := 216) (by kernel_rfl) (by omega) (by kernel_rfl) opn_do).mono ?_
  rintro w cs ⟨a, len, cap, css, rfl, rfl, hg, hr, hz, hc, hm⟩
  obtain ⟨l, h1, h2, h3⟩ := rows_of css fun c hc => (hg c hc).1
  rw [h1] at hr
  have hm : css.length * 216 ≤ 140737488351232 := hm
  exact ⟨a, cap, l, by rw [h2], hr, h3, hz, by omega, by omega⟩
end Go.Proofs.Ytphcnaafhcfakaa
