/-
  The laws of packing and of unpacking.
-/
import Derived.Test.YtphcnaafhcfakaaA24
import Derived.Test.YtphcnaafhcfakaaHb12
-- all by hand
namespace Go.Proofs.Ytphcnaafhcfakaa
open Go.Hb Go.ChangeShapes Go.WideShapes
attribute [local irreducible] LR CW At Ev thn blk finK noG again CallsTo DW QL dnext
set_option linter.unusedSimpArgs false
set_option linter.unusedVariables false
set_option maxRecDepth 100000

theorem pack_len (m : Msg) : (pack m).1.length ≤ 300 := by
  unfold pack
  split
  · simp
  · rename_i h
    have h1 := (check_ok (by simpa using h)).1
    have := bytesM_len m
    simp only; omega

def MsgI (m : Msg) : Prop := i64 m.kind ∧ i64 m.origin ∧ i64 m.life ∧ i64 m.id ∧ i64 m.part ∧ i64 m.parts ∧ i64 m.groups ∧ i64 m.stamp ∧ i64 m.rseq ∧ i64 m.rrep ∧ i64 m.kseq
theorem opn_bool4 : Opn Try.prog 4 (fun _ cs => ∃ b, cs = [.bool b]) := opn_bool Try.underlying4
theorem opn_key : Opn Try.prog 25 (fun _ cs => ∃ t s r q, cs = [.int .i64 t, .int .i64 s, .int .i64 r, .int .i64 q] ∧ i64 t ∧ i64 s ∧ i64 r ∧ i64 q) := by
  refine (opn_struct Try.underlying25).mono fun w cs ⟨hl, h⟩ => ?_
  have hl : cs.length = 4 := hl
  match cs, hl with
  | [x, y, z, u], _ =>
    obtain ⟨a, ha, ha2⟩ := h 0 _ rfl _ opn_i64
    obtain ⟨b, c, hb, hb2, hc2⟩ := h 1 _ rfl _ opn_ring
    obtain ⟨d, hd, hd2⟩ := h 2 _ rfl _ opn_i64
    have ha : [x] = [Value.int .i64 a] := ha
    have hb : [y, z] = [Value.int .i64 b, .int .i64 c] := hb
    have hd : [u] = [Value.int .i64 d] := hd
    simp only [List.cons.injEq, and_true] at ha hb hd
    exact ⟨a, b, c, d, by rw [ha, hb.1, hb.2, hd], ha2, hb2, hc2, hd2⟩
def MsgR (w : World) (m : Msg) (a : Option Addr) (c : Nat) : Prop := Rd w a (bv m.body) ∧ Byt m.body ∧ (a = none → c = 0) ∧ m.body.length ≤ 140737488351232 ∧ MsgI m
theorem opn_msg : Opn Try.prog 28 (fun w cs => ∃ (m : Msg) (a : Option Addr) (c : Nat), cs = m.cells a c ∧ Rd w a (bv m.body) ∧ Byt m.body ∧ (a = none → c = 0) ∧ m.body.length ≤ 140737488351232 ∧ MsgI m) := by
  refine (opn_struct Try.underlying28).mono fun w cs ⟨hl, h⟩ => ?_
  have hl : cs.length = 13 := hl
  match cs, hl with
  | [y0, y1, y2, y3, y4, y5, y6, y7, y8, y9, y10, y11, y12], _ =>
    obtain ⟨x0, h0, g0⟩ := h 0 _ rfl _ opn_i64
    obtain ⟨x1, h1, g1⟩ := h 1 _ rfl _ opn_i64
    obtain ⟨x2, h2, g2⟩ := h 2 _ rfl _ opn_i64
    obtain ⟨x3, h3, g3⟩ := h 3 _ rfl _ opn_i64
    obtain ⟨x4, h4, g4⟩ := h 4 _ rfl _ opn_i64
    obtain ⟨x5, h5, g5⟩ := h 5 _ rfl _ opn_i64
    obtain ⟨x6, h6, g6⟩ := h 6 _ rfl _ opn_i64
    obtain ⟨x7, h7⟩ := h 7 _ rfl _ opn_bool4
    obtain ⟨x8, x9, x10, x11, h8, g8, g9, g10, g11⟩ := h 8 _ rfl _ opn_key
    obtain ⟨a, c, l, h12, hr, hb, hz, hc, hm⟩ := h 9 _ rfl _ opn_bytes
    have h0 : [y0] = [Value.int .i64 x0] := h0
    have h1 : [y1] = [Value.int .i64 x1] := h1
    have h2 : [y2] = [Value.int .i64 x2] := h2
    have h3 : [y3] = [Value.int .i64 x3] := h3
    have h4 : [y4] = [Value.int .i64 x4] := h4
    have h5 : [y5] = [Value.int .i64 x5] := h5
    have h6 : [y6] = [Value.int .i64 x6] := h6
    have h7 : [y7] = [Value.bool x7] := h7
    have h8 : [y8, y9, y10, y11] = [Value.int .i64 x8, .int .i64 x9, .int .i64 x10, .int .i64 x11] := h8
    have h12 : [y12] = [Value.slice a l.length c] := h12
    simp only [List.cons.injEq, and_true] at h0 h1 h2 h3 h4 h5 h6 h7 h8 h12
    exact ⟨⟨x0, x1, x2, x3, x4, x5, x6, x7, x8, x9, x10, x11, l⟩, a, c, by rw [h0, h1, h2, h3, h4, h5, h6, h7, h8.1, h8.2.1, h8.2.2.1, h8.2.2.2, h12]; rfl, hr, hb, hz, hm, g0, g1, g2, g3, g4, g5, g6, g8, g9, g10, g11⟩
end Go.Proofs.Ytphcnaafhcfakaa
