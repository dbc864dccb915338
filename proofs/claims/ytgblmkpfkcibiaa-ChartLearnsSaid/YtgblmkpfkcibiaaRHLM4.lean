/-
  Learn answers as the chapter says, of all that is known, and all places. Conditions: none.
-/
import Derived.Test.YtgblmkpfkcibiaaRHLM3

set_option linter.unusedSimpArgs false
set_option linter.unusedVariables false
namespace Go.Proofs.Ytgblmkpfkcibiaa
open Go.Hb
attribute [local irreducible] LR CW At Ev thn blk finK noG again CallsTo DW QL dnext TW DP gpost
set_option maxRecDepth 100000

def lrnF (K L : List Plc) : List Plc := L.foldl lrnP K
theorem lrnF_take {K L : List Plc} {i : Nat} (h : i < L.length) : lrnF K (L.take (i + 1)) = lrnP (lrnF K (L.take i)) L[i] := by
  unfold lrnF
  rw [List.take_add_one, List.getElem?_eq_getElem h, List.foldl_append]; rfl
theorem lrnP_len (K : List Plc) (x : Plc) : (lrnP K x).length ≤ K.length + 1 := by
  unfold lrnP
  rw [isP_len]
  exact lrnL_len K x
theorem lrnF_len : ∀ (L K : List Plc), (lrnF K L).length ≤ K.length + L.length
  | [], K => by simp [lrnF]
  | x :: r, K => by
    have h1 := lrnF_len r (lrnP K x)
    have h2 := lrnP_len K x
    show (lrnF (lrnP K x) r).length ≤ _
    rw [List.length_cons]; omega
set_option maxHeartbeats 4000000 in
theorem m5 (a0 : Option Addr) (c0 : Nat) (K : List Plc) (a1 : Option Addr) (c1 : Nat) (L : List Plc) (w : World) (hk : Rd w a0 (pcs K)) (hz0 : a0 = none → c0 = 0) (hmK : K.length * 32 ≤ 140737488351232) (hl : Rd w a1 (pcs L)) (hi : plcsI L) (hmL : L.length * 32 ≤ 140737488351232) :
    CallsTo Try.prog 5 [.slice a0 K.length c0, .slice a1 L.length c1] w fun v w' => v = .bool true ∧ Grew w w' := by
  refine go_in (n := 71) (St.rd2 hk hl) Try.func5 rfl rfl ?_
  by_cases hbig : 200 < K.length ∨ 200 < L.length
  · repeat'(first|refine kv' ?_|apply jJ|refine jE' ?_|refine jp' ?_|(apply jc;kernel_rfl)|refine kg' ?_|refine kG' ?_|refine kB' fun _=>?_|refine kA' fun _=>?_|refine kK' fun _=>?_|refine kU' ?_|(apply kq; (· exact rfl); (· intro w1 h1; exact CallsTo.q (m22 w1) h1))|((first|refine kR' ?_ ?_|refine kQ' ?_ ?_);all_goals(intro hc;try simp only[hcs]at hc;try(exfalso;first|contradiction|omega))))
    all_goals first
      | (exfalso; omega)
      | ((apply ret1; (· exact rfl); intro w' hS)
         exact ⟨rfl, hS.toKeep⟩)
  have hK : K.length ≤ 200 := by omega
  have hL : L.length ≤ 200 := by omega
  repeat'(first|refine kv' ?_|apply jJ|refine jE' ?_|refine jp' ?_|(apply jc;kernel_rfl)|refine kg' ?_|refine kG' ?_|refine kB' fun _=>?_|refine kA' fun _=>?_|refine kK' fun _=>?_|refine kU' ?_|(apply LR.call (d := 22); (· exact rfl); (intro w1 h1; refine (m23 a0 c0 K w1 (h1.rd_of memZ) hz0 (by omega)).mono ?_; rintro v w2 ⟨a5, c5, rfl, hn⟩; refine LR.back (h1.newSl hn) ?_; clear hn h1))|(apply LR.call (d := 24); (· exact rfl); (intro w1 h1; refine (m23 a0 c0 K w1 (h1.rd_of memZ) hz0 (by omega)).mono ?_; rintro v w2 ⟨a6, c6, rfl, hn⟩; refine LR.back (h1.newSl hn) ?_; clear hn h1))|((first|refine kR' ?_ ?_|refine kQ' ?_ ?_);all_goals(intro hc;try simp only[hcs]at hc;try(exfalso;first|contradiction|omega))))
  apply CW.loop [4, 5, 6, 7, 8, 9, 10, 11, 25, 26, 27, 28, 29, 30, 31, 32, 33, 34, 35, 36, 37, 38, 39, 40, 41, 42, 43, 44, 45, 46, 47, 48, 49, 50, 51, 52, 53, 54, 55, 56, 57, 58, 59, 60, 61, 62, 63, 64, 65, 66, 67, 68, 69] (fun s : Cs2 => s.k ≤ L.length) (fun s => [(7, .int .i64 (s.k : Int)), (5, .slice s.a (lrnF K (L.take s.k)).length s.c), (6, .slice s.a2 (lrnF K (L.take s.k)).length s.c2)])
    (fun s => St w NoF [pN s.a2 (lrnF K (L.take s.k)).length s.c2 (lrnF K (L.take s.k)), pN s.a (lrnF K (L.take s.k)).length s.c (lrnF K (L.take s.k)), rdA a0 (pcs K), rdA a1 (pcs L)]) (fun s => L.length - s.k)
  · exact fun w' hw' => ⟨⟨0, a5, c5, a6, c6⟩, Nat.zero_le _, ⟨rfl, rfl, rfl, trivial⟩, hw'⟩
  rintro ⟨k, a, c, a2, c2⟩ g hk4
  simp only at hk4 ⊢
  by_cases hlt : k < L.length
  rotate_left
  · repeat'(first|refine kv' ?_|apply jJ|refine jE' ?_|refine jp' ?_|(apply jc;kernel_rfl)|refine kg' ?_|refine kG' ?_|refine kB' fun _=>?_|refine kA' fun _=>?_|refine kK' fun _=>?_|refine kU' ?_|(apply kq; (· exact rfl); (· intro w1 h1; exact CallsTo.q (m22 w1) h1))|((first|refine kR' ?_ ?_|refine kQ' ?_ ?_);all_goals(intro hc;try simp only[hcs]at hc;try(exfalso;first|contradiction|omega))))
    (apply ret1; (· exact rfl); intro w' hS)
    exact ⟨rfl, hS.toKeep⟩
  have hA := lrnF_take (K := K) hlt
  have hAl : (lrnF K (L.take k)).length ≤ 400 := by
    have h1 := lrnF_len (L.take k) K
    rw [List.length_take] at h1
    omega
  obtain ⟨ba, oa, rfl⟩ := hl.form (fun e => by have h1 := congrArg List.length e; rw [pcs_length, List.length_nil] at h1; omega)
  obtain ⟨x, hx⟩ : ∃ x, L[k] = x := ⟨_, rfl⟩
  have hlx : L[k]? = some x := by rw [List.getElem?_eq_getElem hlt, hx]
  have hxm : i64P x.members := (hi x (hx ▸ List.getElem_mem hlt)).2.2.2
  rw [hx] at hA
  generalize lrnF K (L.take k) = A at hA hAl ⊢
  have hBl : (lrnP A x).length ≤ 401 := by have := lrnP_len A x; omega
  repeat'(first|(apply LR.ev; (· apply Ev.load_agg_at (cs := [Value.int .i64 x.ring, .int .i64 x.seq, .int .i64 x.rep, .int .i64 x.members]); (· exact rfl); (· exact rfl); (· intro w' hw'; refine pcs_cell (x := x) (hw'.rd_of memZ) hlx ?_; (· omega))); (· exact rfl))|refine kv' ?_|apply jJ|refine jE' ?_|refine jp' ?_|(apply jc;kernel_rfl)|refine kg' ?_|refine kG' ?_|refine kB' fun _=>?_|refine kA' fun _=>?_|refine kK' fun _=>?_|refine kU' ?_|(apply idxX;(iterate 2 exact rfl);(iterate 2(first|omega|(dsimp only;omega)));exact rfl)|(apply LR.call (d := 32); (· exact rfl); (intro w1 h1; have hown := h1.holds (pN a A.length c A) memZ; refine (m23 a c A w1 (ownsRow_rd hown) (fun e => (ownsRow_some hown e).2) (by omega)).mono ?_; rintro v w2 ⟨a8, c8, rfl, hn⟩; refine LR.back (h1.newSl hn) ?_; clear hn h1 hown))|(apply LR.call (d := 38); (· exact rfl); (intro w1 h1; have hown := h1.holds (pN a A.length c A) memZ; refine CallsTo.mono (show CallsTo Try.prog 27 [.slice a A.length c, x.val] w1 _ from m27 sort_all A a c x w1 (ownsRow_rd hown) (fun e => (ownsRow_some hown e).2) (by omega) (by omega) hxm) ?_; rintro v w2 ⟨a9, c9, rfl, hn⟩; refine LR.back (h1.newSl hn) ?_; clear hn h1 hown))|(apply kq; (· exact rfl); (· intro w1 h1; exact CallsTo.q (show CallsTo Try.prog 25 [.slice a A.length c, .slice a8 A.length c8] w1 _ from x25 a a8 c c8 A w1 (h1.rd_of_own memZ) (h1.rd_of_own memZ) (by omega)) h1))|(apply LR.call (d := 44); (· exact rfl); (intro w1 h1; have hown := h1.holds (pN a9 (lrnP A x).length c9 (lrnP A x)) memZ; refine (m23 a9 c9 (lrnP A x) w1 (ownsRow_rd hown) (fun e => (ownsRow_some hown e).2) (by omega)).mono ?_; rintro v w2 ⟨a10, c10, rfl, hn⟩; refine LR.back (h1.newSl hn) ?_; clear hn h1 hown))|((first|refine kR' ?_ ?_|refine kQ' ?_ ?_);all_goals(intro hc;try simp only[hcs]at hc;try(exfalso;first|contradiction|omega))))
  obtain ⟨B, hB⟩ : ∃ B, lrnP A x = B := ⟨_, rfl⟩
  rw [hB] at hBl hA ⊢
  have hpl := pcs_length B
  apply CW.loop [11, 45, 46, 47, 48, 49, 50, 51, 52, 53, 54] (fun s : Nat × List Value => s.1 ≤ B.length ∧ s.2.length = B.length * 4) (fun s : Nat × List Value => [(11, Value.int .i64 (s.1 : Int))])
    (fun s => St w NoF [osl (.slice a9 B.length c9) 44 4 B.length s.2, pN a10 B.length c10 B, pN a8 A.length c8 A, pN a2 A.length c2 A, pN a A.length c A, rdA a0 (pcs K), rdA (some ⟨ba, oa, none⟩) (pcs L)]) (fun s => B.length - s.1)
  · exact fun w' hw' => ⟨(0, pcs B), ⟨Nat.zero_le _, hpl⟩, ⟨rfl, trivial⟩, (front hw' 1 rfl rfl).sub subZ⟩
  rintro ⟨j, xs⟩ g ⟨hjl, hxs⟩
  simp only at hjl hxs ⊢
  by_cases hjt : j < B.length
  · have hne : xs ≠ [] := fun e => by rw [e] at hxs; simp at hxs; omega
    refine CW_fact (φ := ∃ b o, a9 = some ⟨b, o, none⟩) (fun w' hw' => (ownsRow_rd hw'.g0).form hne) fun hf => ?_
    obtain ⟨b7, o7, rfl⟩ := hf
    repeat'(first|refine kv' ?_|apply jJ|refine jE' ?_|refine jp' ?_|(apply jc;kernel_rfl)|refine kg' ?_|refine kG' ?_|refine kB' fun _=>?_|refine kA' fun _=>?_|refine kK' fun _=>?_|refine kU' ?_|(apply idxX;(iterate 2 exact rfl);(iterate 2(first|omega|(dsimp only;omega)));exact rfl)|(apply addX;(iterate 2 exact rfl);(iterate 2(first|omega|(dsimp only;omega)));exact rfl)|((first|refine kR' ?_ ?_|refine kQ' ?_ ?_);all_goals(intro hc;try simp only[hcs]at hc;try(exfalso;first|contradiction|omega))))
    refine LR.store_obj (v := .int .i64 (-1)) (z' := osl (.slice (some ⟨b7, o7, none⟩) B.length c9) 44 4 B.length (splice xs ((j : Int).toNat * 4 + 3) [.int .i64 (-1)])) rfl rfl (sH _ _ _) rfl ?_ (osl.dep _ _ _ _ _) ?_
    · exact Stores.osl (P := Try.prog) (T := 3) (q := 1) (b := b7) (o := o7) (i := (j : Int).toNat * 4 + 3) (n := B.length) (c := c9) (v := .int .i64 (-1)) (vs := [.int .i64 (-1)]) (xs := xs) (E := 44) (sz := 4) inferInstance rfl rfl rfl (by simp; omega)
    repeat'(first|refine kv' ?_|apply jJ|refine jE' ?_|refine jp' ?_|(apply jc;kernel_rfl)|refine kg' ?_|refine kG' ?_|refine kB' fun _=>?_|refine kA' fun _=>?_|refine kK' fun _=>?_|refine kU' ?_|(apply addX;(iterate 2 exact rfl);(iterate 2(first|omega|(dsimp only;omega)));exact rfl)|((first|refine kR' ?_ ?_|refine kQ' ?_ ?_);all_goals(intro hc;try simp only[hcs]at hc;try(exfalso;first|contradiction|omega))))
    apply At.again (j + 1, splice xs ((j : Int).toNat * 4 + 3) [.int .i64 (-1)]) ⟨by show j + 1 ≤ _; omega, by simp [splice, hxs]; omega⟩
    · (repeat (first | exact Out.refl _ _ | exact Out.mix | (apply Out.upd; (· exact rfl)) | (apply Out.updL; (· exact rfl)) | (apply Out.mixs; (· exact rfl))))
    · exact ⟨rfl, trivial⟩
    · exact fun w' hw' => hw'
    · show B.length - (j + 1) < B.length - j; omega
  have hje : j = B.length := by omega
  subst hje
  repeat'(first|(apply LR.ev; (· apply Ev.load_agg_at (cs := [Value.int .i64 x.ring, .int .i64 x.seq, .int .i64 x.rep, .int .i64 x.members]); (· exact rfl); (· exact rfl); (· intro w' hw'; refine pcs_cell (x := x) (hw'.rd_of memZ) hlx ?_; (· omega))); (· exact rfl))|refine kv' ?_|apply jJ|refine jE' ?_|refine jp' ?_|(apply jc;kernel_rfl)|refine kg' ?_|refine kG' ?_|refine kB' fun _=>?_|refine kA' fun _=>?_|refine kK' fun _=>?_|refine kU' ?_|(apply addX;(iterate 2 exact rfl);(iterate 2(first|omega|(dsimp only;omega)));exact rfl)|(apply idxX;(iterate 2 exact rfl);(iterate 2(first|omega|(dsimp only;omega)));exact rfl)|(apply kq (d := 57); (· exact rfl); (· intro w1 h1; exact CallsTo.q (show CallsTo Try.prog 25 [.slice a A.length c, .slice a8 A.length c8] w1 _ from x25 a a8 c c8 A w1 (h1.rd_of_own memZ) (h1.rd_of_own memZ) (by omega)) h1))|(apply LR.call (d := 65); (· exact rfl); (intro w1 h1; have hown := h1.holds (pN a2 A.length c2 A) memZ; refine CallsTo.mono (show CallsTo Try.prog 28 [.slice a2 A.length c2, x.val] w1 _ from m28 A a2 c2 x w1 (ownsRow_rd hown) (by omega)) ?_; rintro v w2 ⟨a11, c11, rfl, hn⟩; rw [hB] at hn ⊢; refine LR.back (h1.newSl hn) ?_; clear hn h1 hown))|(apply kq (d := 68); (· exact rfl); (· intro w1 h1; exact CallsTo.q (show CallsTo Try.prog 25 [.slice a10 B.length c10, .slice a11 B.length c11] w1 _ from x25 a10 a11 c10 c11 B w1 (h1.rd_of_own memZ) (h1.rd_of_own memZ) (by omega)) h1))|((first|refine kR' ?_ ?_|refine kQ' ?_ ?_);all_goals(intro hc;try simp only[hcs]at hc;try(exfalso;first|contradiction|omega))))

  refine At.again (⟨k + 1, a10, c10, a11, c11⟩ : Cs2) (by simp only; omega) ?_ ⟨?_, ?_, ?_, trivial⟩ ?_ (by simp only; omega)
  · (repeat (first | exact Out.refl _ _ | exact Out.mix | (apply Out.upd; (· exact rfl)) | (apply Out.updL; (· exact rfl)) | (apply Out.mixs; (· exact rfl))))
  · exact congrArg (Value.int .i64) (by show ((k : Int) + 1) = ((k + 1 : Nat) : Int); omega)
  · simp only
    rw [hA]
    rfl
  · simp only
    rw [hA]
    rfl
  · intro w' hw'
    simp only
    rw [hA]
    exact hw'.sub subZ
end Go.Proofs.Ytgblmkpfkcibiaa

namespace Go.Proofs.Ytgblmkpfkcibiaa
open Go.Hb Go.ChangeShapes Go.WideShapes
attribute [local irreducible] LR CW At Ev thn blk finK noG again CallsTo DW QL dnext

set_option maxHeartbeats 1000000 in
set_option maxRecDepth 100000 in
theorem chartLearns_lifted (os : Os) (started : os.Started) (H : Type) (enc : TypeId × Value → H) :
    ReturnsInHanded {} Try.checked os 5 .any (Rows.chartLearnsSpec.pre6 enc Try.prog Try.f5 Rows.chartLearnsRow.domain false) (Rows.chartLearnsSpec.post enc Try.prog Try.f5 false true false false) := by
  refine returnsInHanded_of_change_sized (C := Try.checked) (s := Rows.chartLearnsSpec) own_knob started (by kernel_rfl) Try.func5
    (ChangeSpec.witness6 (enc := enc) (C := Try.checked) false ⟨#[], #[.slice none 0 0, .slice none 0 0], []⟩ 12 (by kernel_rfl) (by kernel_rfl) (by kernel_rfl) (by kernel_rfl)) ?_
  intro W base args ds gs before hval hW hcnd hwt _
  have hW' := hW
  obtain ⟨p, q, hA0, hV, rfl, hfz, hnd⟩ := hW'
  obtain ⟨rfl, rfl⟩ := trodVars_none hV
  have hA : DataW.TrodAll enc Try.prog W 0 (fun _ => true) true Try.f5.params.toList args.toList ds p := hA0
  rw [Try.params5] at hA
  obtain ⟨v0, vs0, d0, ds0, p0, q0, hargs, rfl, rfl, h0, r0⟩ := trodAll_cons hA
  obtain ⟨v1, vs1, d1, ds1, p1, q1, rfl, rfl, rfl, h1, r1⟩ := trodAll_cons r0
  obtain ⟨rfl, rfl, rfl⟩ := trodAll_nil r1
  obtain rfl : args = #[v0, v1] := by cases args; simp_all
  obtain ⟨a0, c0, l0, hcs0, hr0, hb0, hz0, hc0, hm0⟩ := opn_arg (i := 0) opn_plcs h0 hwt rfl rfl
  obtain ⟨b0, n0, e0, rfl⟩ := okWide_slice Try.underlying37 (hval 0 37 v0 rfl rfl)
  have hcs0 : [Value.slice b0 n0 e0] = [.slice a0 l0.length c0] := hcs0
  simp only [List.cons.injEq, Value.slice.injEq, and_true] at hcs0
  obtain ⟨e10, e20, e30⟩ := hcs0
  have e10 := e10.symm
  have e30 := e30.symm
  subst e10; subst e20; subst e30
  obtain ⟨a1, c1, l1, hcs1, hr1, hb1, hz1, hc1, hm1⟩ := opn_arg (i := 1) opn_plcs h1 hwt rfl rfl
  obtain ⟨b1, n1, e1, rfl⟩ := okWide_slice Try.underlying37 (hval 1 37 v1 rfl rfl)
  have hcs1 : [Value.slice b1 n1 e1] = [.slice a1 l1.length c1] := hcs1
  simp only [List.cons.injEq, Value.slice.injEq, and_true] at hcs1
  obtain ⟨e11, e21, e31⟩ := hcs1
  have e11 := e11.symm
  have e31 := e31.symm
  subst e11; subst e21; subst e31
  refine (m5 a0 c0 l0 a1 c1 l1 W hr0 hz0 hm0 hr1 hb1 hm1).calls fun v W' ⟨hv, hg⟩ => ⟨v, rfl, ?_⟩
  subst hv
  exact law_post kids full_slices hW hg rfl rfl (by kernel_rfl) Try.underlying4 (by rw [Try.params5]; decide +kernel)

theorem chartLearns_holds : Rows.ChartLearnsSaid :=
  OpenClaim.holds_of_wide 5 Try.f5 rfl rfl rfl rfl rfl rfl rfl ⟨rfl, rfl, rfl, rfl, rfl⟩ rfl rfl rfl rfl rfl (by kernel_rfl) Try.func5 (by kernel_rfl)
    (of_decide_eq_true (by kernel_rfl)) (by unfold Func.isWrapper; first | (rw [if_pos (by decide +kernel)]; kernel_rfl) | (rw [if_neg (by decide +kernel)]; exact ⟨rfl, rfl⟩))
    (fun os started H enc _ => chartLearns_lifted os started H enc)
end Go.Proofs.Ytgblmkpfkcibiaa
