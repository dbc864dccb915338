/-
  Unpack of the program.
-/
import Derived.Test.YtomlgnncncjmaaaA15
-- all by hand
namespace Go.Proofs.Ytomlgnncncjmaaa
open Go.Hb
attribute [local irreducible] LR CW At Ev thn blk finK noG again CallsTo DW QL dnext
set_option linter.unusedSimpArgs false
set_option linter.unusedVariables false
set_option maxRecDepth 100000

theorem front_perm {α : Type} : ∀ (L : List α) (i : Nat) (hi : i < L.length), L.Perm (L[i] :: L.eraseIdx i)
  | x :: r, 0, _ => List.Perm.refl _
  | x :: r, i + 1, hi => ((front_perm r i (by simpa using hi)).cons x).trans (List.Perm.swap _ _ _)
theorem front {w0 w : World} {F : Nat → Prop} {L L' : List Asrt} (h : St w0 F L w) (i : Nat) (hi : Nat.blt i L.length = true) (e : L[i]'(blt_lt hi) :: L.eraseIdx i = L') : St w0 F L' w := (h.perm (front_perm L i (blt_lt hi))).cast e
theorem decF_pos : ∀ k i acc l, (decF k i acc l).2.2 = 0 → i + 1 ≤ (decF k i acc l).2.1
  | 0, i, acc, l => by simp [decF]
  | k + 1, i, acc, [] => by simp [decF]
  | k + 1, i, acc, x :: r => by
    unfold decF
    split
    · split
      · simp
      · simp
    · intro h
      have := decF_pos k (i + 1) (acc + x.toNat % 128 * 128 ^ i) r h
      omega
theorem octs_facts {most : Int} {l : List Int} (h : (octs most l).2.1 = 0) : (octs most l).1.length < l.length ∧ ∀ b ∈ (octs most l).1, b ∈ l := by
  unfold octs at *
  split at h
  · rename_i h0; exact (h0 h).elim
  · rename_i h0
    have hp := decF_pos 8 0 0 l (by simpa [dec] using h0)
    have hl := dec_le l
    split at h
    · cases h
    · split at h
      · cases h
      · rename_i h1 h2
        have hp' : 1 ≤ (dec l).2.1 := by have : (dec l).2.1 = (decF 8 0 0 l).2.1 := rfl; omega
        rw [if_neg h0, if_neg h1, if_neg h2]
        refine ⟨by simp; omega, fun b hb => List.mem_of_mem_drop (List.mem_of_mem_take hb)⟩
def T2 (bm : Nat) (hd : List Value) (vs : List Int) : Asrt := .own bm (.cells (hd ++ iv vs ++ zz (4 - vs.length) ++ [Value.slice none 0 0]).toArray 28 (0, 0))
theorem T2_stores (bm : Nat) (hd : List Value) (h8 : hd.length = 8) (vs : List Int) (x : Int) (hi : vs.length < 4) : Stores Try.prog 3 ⟨bm, 8 + vs.length, none⟩ (.int .i64 x) (T2 bm hd vs) (T2 bm hd (vs ++ [x])) := by
  have e2 : zz (4 - vs.length) = .int .i64 0 :: zz (4 - (vs ++ [x]).length) := by
    rw [show 4 - vs.length = (4 - (vs ++ [x]).length) + 1 by simp; omega]; rfl
  have st := Stores.own (P := Try.prog) (T := 3) (m := 1) (b := bm) (o := 8 + vs.length) (v := .int .i64 x) (cs := (hd ++ iv vs) ++ .int .i64 0 :: (zz (4 - (vs ++ [x]).length) ++ [Value.slice none 0 0])) (vs := [.int .i64 x]) (E := 28) inferInstance rfl rfl rfl (by simp [h8]; omega)
  rw [splice_mid _ _ _ _ (by simp [h8])] at st
  unfold T2
  rw [e2]
  simpa [iv] using st
def tail6 : List Value := [.bool false, .int .i64 0, .int .i64 0, .int .i64 0, .int .i64 0, .slice none 0 0]
def T1 (bm bs : Nat) (vs : List Int) : Asrt := both (.own bm (.cells (iv (vs.take 7) ++ zz (7 - vs.length) ++ tail6).toArray 28 (0, 0))) (.own bs (.cells [.int .i64 (vs.getD 7 0)].toArray 3 (0, 0)))

theorem T1_stores (bm bs : Nat) (vs : List Int) (x : Int) (hi : vs.length < 8) : Stores Try.prog 3 (if vs.length < 7 then ⟨bm, vs.length, none⟩ else ⟨bs, 0, none⟩) (.int .i64 x) (T1 bm bs vs) (T1 bm bs (vs ++ [x])) := by
  by_cases h7 : vs.length < 7
  · rw [if_pos h7]
    have e2 : zz (7 - vs.length) = .int .i64 0 :: zz (7 - (vs ++ [x]).length) := by
      rw [show 7 - vs.length = (7 - (vs ++ [x]).length) + 1 by simp; omega]; rfl
    have st := Stores.own (P := Try.prog) (T := 3) (m := 1) (b := bm) (o := vs.length) (v := .int .i64 x) (cs := iv vs ++ .int .i64 0 :: (zz (7 - (vs ++ [x]).length) ++ tail6)) (vs := [.int .i64 x]) (E := 28) inferInstance rfl rfl rfl (by simp)
    rw [splice_mid _ _ _ _ (by simp)] at st
    have st2 := Stores.left (y := .own bs (.cells [.int .i64 0].toArray 3 (0, 0))) st (Asrt.dep_own _ _)
    unfold T1
    have g1 : vs.getD 7 0 = 0 := by simp [List.getD_eq_getElem?_getD, List.getElem?_eq_none (show vs.length ≤ 7 by omega)]
    have g2 : (vs ++ [x]).getD 7 0 = 0 := by simp [List.getD_eq_getElem?_getD, List.getElem?_eq_none (show (vs ++ [x]).length ≤ 7 by simp; omega)]
    rw [g1, g2, List.take_of_length_le (by omega), List.take_of_length_le (by simp; omega), e2]
    simpa [iv] using st2
  · rw [if_neg h7]
    have h8 : vs.length = 7 := by omega
    have st := Stores.own (P := Try.prog) (T := 3) (m := 1) (b := bs) (o := 0) (v := .int .i64 x) (cs := [.int .i64 (vs.getD 7 0)]) (vs := [.int .i64 x]) (E := 3) inferInstance rfl rfl rfl (by simp)
    have st2 := Stores.right (x := .own bm (.cells (iv (vs.take 7) ++ zz (7 - vs.length) ++ tail6).toArray 28 (0, 0))) st (Asrt.dep_own _ _)
    unfold T1
    have g2 : (vs ++ [x]).getD 7 0 = x := by simp [List.getD_eq_getElem?_getD, ← h8]
    have g3 : (vs ++ [x]).take 7 = vs.take 7 := by rw [List.take_append_of_le_length (by omega)]
    have g4 : zz (7 - (vs ++ [x]).length) = zz (7 - vs.length) := by simp [h8]
    rw [g2, g3, g4]
    simpa [splice] using st2

set_option maxHeartbeats 2000000 in
theorem c23 {ck : Msg → Int} (l : List Int) (hck : ∀ (m : Msg) (a : Option Addr) (c : Nat) (w : World), Rd w a (bv m.body) → (a = none → c = 0) → Byt m.body → m.body.length < l.length → CallsTo Try.prog 17 [m.val a c] w fun v w' => v = .int .i64 (ck m) ∧ Grew w w')
    (a : Option Addr) (ca : Nat) (w : World) (hr : Rd w a (bv l)) (hz : a = none → ca = 0) (hm : l.length ≤ 140737488355328) (hb : Byt l) :
    CallsTo Try.prog 23 [.slice a l.length ca] w fun v w' => ∃ a2 c2, v = .tuple [(unpackW ck l).1.val a2 c2, .int .i64 (unpackW ck l).2].toArray ∧ NewSl w w' (.slice a2 (unpackW ck l).1.body.length c2) 5 1 (unpackW ck l).1.body.length (bv (unpackW ck l).1.body) := by
  refine go_in (n := 68) (St.rd1 hr) Try.func23 rfl rfl ?_
  have nils : ∀ w', Grew w w' → NewSl w w' (.slice none 0 0) 5 1 0 (bv []) := fun w' hg => ⟨hg, World.ownsRow_nil _ _ _ _⟩
  repeat' (
    first
    | (
      first
      | (apply kp; iterate 2 exact rfl)
      | apply ja | apply jb | apply jg | apply jj | (apply je; exact rfl) | (apply jf; exact rfl) | apply jd | apply jh | apply ji | (apply jc; kernel_rfl) | apply jk | apply jl | apply jm | apply jn | apply jo | (apply jp; exact rfl) | apply jq | apply jr | apply js | apply jt | apply ju | apply jv | apply jw | apply kN | apply kM
      | (apply kf; iterate 2 exact rfl)
      | (apply ko; (· exact rfl); (· repeat (first | exact mH _ _ | apply mT)); iterate 2 exact rfl)
      | (apply ka; (· exact rfl); (· repeat (first | exact mH _ _ | apply mT)); iterate 2 exact rfl)
      | (apply kr; (· exact rfl); (· repeat (first | exact mH _ _ | apply mT)); iterate 3 exact rfl)
      | (apply ks; (· exact rfl); (· repeat (first | exact mH _ _ | apply mT)); iterate 2 exact rfl)
      | (apply kn; iterate 2 exact rfl)
      | (apply ke; iterate 2 exact rfl)
      | (apply kx; iterate 2 exact rfl)
      | (apply kc; iterate 2 exact rfl)
      | (apply kb; iterate 2 exact rfl)
      | (apply kg; iterate 2 exact rfl)
      | (apply kG; iterate 3 exact rfl)
      | (apply kB; (iterate 2 exact rfl); intro _)
      | (apply kA; exact rfl; intro _)
      | (apply kL; (iterate 3 exact rfl); (· repeat (first | exact BS.nil _ | (apply BS.int; exact rfl) | (apply BS.ptr; exact rfl) | (apply BS.slice; exact rfl) | (apply BS.agg; iterate 2 exact rfl))); intro _)
      | (apply kT; (iterate 2 exact rfl); (· repeat (first | exact sH _ _ _ | apply sT)); iterate 2 exact rfl)
      | (apply kS; (iterate 2 exact rfl); (· repeat (first | exact sH _ _ _ | apply sT)); exact rfl)
      | (apply kh; (iterate 2 exact rfl); (first | decide | omega); exact rfl)
      | (apply kl; (iterate 2 exact rfl); (first | decide | omega); exact rfl)
      )
    | (apply LR.call; (· exact rfl); (intro w1 h1; refine (c65 a ca l w1 (h1.rd_of (List.Mem.tail _ (List.Mem.tail _ (List.Mem.tail _ (List.Mem.head _))))) hz hm).mono ?_; rintro v w2 ⟨br, a1, c1, rfl, hn⟩; refine LR.back (h1.got hn (rrA_dep _ _ _ _ _ _)) ?_; clear hn h1))
    | ((first | (apply kR; (· exact rfl); (· exact rfl)) | (apply kQ; (· exact rfl))); all_goals (intro hc; try simp only [decide_eq_true_eq, decide_eq_false_iff_not, Bool.not_eq_true', Bool.not_eq_false', Bool.not_eq_true, Bool.not_eq_false, Bool.not_true, Bool.not_false, Int.not_lt, Int.not_le, List.cons.injEq, and_true, beq_iff_eq, beq_eq_false_iff_ne] at hc; try (exfalso; first | contradiction | omega)))
    )
  apply LR.call
  · exact rfl
  intro w1 h1
  rename_i b2 bm bs _ bp
  have h2 := (front (front h1 2 rfl rfl) 3 rfl rfl).join rfl rfl
  have h3 := ((front h2 2 rfl rfl).join rfl rfl).cast (L' := [both (rrA 120 [.bool true] br a1 c1 l) (T1 bm bs []), _, _, _]) rfl
  clear h1 h2
  refine (c66m (m := 8) (ads := [⟨bm, 0 + 0, none⟩, ⟨bm, 0 + 1, none⟩, ⟨bm, 0 + 2, none⟩, ⟨bm, 0 + 3, none⟩, ⟨bm, 0 + 4, none⟩, ⟨bm, 0 + 5, none⟩, ⟨bm, 0 + 6, none⟩, ⟨bs, 0, none⟩]) (T := T1 bm bs) h3 rfl ?_ (fun _ => rfl) (fun _ => both_dep (Asrt.dep_own _ _) (Asrt.dep_own _ _)) hb (by omega) (by omega)).mono ?_
  · intro vs x hi
    have e : ∀ k (hk : k < 8), ([⟨bm, 0 + 0, none⟩, ⟨bm, 0 + 1, none⟩, ⟨bm, 0 + 2, none⟩, ⟨bm, 0 + 3, none⟩, ⟨bm, 0 + 4, none⟩, ⟨bm, 0 + 5, none⟩, ⟨bm, 0 + 6, none⟩, ⟨bs, 0, none⟩] : List Addr)[k] = if k < 7 then ⟨bm, k, none⟩ else ⟨bs, 0, none⟩ := by
      intro k hk
      match k, hk with
      | 0, _ => rfl
      | 1, _ => rfl
      | 2, _ => rfl
      | 3, _ => rfl
      | 4, _ => rfl
      | 5, _ => rfl
      | 6, _ => rfl
      | 7, _ => rfl
    rw [e _ hi]
    exact T1_stores bm bs vs x hi
  rintro v w2 ⟨a2, c2, rfl, st⟩
  refine LR.back st ?_
  clear st h3
  have hl8 := decs_len 8 l
  have hbd8 := decs_bound 8 l
  repeat' (
    first
    | (
      first
      | (apply kp; iterate 2 exact rfl)
      | apply ja | apply jb | apply jg | apply jj | (apply je; exact rfl) | (apply jf; exact rfl) | apply jd | apply jh | apply ji | (apply jc; kernel_rfl) | apply jk | apply jl | apply jm | apply jn | apply jo | (apply jp; exact rfl) | apply jq | apply jr | apply js | apply jt | apply ju | apply jv | apply jw | apply kN | apply kM
      | (apply kf; iterate 2 exact rfl)
      | (apply ko; (· exact rfl); (· repeat (first | exact mH _ _ | apply mT)); iterate 2 exact rfl)
      | (apply ka; (· exact rfl); (· repeat (first | exact mH _ _ | apply mT)); iterate 2 exact rfl)
      | (apply kr; (· exact rfl); (· repeat (first | exact mH _ _ | apply mT)); iterate 3 exact rfl)
      | (apply ks; (· exact rfl); (· repeat (first | exact mH _ _ | apply mT)); iterate 2 exact rfl)
      | (apply kn; iterate 2 exact rfl)
      | (apply ke; iterate 2 exact rfl)
      | (apply kx; iterate 2 exact rfl)
      | (apply kc; iterate 2 exact rfl)
      | (apply kb; iterate 2 exact rfl)
      | (apply kg; iterate 2 exact rfl)
      | (apply kG; iterate 3 exact rfl)
      | (apply kB; (iterate 2 exact rfl); intro _)
      | (apply kA; exact rfl; intro _)
      | (apply kL; (iterate 3 exact rfl); (· repeat (first | exact BS.nil _ | (apply BS.int; exact rfl) | (apply BS.ptr; exact rfl) | (apply BS.slice; exact rfl) | (apply BS.agg; iterate 2 exact rfl))); intro _)
      | (apply kT; (iterate 2 exact rfl); (· repeat (first | exact sH _ _ _ | apply sT)); iterate 2 exact rfl)
      | (apply kS; (iterate 2 exact rfl); (· repeat (first | exact sH _ _ _ | apply sT)); exact rfl)
      | (apply kh; (iterate 2 exact rfl); (first | decide | omega); exact rfl)
      | (apply kl; (iterate 2 exact rfl); (first | decide | omega); exact rfl)
      )
    | ((first | (apply kR; (· exact rfl); (· exact rfl)) | (apply kQ; (· exact rfl))); all_goals (intro hc; try simp only [decide_eq_true_eq, decide_eq_false_iff_not, Bool.not_eq_true', Bool.not_eq_false', Bool.not_eq_true, Bool.not_eq_false, Bool.not_true, Bool.not_false, Int.not_lt, Int.not_le, List.cons.injEq, and_true, beq_iff_eq, beq_eq_false_iff_ne] at hc; try (exfalso; first | contradiction | omega)))
    )
  · (apply ret2c; (· exact rfl); (· exact inferInstance); (· exact rfl); (· (repeat (first | exact List.Mem.head _ | apply List.Mem.tail))); (· exact rfl); intro w' hS)
    have e : unpackW ck l = (zeroMsg, (decs 8 l).2.1) := by unfold unpackW; rw [if_pos hc]
    rw [e]
    exact ⟨none, 0, rfl, nils w' hS.toKeep⟩
  rename (decs 8 l).2.1 = 0 => he8
  obtain ⟨v0, v1, v2, v3, v4, v5, v6, v7, hv⟩ : ∃ v0 v1 v2 v3 v4 v5 v6 v7, (decs 8 l).1 = [v0, v1, v2, v3, v4, v5, v6, v7] := by
    have := hl8.2 he8
    match hx : (decs 8 l).1, this with
    | [a, b, c, d, e, f, g, h], _ => exact ⟨a, b, c, d, e, f, g, h, rfl⟩
  rw [hv] at hbd8 ⊢
  refine LR.sub (D := St w NoF [.own bm (.cells [.int .i64 v0, .int .i64 v1, .int .i64 v2, .int .i64 v3, .int .i64 v4, .int .i64 v5, .int .i64 v6, .bool false, .int .i64 0, .int .i64 0, .int .i64 0, .int .i64 0, .slice none 0 0].toArray 28 (0, 0)), .own bs (.cells [.int .i64 v7].toArray 3 (0, 0)), _, _, _, _]) (fun w hw => ((front hw 1 rfl rfl).part (Asrt.dep_own _ _) (Asrt.dep_own _ _)).cast rfl) ?_
  have ck1 : ∀ {α : Type} {x y z : α}, (if (decs 8 l).2.1 ≠ 0 then x else y) = y := fun {α x y z} => if_neg (by simpa using he8)
  repeat' (
    first
    | (
      first
      | (apply kp; iterate 2 exact rfl)
      | apply ja | apply jb | apply jg | apply jj | (apply je; exact rfl) | (apply jf; exact rfl) | apply jd | apply jh | apply ji | (apply jc; kernel_rfl) | apply jk | apply jl | apply jm | apply jn | apply jo | (apply jp; exact rfl) | apply jq | apply jr | apply js | apply jt | apply ju | apply jv | apply jw | apply kN | apply kM
      | (apply kf; iterate 2 exact rfl)
      | (apply ko; (· exact rfl); (· repeat (first | exact mH _ _ | apply mT)); iterate 2 exact rfl)
      | (apply ka; (· exact rfl); (· repeat (first | exact mH _ _ | apply mT)); iterate 2 exact rfl)
      | (apply kr; (· exact rfl); (· repeat (first | exact mH _ _ | apply mT)); iterate 3 exact rfl)
      | (apply ks; (· exact rfl); (· repeat (first | exact mH _ _ | apply mT)); iterate 2 exact rfl)
      | (apply kn; iterate 2 exact rfl)
      | (apply ke; iterate 2 exact rfl)
      | (apply kx; iterate 2 exact rfl)
      | (apply kc; iterate 2 exact rfl)
      | (apply kb; iterate 2 exact rfl)
      | (apply kg; iterate 2 exact rfl)
      | (apply kG; iterate 3 exact rfl)
      | (apply kB; (iterate 2 exact rfl); intro _)
      | (apply kA; exact rfl; intro _)
      | (apply kL; (iterate 3 exact rfl); (· repeat (first | exact BS.nil _ | (apply BS.int; exact rfl) | (apply BS.ptr; exact rfl) | (apply BS.slice; exact rfl) | (apply BS.agg; iterate 2 exact rfl))); intro _)
      | (apply kT; (iterate 2 exact rfl); (· repeat (first | exact sH _ _ _ | apply sT)); iterate 2 exact rfl)
      | (apply kS; (iterate 2 exact rfl); (· repeat (first | exact sH _ _ _ | apply sT)); exact rfl)
      | (apply kh; (iterate 2 exact rfl); (first | decide | omega); exact rfl)
      | (apply kl; (iterate 2 exact rfl); (first | decide | omega); exact rfl)
      )
    | ((first | (apply kR; (· exact rfl); (· exact rfl)) | (apply kQ; (· exact rfl))); all_goals (intro hc; try simp only [decide_eq_true_eq, decide_eq_false_iff_not, Bool.not_eq_true', Bool.not_eq_false', Bool.not_eq_true, Bool.not_eq_false, Bool.not_true, Bool.not_false, Int.not_lt, Int.not_le, List.cons.injEq, and_true, beq_iff_eq, beq_eq_false_iff_ne] at hc; try (exfalso; first | contradiction | omega)))
    )
  · (apply ret2c; (· exact rfl); (· exact inferInstance); (· exact rfl); (· (repeat (first | exact List.Mem.head _ | apply List.Mem.tail))); (· exact rfl); intro w' hS)
    have e : unpackW ck l = (zeroMsg, 4) := by unfold unpackW; rw [if_neg (by simpa using he8), hv, if_pos (show 1 < [v0, v1, v2, v3, v4, v5, v6, v7].getD 7 0 from hc)]
    rw [e]
    exact ⟨none, 0, rfl, nils w' hS.toKeep⟩
  apply LR.call
  · exact rfl
  intro w1 h1
  rename_i bq
  have h3 : St w NoF [rrA 120 [.bool true] br a2 c2 (decs 8 l).2.2, T2 bm [.int .i64 v0, .int .i64 v1, .int .i64 v2, .int .i64 v3, .int .i64 v4, .int .i64 v5, .int .i64 v6, .bool (decide (v7 = 1))] [], _, _, _, _, _] w1 := front (front h1 1 rfl rfl) 3 rfl rfl
  have h4 := h3.join rfl rfl
  clear h1 h3
  refine (c66m (m := 4) (ads := [⟨bm, 0 + 8 + 0, none⟩, ⟨bm, 0 + 8 + 1 + 0, none⟩, ⟨bm, 0 + 8 + 1 + 1, none⟩, ⟨bm, 0 + 8 + 3, none⟩]) (T := T2 bm [.int .i64 v0, .int .i64 v1, .int .i64 v2, .int .i64 v3, .int .i64 v4, .int .i64 v5, .int .i64 v6, .bool (decide (v7 = 1))]) h4 rfl ?_ (fun _ => rfl) (fun _ => Asrt.dep_own _ _) (decs_rest_byt 8 hb) (by have := decs_rest_len 8 l; omega) (by omega)).mono ?_
  · intro vs x hi
    have e : ∀ k (hk : k < 4), ([⟨bm, 0 + 8 + 0, none⟩, ⟨bm, 0 + 8 + 1 + 0, none⟩, ⟨bm, 0 + 8 + 1 + 1, none⟩, ⟨bm, 0 + 8 + 3, none⟩] : List Addr)[k] = ⟨bm, 8 + k, none⟩ := by
      intro k hk
      match k, hk with
      | 0, _ => rfl
      | 1, _ => rfl
      | 2, _ => rfl
      | 3, _ => rfl
    rw [e _ hi]
    exact T2_stores bm _ rfl vs x hi
  rintro v w2 ⟨a3, c3, rfl, st⟩
  refine LR.back st ?_
  clear st h4
  repeat' (
    first
    | (
      first
      | (apply kp; iterate 2 exact rfl)
      | apply ja | apply jb | apply jg | apply jj | (apply je; exact rfl) | (apply jf; exact rfl) | apply jd | apply jh | apply ji | (apply jc; kernel_rfl) | apply jk | apply jl | apply jm | apply jn | apply jo | (apply jp; exact rfl) | apply jq | apply jr | apply js | apply jt | apply ju | apply jv | apply jw | apply kN | apply kM
      | (apply kf; iterate 2 exact rfl)
      | (apply ko; (· exact rfl); (· repeat (first | exact mH _ _ | apply mT)); iterate 2 exact rfl)
      | (apply ka; (· exact rfl); (· repeat (first | exact mH _ _ | apply mT)); iterate 2 exact rfl)
      | (apply kr; (· exact rfl); (· repeat (first | exact mH _ _ | apply mT)); iterate 3 exact rfl)
      | (apply ks; (· exact rfl); (· repeat (first | exact mH _ _ | apply mT)); iterate 2 exact rfl)
      | (apply kn; iterate 2 exact rfl)
      | (apply ke; iterate 2 exact rfl)
      | (apply kx; iterate 2 exact rfl)
      | (apply kc; iterate 2 exact rfl)
      | (apply kb; iterate 2 exact rfl)
      | (apply kg; iterate 2 exact rfl)
      | (apply kG; iterate 3 exact rfl)
      | (apply kB; (iterate 2 exact rfl); intro _)
      | (apply kA; exact rfl; intro _)
      | (apply kL; (iterate 3 exact rfl); (· repeat (first | exact BS.nil _ | (apply BS.int; exact rfl) | (apply BS.ptr; exact rfl) | (apply BS.slice; exact rfl) | (apply BS.agg; iterate 2 exact rfl))); intro _)
      | (apply kT; (iterate 2 exact rfl); (· repeat (first | exact sH _ _ _ | apply sT)); iterate 2 exact rfl)
      | (apply kS; (iterate 2 exact rfl); (· repeat (first | exact sH _ _ _ | apply sT)); exact rfl)
      | (apply kh; (iterate 2 exact rfl); (first | decide | omega); exact rfl)
      | (apply kl; (iterate 2 exact rfl); (first | decide | omega); exact rfl)
      )
    | ((first | (apply kR; (· exact rfl); (· exact rfl)) | (apply kQ; (· exact rfl))); all_goals (intro hc; try simp only [decide_eq_true_eq, decide_eq_false_iff_not, Bool.not_eq_true', Bool.not_eq_false', Bool.not_eq_true, Bool.not_eq_false, Bool.not_true, Bool.not_false, Int.not_lt, Int.not_le, List.cons.injEq, and_true, beq_iff_eq, beq_eq_false_iff_ne] at hc; try (exfalso; first | contradiction | omega)))
    )
  · rename (decs 4 (decs 8 l).2.2).2.1 = 0 => he4
    obtain ⟨x0, x1, x2, x3, hx⟩ := four ((decs_len 4 (decs 8 l).2.2).2 he4)
    have hrb : Byt (decs 4 (decs 8 l).2.2).2.2 := decs_rest_byt 4 (decs_rest_byt 8 hb)
    have hrl : (decs 4 (decs 8 l).2.2).2.2.length ≤ l.length := Nat.le_trans (decs_rest_len 4 _) (decs_rest_len 8 l)
    have eu : unpackW ck l = if (octs 160 (decs 4 (decs 8 l).2.2).2.2).2.1 ≠ 0 then (zeroMsg, (octs 160 (decs 4 (decs 8 l).2.2).2.2).2.1)
        else if 0 < (octs 160 (decs 4 (decs 8 l).2.2).2.2).2.2.length ∨ ck (msgOf [v0, v1, v2, v3, v4, v5, v6, v7] [x0, x1, x2, x3] (octs 160 (decs 4 (decs 8 l).2.2).2.2).1) ≠ 0 then (zeroMsg, 4)
        else (msgOf [v0, v1, v2, v3, v4, v5, v6, v7] [x0, x1, x2, x3] (octs 160 (decs 4 (decs 8 l).2.2).2.2).1, 0) := by
      rename v7 ≤ 1 => h7
      unfold unpackW
      rw [if_neg (by simpa using he8), hv, if_neg (show ¬ 1 < [v0, v1, v2, v3, v4, v5, v6, v7].getD 7 0 from Int.not_lt.2 h7), if_neg (by simpa using he4), hx]
    rw [eu, hx]
    clear eu hx hl8
    generalize (decs 4 (decs 8 l).2.2).2.2 = lr at *
    refine LR.sub (D := St w NoF [.own bm (.cells [.int .i64 v0, .int .i64 v1, .int .i64 v2, .int .i64 v3, .int .i64 v4, .int .i64 v5, .int .i64 v6, .bool (decide (v7 = 1)), .int .i64 x0, .int .i64 x1, .int .i64 x2, .int .i64 x3, .slice none 0 0].toArray 28 (0, 0)), rrA 120 [.bool true] br a3 c3 lr, _, _, _, _, _]) (fun w hw => (front hw 1 rfl rfl).cast rfl) ?_
    repeat' (
      first
      | (
        first
        | (apply kp; iterate 2 exact rfl)
        | apply ja | apply jb | apply jg | apply jj | (apply je; exact rfl) | (apply jf; exact rfl) | apply jd | apply jh | apply ji | (apply jc; kernel_rfl) | apply jk | apply jl | apply jm | apply jn | apply jo | (apply jp; exact rfl) | apply jq | apply jr | apply js | apply jt | apply ju | apply jv | apply jw | apply kN | apply kM
        | (apply kf; iterate 2 exact rfl)
        | (apply ko; (· exact rfl); (· repeat (first | exact mH _ _ | apply mT)); iterate 2 exact rfl)
        | (apply ka; (· exact rfl); (· repeat (first | exact mH _ _ | apply mT)); iterate 2 exact rfl)
        | (apply kr; (· exact rfl); (· repeat (first | exact mH _ _ | apply mT)); iterate 3 exact rfl)
        | (apply ks; (· exact rfl); (· repeat (first | exact mH _ _ | apply mT)); iterate 2 exact rfl)
        | (apply kn; iterate 2 exact rfl)
        | (apply ke; iterate 2 exact rfl)
        | (apply kx; iterate 2 exact rfl)
        | (apply kc; iterate 2 exact rfl)
        | (apply kb; iterate 2 exact rfl)
        | (apply kg; iterate 2 exact rfl)
        | (apply kG; iterate 3 exact rfl)
        | (apply kB; (iterate 2 exact rfl); intro _)
        | (apply kA; exact rfl; intro _)
        | (apply kL; (iterate 3 exact rfl); (· repeat (first | exact BS.nil _ | (apply BS.int; exact rfl) | (apply BS.ptr; exact rfl) | (apply BS.slice; exact rfl) | (apply BS.agg; iterate 2 exact rfl))); intro _)
        | (apply kT; (iterate 2 exact rfl); (· repeat (first | exact sH _ _ _ | apply sT)); iterate 2 exact rfl)
        | (apply kS; (iterate 2 exact rfl); (· repeat (first | exact sH _ _ _ | apply sT)); exact rfl)
        | (apply kh; (iterate 2 exact rfl); (first | decide | omega); exact rfl)
        | (apply kl; (iterate 2 exact rfl); (first | decide | omega); exact rfl)
        )
      | (apply LR.call; (· exact rfl); (intro w1 h1; refine (c67 br a3 c3 lr 160 w1 (h1.holds _ (List.Mem.tail _ (List.Mem.head _))) hrb (by omega)).mono ?_; rintro v w2 ⟨a4, c4, a5, c5, rfl, st⟩; refine LR.back (h1.did1 (Sel.tail _ (Sel.head _ _ _)) rfl rfl rfl st) ?_; clear st h1))
      | (apply LR.qcall; (· exact rfl); (· intro w1 h1; exact CallsTo.q (c68 br _ _ _ w1 (h1.holds _ (List.Mem.tail _ (List.Mem.tail _ (List.Mem.head _))))) h1))
      | (apply LR.qcall; (· exact rfl); (· intro w1 h1; have ho : (octs 160 lr).2.1 = 0 := by assumption; have hof := octs_facts ho; have hq := CallsTo.q (hck (msgOf [v0, v1, v2, v3, v4, v5, v6, v7] [x0, x1, x2, x3] (octs 160 lr).1) a5 c5 w1 (h1.rd_of_own (List.Mem.head _)) (fun e => (ownsRow_some (h1.holds _ (List.Mem.head _)) e).2) (fun b hb' => hrb b (hof.2 b hb')) (Nat.lt_of_lt_of_le hof.1 hrl)) h1; show CallsTo Try.prog 17 [(msgOf [v0, v1, v2, v3, v4, v5, v6, v7] [x0, x1, x2, x3] (octs 160 lr).1).val a5 c5] w1 _; exact hq))
      | ((first | (apply kR; (· exact rfl); (· exact rfl)) | (apply kQ; (· exact rfl))); all_goals (intro hc; try simp only [decide_eq_true_eq, decide_eq_false_iff_not, Bool.not_eq_true', Bool.not_eq_false', Bool.not_eq_true, Bool.not_eq_false, Bool.not_true, Bool.not_false, Int.not_lt, Int.not_le, List.cons.injEq, and_true, beq_iff_eq, beq_eq_false_iff_ne] at hc; try (exfalso; first | contradiction | omega)))
      )
    · (apply ret2c; (· exact rfl); (· exact inferInstance); (· exact rfl); (· (repeat (first | exact List.Mem.head _ | apply List.Mem.tail))); (· exact rfl); intro w' hS)
      rw [if_pos (by assumption)]
      exact ⟨none, 0, rfl, nils w' hS.toKeep⟩
    · (apply ret2c; (· exact rfl); (· exact inferInstance); (· exact rfl); (· (repeat (first | exact List.Mem.head _ | apply List.Mem.tail))); (· exact rfl); intro w' hS)
      rw [if_neg (by simpa using (by assumption : (octs 160 lr).2.1 = 0)), if_pos (.inl (by omega))]
      exact ⟨none, 0, rfl, nils w' hS.toKeep⟩
    have ho : (octs 160 lr).2.1 = 0 := by assumption
    have hof := octs_facts ho
    apply LR.qcall
    · exact rfl
    · intro w1 h1
      have hq := CallsTo.q (hck (msgOf [v0, v1, v2, v3, v4, v5, v6, v7] [x0, x1, x2, x3] (octs 160 lr).1) a5 c5 w1 (h1.rd_of_own (List.Mem.head _)) (fun e => (ownsRow_some (h1.holds _ (List.Mem.head _)) e).2) (fun b hb' => hrb b (hof.2 b hb')) (Nat.lt_of_lt_of_le hof.1 hrl)) h1
      show CallsTo Try.prog 17 [(msgOf [v0, v1, v2, v3, v4, v5, v6, v7] [x0, x1, x2, x3] (octs 160 lr).1).val a5 c5] w1 _
      exact hq
    repeat' (
      first
      | (
        first
        | (apply kp; iterate 2 exact rfl)
        | apply ja | apply jb | apply jg | apply jj | (apply je; exact rfl) | (apply jf; exact rfl) | apply jd | apply jh | apply ji | (apply jc; kernel_rfl) | apply jk | apply jl | apply jm | apply jn | apply jo | (apply jp; exact rfl) | apply jq | apply jr | apply js | apply jt | apply ju | apply jv | apply jw | apply kN | apply kM
        | (apply kf; iterate 2 exact rfl)
        | (apply ko; (· exact rfl); (· repeat (first | exact mH _ _ | apply mT)); iterate 2 exact rfl)
        | (apply ka; (· exact rfl); (· repeat (first | exact mH _ _ | apply mT)); iterate 2 exact rfl)
        | (apply kr; (· exact rfl); (· repeat (first | exact mH _ _ | apply mT)); iterate 3 exact rfl)
        | (apply ks; (· exact rfl); (· repeat (first | exact mH _ _ | apply mT)); iterate 2 exact rfl)
        | (apply kn; iterate 2 exact rfl)
        | (apply ke; iterate 2 exact rfl)
        | (apply kx; iterate 2 exact rfl)
        | (apply kc; iterate 2 exact rfl)
        | (apply kb; iterate 2 exact rfl)
        | (apply kg; iterate 2 exact rfl)
        | (apply kG; iterate 3 exact rfl)
        | (apply kB; (iterate 2 exact rfl); intro _)
        | (apply kA; exact rfl; intro _)
        | (apply kL; (iterate 3 exact rfl); (· repeat (first | exact BS.nil _ | (apply BS.int; exact rfl) | (apply BS.ptr; exact rfl) | (apply BS.slice; exact rfl) | (apply BS.agg; iterate 2 exact rfl))); intro _)
        | (apply kT; (iterate 2 exact rfl); (· repeat (first | exact sH _ _ _ | apply sT)); iterate 2 exact rfl)
        | (apply kS; (iterate 2 exact rfl); (· repeat (first | exact sH _ _ _ | apply sT)); exact rfl)
        | (apply kh; (iterate 2 exact rfl); (first | decide | omega); exact rfl)
        | (apply kl; (iterate 2 exact rfl); (first | decide | omega); exact rfl)
        )
      | ((first | (apply kR; (· exact rfl); (· exact rfl)) | (apply kQ; (· exact rfl))); all_goals (intro hc; try simp only [decide_eq_true_eq, decide_eq_false_iff_not, Bool.not_eq_true', Bool.not_eq_false', Bool.not_eq_true, Bool.not_eq_false, Bool.not_true, Bool.not_false, Int.not_lt, Int.not_le, List.cons.injEq, and_true, beq_iff_eq, beq_eq_false_iff_ne] at hc; try (exfalso; first | contradiction | omega)))
      )
    · (apply ret2c; (· exact rfl); (· exact inferInstance); (· exact rfl); (· (repeat (first | exact List.Mem.head _ | apply List.Mem.tail))); (· exact rfl); intro w' hS)
      rw [if_neg (by simpa using ho), if_pos (.inr (by assumption))]
      exact ⟨none, 0, rfl, nils w' hS.toKeep⟩
    · rename ck _ = 0 => hck0
      (apply ret2c; (· exact rfl); (· exact inferInstance); (· exact rfl); (· (repeat (first | exact List.Mem.head _ | apply List.Mem.tail))); (· exact rfl); intro w' hS)
      rw [if_neg (by simpa using ho), if_neg (by simp only [not_or, Nat.not_lt]; exact ⟨by omega, by simpa using hck0⟩)]
      exact ⟨a5, c5, rfl, hS.toNew (List.Mem.head _)⟩
  · (apply ret2c; (· exact rfl); (· exact inferInstance); (· exact rfl); (· (repeat (first | exact List.Mem.head _ | apply List.Mem.tail))); (· exact rfl); intro w' hS)
    rename v7 ≤ 1 => h7
    have e : unpackW ck l = (zeroMsg, (decs 4 (decs 8 l).2.2).2.1) := by unfold unpackW; rw [if_neg (by simpa using he8), hv, if_neg (show ¬ 1 < [v0, v1, v2, v3, v4, v5, v6, v7].getD 7 0 from Int.not_lt.2 h7), if_pos (by assumption)]
    rw [e]
    exact ⟨none, 0, rfl, nils w' hS.toKeep⟩
end Go.Proofs.Ytomlgnncncjmaaa
