/-
  Pack of the program; small functions on messages and places.
-/
import Derived.Test.YtomlgnncncjmaaaA18
-- all by hand
namespace Go.Proofs.Ytomlgnncncjmaaa
open Go.Hb
attribute [local irreducible] LR CW At Ev thn blk finK noG again CallsTo DW QL dnext
set_option linter.unusedSimpArgs false
set_option linter.unusedVariables false
set_option maxRecDepth 100000

def b2i (b : Bool) : Int := if b then 1 else 0
def msgNums (m : Msg) : List Int := [m.kind, m.origin, m.life, m.id, m.part, m.parts, m.groups, b2i m.safe, m.stamp, m.rseq, m.rrep, m.kseq]
def bytesM (m : Msg) : List Int := encs (msgNums m) ++ enc m.body.length ++ m.body
def pack (m : Msg) : List Int × Int := if check m ≠ 0 then ([], check m) else (bytesM m, 0)

theorem ring_ok {s r : Int} (h : ringB s r = true) : okN s ∧ okN r := by
  unfold ringB at h; rw [numB_iff] at h; unfold okN; simp at h; omega
theorem check_ok {m : Msg} (h : check m = 0) : m.body.length ≤ 160 ∧ mayB unpack m = true := by
  unfold check checkM at h
  split at h
  · cases h
  · split at h
    · exact ⟨by omega, by assumption⟩
    · cases h
theorem key_ok {t s r q : Int} (h : keyE t s r q = 0) : okN t ∧ okN s ∧ okN r ∧ okN q := by
  unfold keyE at h
  split at h
  · rename_i hk
    unfold keyB at hk; rw [numB_iff, numB_iff] at hk
    simp only [Bool.and_eq_true, decide_eq_true_eq] at hk
    have := ring_ok hk.2
    exact ⟨hk.1.1, this.1, this.2, hk.1.2⟩
  · cases h
theorem kind_parts {u : List Int → Msg × Int} {m : Msg} (h : kindB u m = true) : okN m.part ∧ okN m.parts := by
  have pl : plainB m = true → okN m.part ∧ okN m.parts := fun h => by unfold plainB at h; unfold okN; simp at h; omega
  unfold kindB at h
  repeat' split at h
  · unfold textB at h; unfold okN; simp at h; omega
  · unfold emptyB at h; simp only [Bool.and_eq_true] at h; exact pl h.1
  · unfold wantB emptyB at h; simp only [Bool.and_eq_true] at h; exact pl h.1.1
  · unfold chartB at h; simp only [Bool.and_eq_true] at h; exact pl h.1.1
  · unfold oldB at h; simp only [Bool.and_eq_true] at h; exact pl h.1
  · cases h
theorem msgNums_ok {m : Msg} (h : check m = 0) : ∀ x ∈ msgNums m, okN x := by
  obtain ⟨h1, h2⟩ := check_ok h
  unfold mayB at h2
  simp only [withinB_iff, Bool.and_eq_true, decide_eq_true_eq] at h2
  obtain ⟨⟨⟨⟨⟨⟨h3, h4⟩, h5⟩, h6⟩, h7⟩, h8⟩, h9⟩ := h2
  have hk := key_ok h8
  have hp := kind_parts h9
  have hs : okN (b2i m.safe) := by unfold okN b2i; split <;> omega
  intro x hx
  simp only [msgNums, List.mem_cons, List.not_mem_nil, or_false] at hx
  rcases hx with rfl | rfl | rfl | rfl | rfl | rfl | rfl | rfl | rfl | rfl | rfl | rfl
  · unfold okN; omega
  · unfold okN; omega
  · exact h5
  · exact h6
  · exact hp.1
  · exact hp.2
  · unfold okN; omega
  · exact hs
  · exact hk.1
  · exact hk.2.1
  · exact hk.2.2.1
  · exact hk.2.2.2
theorem bytesM_len (m : Msg) : (bytesM m).length ≤ 117 + m.body.length := by
  have h1 := encs_len (msgNums m)
  have h2 : (enc m.body.length).length ≤ 9 := encF_len 8 _
  have h3 : (msgNums m).length = 12 := rfl
  simp only [bytesM, List.length_append]; omega

set_option maxHeartbeats 2000000 in
theorem c15 (m : Msg) (a : Option Addr) (c : Nat) (w : World) (hr : Rd w a (bv m.body)) (hz : a = none → c = 0) (hm : m.body.length ≤ 140737488355328) (hb : Byt m.body) :
    CallsTo Try.prog 15 [m.val a c] w fun v w' => ∃ a2 c2, v = .tuple [.slice a2 (pack m).1.length c2, .int .i64 (pack m).2].toArray ∧ NewSl w w' (.slice a2 (pack m).1.length c2) 5 1 (pack m).1.length (bv (pack m).1) := by
  refine go_in (n := 61) (St.rd1 hr) Try.func15 rfl rfl ?_
  have nils : ∀ w', Grew w w' → NewSl w w' (.slice none 0 0) 5 1 0 (bv []) := fun w' hg => ⟨hg, World.ownsRow_nil _ _ _ _⟩
  repeat' (
    first
    | (
      first
      | (apply kp; iterate 2 exact rfl)
      | apply ja | apply jb | apply jg | apply jj | (apply je; exact rfl) | (apply jf; exact rfl) | apply jd | apply jh | apply ji | (apply jc; kernel_rfl) | apply jk | apply jl | apply jm | apply jn | apply jo | (apply jp; exact rfl) | apply jq | apply jr | apply js | apply jt | apply ju | apply jv | apply jw | apply kN | apply kM
      | (apply kf; iterate 2 exact rfl)
      | (apply ko; (· exact rfl); (· repeat (first | exact mH _ _ | apply mT)); iterate 2 exact rfl)
      | (apply ka; (· exact rfl); (· repeat (first | exact mH _ _ | apply mT)); iterate 2 exact rfl)
      | (apply kr; (· exact rfl); (· repeat (first | exact mH _ _ | apply mT)); iterate 3 exact rfl)
      | (apply ks; (· exact rfl); (· repeat (first | exact mH _ _ | apply mT)); iterate 2 exact rfl)
      | (apply kn; iterate 2 exact rfl)
      | (apply ke; iterate 2 exact rfl)
      | (apply kx; iterate 2 exact rfl)
      | (apply kc; iterate 2 exact rfl)
      | (apply kb; iterate 2 exact rfl)
      | (apply kg; iterate 2 exact rfl)
      | (apply kG; iterate 3 exact rfl)
      | (apply kB; (iterate 2 exact rfl); intro _)
      | (apply kA; exact rfl; intro _)
      | (apply kL; (iterate 3 exact rfl); (· repeat (first | exact BS.nil _ | (apply BS.int; exact rfl) | (apply BS.ptr; exact rfl) | (apply BS.slice; exact rfl) | (apply BS.agg; iterate 2 exact rfl))); intro _)
      | (apply kT; (iterate 2 exact rfl); (· repeat (first | exact sH _ _ _ | apply sT)); iterate 2 exact rfl)
      | (apply kS; (iterate 2 exact rfl); (· repeat (first | exact sH _ _ _ | apply sT)); exact rfl)
      | (apply kh; (iterate 2 exact rfl); (first | decide | omega); exact rfl)
      | (apply kl; (iterate 2 exact rfl); (first | decide | omega); exact rfl)
      )
    | (apply LR.qcall; (· exact rfl); (· intro w1 h1; have hq := CallsTo.q (d17 m a c w1 (h1.rd_of (List.Mem.tail _ (List.Mem.head _))) hz hm hb) h1; show CallsTo Try.prog 17 [m.val a c] w1 _; exact hq))
    | ((first | (apply kR; (· exact rfl); (· exact rfl)) | (apply kQ; (· exact rfl))); all_goals (intro hc; try simp only [decide_eq_true_eq, decide_eq_false_iff_not, Bool.not_eq_true', Bool.not_eq_false', Bool.not_eq_true, Bool.not_eq_false, Bool.not_true, Bool.not_false, Int.not_lt, Int.not_le, List.cons.injEq, and_true, beq_iff_eq, beq_eq_false_iff_ne] at hc; try (exfalso; first | contradiction | omega)))
    )
  · (apply ret2; (· exact rfl); intro w' hS)
    have e : pack m = ([], check m) := by unfold pack; rw [if_pos hc]
    rw [e]
    exact ⟨none, 0, rfl, nils w' hS.toKeep⟩
  all_goals (
    rename check m = 0 => hck
    rename m.safe = _ => hsafe
    have hok := msgNums_ok hck
    have h160 := (check_ok hck).1
    have e : pack m = (bytesM m, 0) := by unfold pack; rw [if_neg (by simpa using hck)]
    have hl12 : ((encs (msgNums m)).length ≤ 108) := by have := encs_len (msgNums m); have h3 : (msgNums m).length = 12 := rfl; omega
    have hlb := bytesM_len m
    have en : msgNums m = [m.kind, m.origin, m.life, m.id, m.part, m.parts, m.groups, b2i m.safe, m.stamp, m.rseq, m.rrep, m.kseq] := rfl
    rw [hsafe] at en
    apply LR.call
    · exact rfl
    intro w1 h1
    refine (c53 w1).mono ?_
    rintro v w2 ⟨bw, rfl, hn⟩
    refine LR.back (h1.got hn (wrA_dep _ _ _ _)) ?_
    clear hn h1
    rw [e]
    repeat' (
      first
      | (
        first
        | (apply kp; iterate 2 exact rfl)
        | apply ja | apply jb | apply jg | apply jj | (apply je; exact rfl) | (apply jf; exact rfl) | apply jd | apply jh | apply ji | (apply jc; kernel_rfl) | apply jk | apply jl | apply jm | apply jn | apply jo | (apply jp; exact rfl) | apply jq | apply jr | apply js | apply jt | apply ju | apply jv | apply jw | apply kN | apply kM
        | (apply kf; iterate 2 exact rfl)
        | (apply ko; (· exact rfl); (· repeat (first | exact mH _ _ | apply mT)); iterate 2 exact rfl)
        | (apply ka; (· exact rfl); (· repeat (first | exact mH _ _ | apply mT)); iterate 2 exact rfl)
        | (apply kr; (· exact rfl); (· repeat (first | exact mH _ _ | apply mT)); iterate 3 exact rfl)
        | (apply ks; (· exact rfl); (· repeat (first | exact mH _ _ | apply mT)); iterate 2 exact rfl)
        | (apply kn; iterate 2 exact rfl)
        | (apply ke; iterate 2 exact rfl)
        | (apply kx; iterate 2 exact rfl)
        | (apply kc; iterate 2 exact rfl)
        | (apply kb; iterate 2 exact rfl)
        | (apply kg; iterate 2 exact rfl)
        | (apply kG; iterate 3 exact rfl)
        | (apply kB; (iterate 2 exact rfl); intro _)
        | (apply kA; exact rfl; intro _)
        | (apply kL; (iterate 3 exact rfl); (· repeat (first | exact BS.nil _ | (apply BS.int; exact rfl) | (apply BS.ptr; exact rfl) | (apply BS.slice; exact rfl) | (apply BS.agg; iterate 2 exact rfl))); intro _)
        | (apply kT; (iterate 2 exact rfl); (· repeat (first | exact sH _ _ _ | apply sT)); iterate 2 exact rfl)
        | (apply kS; (iterate 2 exact rfl); (· repeat (first | exact sH _ _ _ | apply sT)); exact rfl)
        | (apply kh; (iterate 2 exact rfl); (first | decide | omega); exact rfl)
        | (apply kl; (iterate 2 exact rfl); (first | decide | omega); exact rfl)
        )
      | (apply LR.call; (· exact rfl); (intro w1 h1; refine (c54 bw none _ 0 _ [] (msgNums m) w1 (h1.holds _ (List.Mem.tail _ (List.Mem.head _))) (by rw [en]; exact h1.rd_of_blk (List.Mem.head _)) (fun k hk hk2 => h1.apart (List.Mem.head _) rfl k (by obtain ⟨_, ad, e, rfl⟩ := hk; cases e; rfl) hk2) (by simp) (by simp [msgNums]) hok).mono ?_; rintro v w2 ⟨a2, c2, rfl, st⟩; refine LR.back (h1.did (Sel.tail _ (Sel.head _ _ _)) rfl st (wrA_dep _ _ _ _)) ?_; clear st h1))
      | (apply LR.call; (· exact rfl); (intro w1 h1; refine (c55 bw a2 _ c2 _ _ m.body w1 (h1.holds _ (List.Mem.tail _ (List.Mem.head _))) (h1.rd_of (List.Mem.tail _ (List.Mem.tail _ (List.Mem.tail _ (List.Mem.head _))))) hz (fun k hk hk2 => (front h1 3 rfl rfl).apart (x := rdA a (bv m.body)) (List.Mem.tail _ (List.Mem.head _)) rfl k hk hk2) (by simp; omega) (by omega)).mono ?_; rintro v w2 ⟨a3, c3, rfl, st⟩; refine LR.back (h1.did (Sel.tail _ (Sel.head _ _ _)) rfl st (wrA_dep _ _ _ _)) ?_; clear st h1))
      | ((first | (apply kR; (· exact rfl); (· exact rfl)) | (apply kQ; (· exact rfl))); all_goals (intro hc; try simp only [decide_eq_true_eq, decide_eq_false_iff_not, Bool.not_eq_true', Bool.not_eq_false', Bool.not_eq_true, Bool.not_eq_false, Bool.not_true, Bool.not_false, Int.not_lt, Int.not_le, List.cons.injEq, and_true, beq_iff_eq, beq_eq_false_iff_ne] at hc; try (exfalso; first | contradiction | omega)))
      )
    apply LR.call
    · exact rfl
    intro w1 h1
    refine (c56 bw a3 c3 _ w1 (h1.holds _ (List.Mem.tail _ (List.Mem.head _))) (by simp; simp [bytesM] at hlb; omega)).mono ?_
    rintro v w2 ⟨a4, c4, rfl, hn⟩
    refine LR.back (h1.newSl hn) ?_
    repeat' (
      first
      | (
        first
        | (apply kp; iterate 2 exact rfl)
        | apply ja | apply jb | apply jg | apply jj | (apply je; exact rfl) | (apply jf; exact rfl) | apply jd | apply jh | apply ji | (apply jc; kernel_rfl) | apply jk | apply jl | apply jm | apply jn | apply jo | (apply jp; exact rfl) | apply jq | apply jr | apply js | apply jt | apply ju | apply jv | apply jw | apply kN | apply kM
        | (apply kf; iterate 2 exact rfl)
        | (apply ko; (· exact rfl); (· repeat (first | exact mH _ _ | apply mT)); iterate 2 exact rfl)
        | (apply ka; (· exact rfl); (· repeat (first | exact mH _ _ | apply mT)); iterate 2 exact rfl)
        | (apply kr; (· exact rfl); (· repeat (first | exact mH _ _ | apply mT)); iterate 3 exact rfl)
        | (apply ks; (· exact rfl); (· repeat (first | exact mH _ _ | apply mT)); iterate 2 exact rfl)
        | (apply kn; iterate 2 exact rfl)
        | (apply ke; iterate 2 exact rfl)
        | (apply kx; iterate 2 exact rfl)
        | (apply kc; iterate 2 exact rfl)
        | (apply kb; iterate 2 exact rfl)
        | (apply kg; iterate 2 exact rfl)
        | (apply kG; iterate 3 exact rfl)
        | (apply kB; (iterate 2 exact rfl); intro _)
        | (apply kA; exact rfl; intro _)
        | (apply kL; (iterate 3 exact rfl); (· repeat (first | exact BS.nil _ | (apply BS.int; exact rfl) | (apply BS.ptr; exact rfl) | (apply BS.slice; exact rfl) | (apply BS.agg; iterate 2 exact rfl))); intro _)
        | (apply kT; (iterate 2 exact rfl); (· repeat (first | exact sH _ _ _ | apply sT)); iterate 2 exact rfl)
        | (apply kS; (iterate 2 exact rfl); (· repeat (first | exact sH _ _ _ | apply sT)); exact rfl)
        | (apply kh; (iterate 2 exact rfl); (first | decide | omega); exact rfl)
        | (apply kl; (iterate 2 exact rfl); (first | decide | omega); exact rfl)
        )
      | ((first | (apply kR; (· exact rfl); (· exact rfl)) | (apply kQ; (· exact rfl))); all_goals (intro hc; try simp only [decide_eq_true_eq, decide_eq_false_iff_not, Bool.not_eq_true', Bool.not_eq_false', Bool.not_eq_true, Bool.not_eq_false, Bool.not_true, Bool.not_false, Int.not_lt, Int.not_le, List.cons.injEq, and_true, beq_iff_eq, beq_eq_false_iff_ne] at hc; try (exfalso; first | contradiction | omega)))
      )
    (apply ret2; (· exact rfl); intro w' hS)
    exact ⟨a4, c4, rfl, hS.toNew (List.Mem.head _)⟩)
end Go.Proofs.Ytomlgnncncjmaaa
