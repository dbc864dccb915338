/-
  What is sent again: windows of data that may be sent; the chapter's window.
-/
import Derived.Test.YtgblmkpfkcibiaaGreatRRNM2
import Derived.DeepKeys5
import Derived.WideKeyRuns
import Derived.Deep.AppendSrc
import Derived.Lib.SliceRun
import Derived.Shelf.Sort.Plain
import Derived.Ground.Names2Prog
import Derived.Shelf.Slices.CompactI
import Derived.Shelf.Slices.In.SortNone
import Derived.Test.YtgblmkpfkcibiaaGreatProg
import Derived.Sort.OwnSortedInts
import Derived.Shelf.SlGeneric
import Derived.Shelf.SlIterI.Sorted
import Derived.Shelf.SlIterI.Collect
import Derived.Ground.GgzProg

set_option linter.unusedSimpArgs false
set_option linter.unusedVariables false
namespace Go.Proofs.YtgblmkpfkcibiaaGreat
open Go.Hb Go.ChangeShapes Go.WideShapes
attribute [local irreducible] LR CW At Ev thn blk finK noG again CallsTo DW QL dnext TW
set_option linter.unusedSimpArgs false
set_option linter.unusedVariables false
set_option maxRecDepth 100000

/-- How many bytes a number has. -/
theorem encF_lenle : ∀ (k m y : Nat), y < 128 ^ (k + 1) → (encF m y).length ≤ k + 1
  | k, 0, y, _ => by simp [encF]
  | 0, m + 1, y, h => by rw [encF_small _ _ (by omega)]; simp
  | k + 1, m + 1, y, h => by
    rw [encF]
    split
    · simp
    · have := encF_lenle k m (y / 128) (by rw [Nat.pow_succ] at h; omega)
      simp; omega
theorem enc_len1 {x : Nat} (h : x < 128) : (enc x).length ≤ 1 := encF_lenle 0 8 x (by omega)
theorem enc_len2 {x : Nat} (h : x < 16384) : (enc x).length ≤ 2 := encF_lenle 1 8 x (by omega)
theorem enc_len8 {x : Nat} (h : x ≤ 9007199254740991) : (enc x).length ≤ 8 := by
  have h8 : (128 : Nat) ^ 8 = 72057594037927936 := by decide
  exact encF_lenle 7 8 x (by omega)
theorem plcs_room {ps : List Plc} (h : ∀ p ∈ ps, plcB p = true) : (ps.flatMap fun p => encs (plcNums p)).length ≤ 12 * ps.length := by
  induction ps with
  | nil => simp
  | cons p r ih =>
    have ih := ih fun q hq => h q (List.mem_cons_of_mem _ hq)
    have hp := h p List.mem_cons_self
    unfold plcB at hp
    simp only [decide_eq_true_eq] at hp
    have e1 : (enc p.ring.toNat).length ≤ 1 := enc_len1 (by omega)
    have e2 : (enc p.seq.toNat).length ≤ 8 := enc_len8 (by omega)
    have e3 : (enc p.rep.toNat).length ≤ 1 := enc_len1 (by omega)
    have e4 : (enc p.members.toNat).length ≤ 2 := enc_len2 (by omega)
    simp only [List.flatMap_cons, List.length_append, encs, plcNums, List.flatMap_nil, List.append_nil, List.length_cons] at ih ⊢
    omega
theorem room {m : Msg} (hb : Byt m.body) (h : check m = 0) (hk : m.kind ≠ 5) : (bytesM m).length ≤ 160 := by
  obtain ⟨h1, h2⟩ := check_ok h
  have hok := msgNums_ok h
  unfold mayB at h2
  simp only [withinB_iff, Bool.and_eq_true, decide_eq_true_eq] at h2
  obtain ⟨⟨⟨⟨⟨⟨h3, h4⟩, h5⟩, h6⟩, h7⟩, h8⟩, h9⟩ := h2
  have hkey : ringB m.rseq m.rrep = true := by
    unfold keyE keyB at h8
    split at h8
    · rename_i hh; simp only [Bool.and_eq_true] at hh; exact hh.2
    · cases h8
  have hrep : 0 ≤ m.rrep ∧ m.rrep ≤ 8 := by unfold ringB at hkey; rw [numB_iff] at hkey; simp at hkey; omega
  have hparts : 0 ≤ m.part ∧ m.part ≤ 5 ∧ 0 ≤ m.parts ∧ m.parts ≤ 5 ∧ m.body.length ≤ 49 := by
    have pl : plainB m = true → m.part = 0 ∧ m.parts = 0 := fun h => by unfold plainB at h; simp at h; omega
    unfold kindB at h9
    repeat' split at h9
    · unfold textB at h9; simp at h9; omega
    · unfold emptyB at h9; simp only [Bool.and_eq_true, decide_eq_true_eq] at h9; have := pl h9.1; omega
    · unfold wantB emptyB at h9; simp only [Bool.and_eq_true, decide_eq_true_eq] at h9; have := pl h9.1.1; omega
    · unfold chartB at h9; simp only [Bool.and_eq_true, decide_eq_true_eq] at h9
      have := pl h9.1.1
      have hc := places_canon hb h9.2
      have h0 : (charts (places m.body).1).2 = 0 := by rw [hc]
      obtain ⟨c1, c2, c3⟩ := charts_ok h0
      rw [hc] at c3
      have hl : m.body = plcsBytes (places m.body).1 := congrArg Prod.fst c3
      have hr := plcs_room c2
      have he : (enc (places m.body).1.length).length ≤ 1 := enc_len1 (by omega)
      have : m.body.length = (enc (places m.body).1.length).length + ((places m.body).1.flatMap fun p => encs (plcNums p)).length := by
        conv => lhs; rw [hl]
        simp [plcsBytes]
      omega
    · cases h9
  have n0 := hok m.kind (by simp [msgNums])
  have okl : ∀ x ∈ msgNums m, (enc x.toNat).length ≤ 8 := fun x hx => enc_len8 (by have := hok x hx; unfold okN at this; omega)
  have e0 : (enc m.kind.toNat).length ≤ 1 := enc_len1 (by omega)
  have e1 : (enc m.origin.toNat).length ≤ 1 := enc_len1 (by omega)
  have e2 := okl m.life (by simp [msgNums])
  have e3 := okl m.id (by simp [msgNums])
  have e4 : (enc m.part.toNat).length ≤ 1 := enc_len1 (by omega)
  have e5 : (enc m.parts.toNat).length ≤ 1 := enc_len1 (by omega)
  have e6 : (enc m.groups.toNat).length ≤ 2 := enc_len2 (by omega)
  have e7 : (enc (b2i m.safe).toNat).length ≤ 1 := enc_len1 (by unfold b2i; split <;> simp)
  have e8 := okl m.stamp (by simp [msgNums])
  have e9 := okl m.rseq (by simp [msgNums])
  have e10 : (enc m.rrep.toNat).length ≤ 1 := enc_len1 (by omega)
  have e11 := okl m.kseq (by simp [msgNums])
  have e12 : (enc m.body.length).length ≤ 1 := enc_len1 (by omega)
  simp only [bytesM, encs, msgNums, List.flatMap_cons, List.flatMap_nil, List.append_nil, List.length_append]
  omega
theorem check_oldM {d : Dat} (hm : mayOld d = true) (hb : Byt d.msg.body) (hc : check d.msg = 0) (hk : d.msg.kind ≠ 5) : check (oldM d) = 0 := by
  unfold mayOld at hm
  simp only [decide_eq_true_eq] at hm
  obtain ⟨m1, m2, m3, m4, m5, m6, m7, m8⟩ := hm
  have hr := room hb hc hk
  have hu := unpack_bytes hc
  have hring : ringB d.rseq d.rrep = true := by unfold ringE at m2; split at m2; (· assumption); (· cases m2)
  unfold check checkM
  rw [if_neg (by show ¬ 160 < (bytesM d.msg).length; omega)]
  rw [if_pos ?_]
  unfold mayB
  simp only [withinB_iff, Bool.and_eq_true, decide_eq_true_eq]
  refine ⟨⟨⟨⟨⟨⟨by simp [oldM], by simp [oldM]; omega⟩, by simp [oldM]⟩, by simp [oldM]; omega⟩, by simp [oldM]⟩, ?_⟩, ?_⟩
  · unfold keyE keyB
    rw [if_pos]
    simp only [oldM, numB_iff, hring, Bool.and_true, Bool.and_eq_true, decide_eq_true_eq]
    omega
  · unfold kindB oldB plainB
    simp only [oldM, hu]
    simp [hk]
    refine ⟨by omega, by omega, ?_, by omega⟩
    omega
end Go.Proofs.YtgblmkpfkcibiaaGreat

namespace Go.Proofs.YtgblmkpfkcibiaaGreat
open Go.Hb Go.ChangeShapes Go.WideShapes
attribute [local irreducible] LR CW At Ev thn blk finK noG again CallsTo DW QL dnext TW
set_option linter.unusedSimpArgs false
set_option linter.unusedVariables false
set_option maxRecDepth 100000

def broughtD (d : Dat) : Dat := ⟨1 + bring d.rseq 9007199254740991, 1 + bring d.rrep 8, 1 + bring d.seq 9007199254740991, 1 + bring d.sender 8, bring d.stamp 9007199254740992, d.msg⟩
theorem brought_may (d : Dat) : mayOld (broughtD d) = true := by
  have h1 := bring_bd d.rseq 9007199254740991 (by omega)
  have h2 := bring_bd d.rrep 8 (by omega)
  have h3 := bring_bd d.seq 9007199254740991 (by omega)
  have h4 := bring_bd d.sender 8 (by omega)
  have h5 := bring_bd d.stamp 9007199254740992 (by omega)
  unfold mayOld broughtD
  simp only [decide_eq_true_eq, ringE_zero]
  omega

theorem inner_old {d : Dat} (hm : mayOld d = true) (hb : Byt d.msg.body) (hc : check d.msg = 0) (hk : d.msg.kind ≠ 5) : inner (oldM d) = (d, 0) := by
  have h := check_oldM hm hb hc hk
  have hu := unpack_bytes hc
  unfold inner
  rw [if_pos ⟨h, rfl⟩]
  unfold innerD
  show ((⟨d.rseq, d.rrep, d.seq, d.sender, d.stamp, (unpack (bytesM d.msg)).1⟩ : Dat), (0 : Int)) = (d, 0)
  rw [hu]

theorem opn_dat : Opn Tryz.prog 45 (fun w cs => ∃ (d : Dat) (a : Option Addr) (c : Nat), cs = d.cells a c ∧ Rd w a (bv d.msg.body) ∧ Byt d.msg.body ∧ (a = none → c = 0) ∧ d.msg.body.length ≤ 140737488351232 ∧ (MsgI d.msg ∧ i64 d.rseq ∧ i64 d.rrep ∧ i64 d.seq ∧ i64 d.sender ∧ i64 d.stamp)) := by
  refine (opn_struct Tryz.underlying45).mono fun w cs ⟨hl, h⟩ => ?_
  have hl : cs.length = 18 := hl
  match cs, hl with
  | y0 :: y1 :: y2 :: y3 :: y4 :: r, hl =>
    obtain ⟨x0, x1, h0, g0, g1⟩ := h 0 _ rfl _ opn_ring
    obtain ⟨x2, h2, g2⟩ := h 1 _ rfl _ opn_i64
    obtain ⟨x3, h3, g3⟩ := h 2 _ rfl _ opn_i64
    obtain ⟨x4, h4, g4⟩ := h 3 _ rfl _ opn_i64
    obtain ⟨m, a, c, h5, hr, hb, hz, hm, hi⟩ := h 4 _ rfl _ opn_msg
    have h0 : [y0, y1] = [Value.int .i64 x0, .int .i64 x1] := h0
    have h2 : [y2] = [Value.int .i64 x2] := h2
    have h3 : [y3] = [Value.int .i64 x3] := h3
    have h4 : [y4] = [Value.int .i64 x4] := h4
    have h5 : r.take 13 = m.cells a c := h5
    have h6 : r = m.cells a c := by rw [← h5, List.take_of_length_le]; simp at hl; omega
    simp only [List.cons.injEq, and_true] at h0 h2 h3 h4
    exact ⟨⟨x0, x1, x2, x3, x4, m⟩, a, c, by rw [h0.1, h0.2, h2, h3, h4, h6]; rfl, hr, hb, hz, hm, hi, g0, g1, g2, g3, g4⟩
end Go.Proofs.YtgblmkpfkcibiaaGreat

namespace Go.Hb

/-! ### what is listed -/
theorem lst_foldl_comm (a : Array Bool) (i j : Nat) : (a.setIfInBounds i true).setIfInBounds j true = (a.setIfInBounds j true).setIfInBounds i true := by
  by_cases h : i = j
  · subst h; rfl
  · exact Array.setIfInBounds_comm _ _ h
theorem lst_perm {ops : List Oper} {l l' : List Nat} (h : l.Perm l') : lst ops l = lst ops l' := by
  unfold lst
  exact h.foldl_eq' (fun x _ y _ z => lst_foldl_comm z x y) _
theorem lst_getD {ops : List Oper} : ∀ {l : List Nat} {j : Nat} (d : Bool), j < ops.length → (lst ops l).getD j d = l.contains j := by
  intro l
  have gen : ∀ (l : List Nat) (a : Array Bool) (j : Nat) (d : Bool), j < a.size → (l.foldl (fun l i => l.setIfInBounds i true) a).getD j d = (l.contains j || a.getD j d) := by
    intro l
    induction l with
    | nil => intro a j d _; simp
    | cons x r ih =>
      intro a j d hj
      rw [List.foldl_cons, ih _ _ _ (by simpa using hj)]
      by_cases hx : x = j
      · subst hx; simp [hj]
      · have e : (a.setIfInBounds x true).getD j d = a.getD j d := by simp [Array.getElem?_setIfInBounds_ne hx]
        have e2 : (j == x) = false := by simpa using fun h => hx h.symm
        rw [e, List.contains_cons, e2, Bool.false_or]
  intro j d hj
  unfold lst
  rw [gen _ _ _ _ (by simpa using hj)]
  simp [hj]
theorem ready_more {ops : List Oper} {l : List Nat} {j : Nat} (h : j ∈ Region.ready .any ops.toArray (lst ops l)) : ∀ (l' : List Nat), (∀ x ∈ l', j ≠ x) → j ∈ Region.ready .any ops.toArray (lst ops (l ++ l')) := by
  intro l'
  induction l' generalizing l with
  | nil => intro _; simpa using h
  | cons x r ih =>
    intro hx
    have := ready_mono (i := x) h (hx x List.mem_cons_self)
    rw [← lst_snoc] at this
    have h2 := ih this (fun y hy => hx y (List.mem_cons_of_mem _ hy))
    simpa using h2
theorem ready_new {ops : List Oper} {l : List Nat} {j : Nat} (h : j ∈ Region.ready .any ops.toArray (lst ops l)) : j ∉ l := by
  obtain ⟨h0, o, ho, _⟩ := mem_ready.1 h
  have hj : j < ops.length := by simpa using (Array.getElem?_eq_some_iff.1 ho).1
  rw [lst_getD _ hj] at h0
  simpa using h0

/-! ### assertions, many at once -/
theorem St.pushL {w0 w w' : World} {F : Nat → Prop} {L A : List Asrt} (h : St w0 F L w) (hA : St w NoF A w') (he : ∀ x ∈ A, x.excl = true) : St w0 F (A ++ L) w' := by
  have h' := h.grew hA.toKeep
  have hnew : ∀ a ∈ A, ∀ k, a.foot k → w.heap.size ≤ k := fun a ha k hk => Nat.le_of_not_lt fun hlt => hA.mine a ha (he a ha) k hk hlt
  refine ⟨h'.os, h'.tape, h'.output, h'.size, h'.keep, ?_, ?_, ?_, ?_, ?_⟩
  · intro a ha; rcases List.mem_append.1 ha with ha | ha
    · exact hA.holds a ha
    · exact h'.holds a ha
  · intro a ha; rcases List.mem_append.1 ha with ha | ha
    · exact hA.live a ha
    · exact h'.live a ha
  · intro a ha hx k hk hlt; rcases List.mem_append.1 ha with ha | ha
    · have := hnew a ha k hk; have := h.size; omega
    · exact h'.mine a ha hx k hk hlt
  · refine List.pairwise_append.2 ⟨hA.dis, h'.dis, fun a ha b hb _ k hk hk2 => ?_⟩
    have := hnew a ha k hk; have := h.live b hb k hk2; omega
  · intro a ha; rcases List.mem_append.1 ha with ha | ha
    · exact hA.dep a ha
    · exact h'.dep a ha

/-! ### one that may wait -/
structure PI (P : Program) (n : Nat) (ops : List Oper) where
  i : Nat
  d : Nat
  vs : List (Nat × Value)
  C : World → Prop
  val : Nat → Value
  A : Nat → List Asrt
  ok : ∀ (Q : Exit → Act → World → Prop) (h : Frm) (w : World) (a : Act) (K : Act → World → Prop), Has h vs → C w → Fits n a h → (∀ b w' a', St w NoF (A b) w' → Fits n a' (upd h d (val b)) → K a' w') → wpOp P ops.toArray Q i K a w
  ex : ∀ b, ∀ x ∈ A b, x.excl = true

section
variable {P : Program} {n : Nat} {ops : List Oper} {Q : Post} {f : Frm} {C S : World → Prop}

def sF : List (PI P n ops × Option Nat) → Frm → Frm
  | [], f => f
  | (p, some b) :: r, f => upd (sF r f) p.d (p.val b)
  | (_, none) :: r, f => sF r f
def sL : List (PI P n ops × Option Nat) → List Asrt
  | [] => []
  | (p, some b) :: r => p.A b ++ sL r
  | (_, none) :: r => sL r
def sD : List (PI P n ops × Option Nat) → List Nat
  | [] => []
  | (p, some _) :: r => p.i :: sD r
  | (_, none) :: r => sD r
/-- The slots of those that have not come up; their numbers. -/
def nD : List (PI P n ops × Option Nat) → List Nat
  | [] => []
  | (_, some _) :: r => nD r
  | (p, none) :: r => p.d :: nD r
def nI : List (PI P n ops × Option Nat) → List Nat
  | [] => []
  | (_, some _) :: r => nI r
  | (p, none) :: r => p.i :: nI r

variable {σ σ1 σ2 : List (PI P n ops × Option Nat)} {p : PI P n ops} {b : Nat}
theorem sL_set : (sL (σ1 ++ (p, some b) :: σ2)).Perm (p.A b ++ sL (σ1 ++ (p, none) :: σ2)) := by
  induction σ1 with
  | nil => exact List.Perm.refl _
  | cons x r ih =>
    obtain ⟨q, o⟩ := x
    cases o with
    | none => exact ih
    | some c =>
      show (q.A c ++ sL (r ++ (p, some b) :: σ2)).Perm (p.A b ++ (q.A c ++ sL (r ++ (p, none) :: σ2)))
      refine (ih.append_left _).trans ?_
      rw [← List.append_assoc, ← List.append_assoc]
      exact List.perm_append_comm.append_right _
theorem sD_set : (sD (σ1 ++ (p, some b) :: σ2)).Perm (p.i :: sD (σ1 ++ (p, none) :: σ2)) := by
  induction σ1 with
  | nil => exact List.Perm.refl _
  | cons x r ih =>
    obtain ⟨q, o⟩ := x
    cases o with
    | none => exact ih
    | some c => exact (ih.cons q.i).trans (List.Perm.swap _ _ _)
theorem sDnI : ∀ (σ : List (PI P n ops × Option Nat)), (sD σ ++ nI σ).Perm ((σ.map Prod.fst).map PI.i)
  | [] => List.Perm.refl _
  | (p, some b) :: r => (sDnI r).cons p.i
  | (p, none) :: r => by
    show (sD r ++ p.i :: nI r).Perm (p.i :: (r.map Prod.fst).map PI.i)
    exact List.perm_middle.trans ((sDnI r).cons p.i)
theorem sF_off : ∀ {σ : List (PI P n ops × Option Nat)} {t : Nat}, t ∉ (σ.map Prod.fst).map PI.d → sF σ f t = f t
  | [], t, _ => rfl
  | (p, some b) :: r, t, h => by
    simp only [List.map_cons, List.mem_cons, not_or] at h
    show upd _ _ _ t = _
    rw [upd_ne _ _ _ _ h.1, sF_off h.2]
  | (p, none) :: r, t, h => by
    simp only [List.map_cons, List.mem_cons, not_or] at h
    exact sF_off (σ := r) h.2
theorem nD_sub : ∀ {σ : List (PI P n ops × Option Nat)} {t : Nat}, t ∈ nD σ → t ∈ (σ.map Prod.fst).map PI.d
  | (p, some b) :: r, t, h => by simp only [List.map_cons]; exact List.mem_cons_of_mem _ (nD_sub (σ := r) h)
  | (p, none) :: r, t, h => by
    simp only [List.map_cons]
    rcases List.mem_cons.1 h with rfl | h
    · exact List.mem_cons_self
    · exact List.mem_cons_of_mem _ (nD_sub (σ := r) h)
/-- A slot of one that has come up does not hang on what was there before. -/
theorem sF_in {f f' : Frm} : ∀ {σ : List (PI P n ops × Option Nat)} {t : Nat}, ((σ.map Prod.fst).map PI.d).Nodup → t ∈ (σ.map Prod.fst).map PI.d → t ∉ nD σ → sF σ f t = sF σ f' t
  | (p, some b) :: r, t, hn, ht, h => by
    simp only [List.map_cons, List.nodup_cons] at hn
    simp only [List.map_cons] at ht
    show upd _ _ _ t = upd _ _ _ t
    by_cases e : t = p.d
    · subst e; rw [upd_same, upd_same]
    · rw [upd_ne _ _ _ _ e, upd_ne _ _ _ _ e]
      rcases List.mem_cons.1 ht with ht | ht
      · exact absurd ht e
      · exact sF_in (σ := r) hn.2 ht h
  | (p, none) :: r, t, hn, ht, h => by
    simp only [List.map_cons, List.nodup_cons] at hn
    simp only [List.map_cons] at ht
    have h : t ∉ p.d :: nD r := h
    simp only [List.mem_cons, not_or] at h
    rcases List.mem_cons.1 ht with ht | ht
    · exact absurd ht h.1
    · exact sF_in (σ := r) hn.2 ht h.2
theorem sF_set {f : Frm} : ∀ {σ1 : List (PI P n ops × Option Nat)}, (((σ1 ++ (p, none) :: σ2).map Prod.fst).map PI.d).Nodup → sF (σ1 ++ (p, some b) :: σ2) f = upd (sF (σ1 ++ (p, none) :: σ2) f) p.d (p.val b)
  | [], _ => rfl
  | (q, none) :: r, hn => by
    simp only [List.cons_append, List.map_cons, List.nodup_cons] at hn
    exact sF_set (σ1 := r) hn.2
  | (q, some c) :: r, hn => by
    simp only [List.cons_append, List.map_cons, List.nodup_cons] at hn
    have hne : q.d ≠ p.d := fun e => hn.1 (by rw [e]; simp)
    show upd (sF (r ++ (p, some b) :: σ2) f) q.d (q.val c) = upd (upd (sF (r ++ (p, none) :: σ2) f) q.d (q.val c)) p.d (p.val b)
    rw [sF_set (σ1 := r) hn.2]
    funext t
    by_cases h1 : t = q.d
    · subst h1; rw [upd_same, upd_ne _ _ _ _ hne, upd_same]
    · rw [upd_ne _ _ _ _ h1]
      by_cases h2 : t = p.d
      · subst h2; rw [upd_same, upd_same]
      · rw [upd_ne _ _ _ _ h2, upd_ne _ _ _ _ h2, upd_ne _ _ _ _ h1]
theorem nD_set : ∀ {σ1 : List (PI P n ops × Option Nat)} {t : Nat}, t ∈ nD (σ1 ++ (p, none) :: σ2) → t = p.d ∨ t ∈ nD (σ1 ++ (p, some b) :: σ2)
  | [], t, h => List.mem_cons.1 h
  | (q, none) :: r, t, h => by
    rcases List.mem_cons.1 h with rfl | h
    · exact .inr List.mem_cons_self
    · rcases nD_set (σ1 := r) h with h | h
      · exact .inl h
      · exact .inr (List.mem_cons_of_mem _ h)
  | (q, some c) :: r, t, h => nD_set (σ1 := r) h
theorem nI_len : ∀ {σ1 : List (PI P n ops × Option Nat)}, (nI (σ1 ++ (p, none) :: σ2)).length = (nI (σ1 ++ (p, some b) :: σ2)).length + 1
  | [] => rfl
  | (q, none) :: r => by show (nI (r ++ _)).length + 1 = _; exact congrArg (· + 1) (nI_len (σ1 := r))
  | (q, some c) :: r => nI_len (σ1 := r)
theorem nI_find : ∀ {σ : List (PI P n ops × Option Nat)} {j : Nat}, j ∈ nI σ → ∃ σ1 p σ2, σ = σ1 ++ (p, none) :: σ2 ∧ p.i = j
  | (p, none) :: r, j, h => by
    rcases List.mem_cons.1 h with rfl | h
    · exact ⟨[], p, r, rfl, rfl⟩
    · obtain ⟨a, q, c, rfl, e⟩ := nI_find (σ := r) h
      exact ⟨(p, none) :: a, q, c, rfl, e⟩
  | (p, some b) :: r, j, h => by
    obtain ⟨a, q, c, rfl, e⟩ := nI_find (σ := r) h
    exact ⟨(p, some b) :: a, q, c, rfl, e⟩

variable {w0 : World} {F : Nat → Prop} {L : List Asrt} {pend : List (PI P n ops)} {done : List Nat}

/-- The state where of those that may wait some have come up. -/
def PS (P : Program) (n : Nat) (ops : List Oper) (Q : Post) (done : List Nat) (S : World → Prop) (f : Frm) (w0 : World) (F : Nat → Prop) (L : List Asrt) (σ : List (PI P n ops × Option Nat)) : Prop :=
  ∀ w, St w0 F (L ++ sL σ) w → ∀ g, (∀ t, t ∉ nD σ → g t = sF σ f t) → ∀ a, Fits n a g →
    wpAnyH P .any ops.toArray (lift n (only fun f w => Q .normal f w)) S (ops.length - (done.length + (sD σ).length)) (lst ops (done ++ sD σ)) a w
/-- What is left of a drawn region, where pend may have come up, or not. -/
def DP (P : Program) (n : Nat) (ops : List Oper) (Q : Post) (pend : List (PI P n ops)) (done : List Nat) (S : World → Prop) (f : Frm) (w0 : World) (F : Nat → Prop) (L : List Asrt) : Prop :=
  ∀ σ, σ.map Prod.fst = pend → PS P n ops Q done S f w0 F L σ

/-- Those that may wait can come up now. -/
def PAll (f : Frm) (w0 : World) (F : Nat → Prop) (L : List Asrt) : List (PI P n ops) → Prop
  | [] => True
  | p :: r => Has f p.vs ∧ (∀ A w, St w0 F (L ++ A) w → p.C w) ∧ PAll f w0 F L r
theorem PAll.get : ∀ {pend : List (PI P n ops)}, PAll f w0 F L pend → ∀ p ∈ pend, Has f p.vs ∧ ∀ A w, St w0 F (L ++ A) w → p.C w
  | q :: r, h, p, hp => by
    rcases List.mem_cons.1 hp with rfl | hp
    · exact ⟨h.1, h.2.1⟩
    · exact PAll.get h.2.2 p hp
theorem has_same {f g : Frm} : ∀ {vs : List (Nat × Value)}, Has f vs → (∀ q ∈ vs, g q.1 = f q.1) → Has g vs
  | [], _, _ => trivial
  | q :: r, h, hg => ⟨(hg q List.mem_cons_self).trans h.1, has_same h.2 fun x hx => hg x (List.mem_cons_of_mem _ hx)⟩
/-- Tests on numbers and slots alone. -/
def pOk (pend : List (PI P n ops)) : Bool :=
  decide (pend.map PI.i).Nodup && decide (pend.map PI.d).Nodup && pend.all fun p => p.vs.all fun q => !(pend.map PI.d).contains q.1
def pOkL (is ds : List Nat) (vss : List (List Nat)) : Bool := decide is.Nodup && decide ds.Nodup && vss.all fun l => l.all fun q => !ds.contains q
theorem pOk_of {is ds : List Nat} {vss : List (List Nat)} (h1 : pend.map PI.i = is) (h2 : pend.map PI.d = ds) (h3 : (pend.map fun p => p.vs.map Prod.fst) = vss) (h : pOkL is ds vss = true) : pOk pend = true := by
  subst h1 h2 h3
  simpa [pOk, pOkL, List.all_map, Function.comp_def] using h

theorem PS.exec (hp : pOk pend = true) (hall : PAll f w0 F L pend) (hS : ∀ A w, St w0 F (L ++ A) w → S w) (he : σ1.map Prod.fst ++ p :: σ2.map Prod.fst = pend) (hlen : done.length + (sD (σ1 ++ (p, none) :: σ2)).length < ops.length)
    (ih : ∀ b, PS P n ops Q done S f w0 F L (σ1 ++ (p, some b) :: σ2)) {w : World} (hw : St w0 F (L ++ sL (σ1 ++ (p, none) :: σ2)) w) {g : Frm} (hg : ∀ t, t ∉ nD (σ1 ++ (p, none) :: σ2) → g t = sF (σ1 ++ (p, none) :: σ2) f t) {a : Act} (ha : Fits n a g) {fuel : Nat} (hf : ops.length - (done.length + (sD (σ1 ++ (p, none) :: σ2)).length) = fuel + 1) :
    wpOp P ops.toArray (lift n (only fun f w => Q .normal f w)) p.i (fun a' w' => S w' ∧ wpAnyH P .any ops.toArray (lift n (only fun f w => Q .normal f w)) S fuel ((lst ops (done ++ sD (σ1 ++ (p, none) :: σ2))).setIfInBounds p.i true) a' w') a w := by
  have hpm : p ∈ pend := by rw [← he]; simp
  obtain ⟨hh, hC⟩ := hall.get p hpm
  simp only [pOk, Bool.and_eq_true, decide_eq_true_eq, List.all_eq_true] at hp
  obtain ⟨⟨hn1, hn2⟩, hn3⟩ := hp
  have hmap : ∀ o, (σ1 ++ (p, o) :: σ2).map Prod.fst = pend := fun o => by rw [List.map_append, List.map_cons]; exact he
  have hd2 : (((σ1 ++ (p, none) :: σ2).map Prod.fst).map PI.d).Nodup := by rw [hmap]; exact hn2
  refine p.ok _ g w a _ (has_same hh fun q hq => ?_) (hC _ _ hw) ha fun b w' a' hb ha' => ?_
  · have h3 := hn3 p hpm q hq
    have h4 : q.1 ∉ ((σ1 ++ (p, none) :: σ2).map Prod.fst).map PI.d := by rw [hmap]; simpa using h3
    rw [hg _ (fun hx => h4 (nD_sub hx)), sF_off h4]
  · have h1 : St w0 F (L ++ sL (σ1 ++ (p, some b) :: σ2)) w' := by
      refine (hw.pushL hb (p.ex b)).perm ?_
      refine List.Perm.trans ?_ (sL_set.symm.append_left L)
      rw [← List.append_assoc, ← List.append_assoc]
      exact List.perm_append_comm.append_right _
    refine ⟨hS _ _ h1, ?_⟩
    have h2 := ih b w' h1 (upd g p.d (p.val b)) (fun t ht => ?_) a' ha'
    · have e1 : lst ops (done ++ sD (σ1 ++ (p, some b) :: σ2)) = (lst ops (done ++ sD (σ1 ++ (p, none) :: σ2))).setIfInBounds p.i true := by
        rw [← lst_snoc]
        refine lst_perm ?_
        rw [List.append_assoc]
        exact (sD_set.trans (List.perm_append_comm (l₁ := [p.i]))).append_left done
      have e2 : ops.length - (done.length + (sD (σ1 ++ (p, some b) :: σ2)).length) = fuel := by
        have := (sD_set (σ1 := σ1) (σ2 := σ2) (p := p) (b := b)).length_eq
        simp only [List.length_cons] at this
        omega
      rw [e1, e2] at h2
      exact h2
    · rw [sF_set hd2]
      by_cases e : t = p.d
      · subst e; rw [upd_same, upd_same]
      · rw [upd_ne _ _ _ _ e, upd_ne _ _ _ _ e]
        refine hg t fun hx => ?_
        rcases nD_set (b := b) hx with h | h
        · exact e h
        · exact ht h

theorem DP.begin (pend : List (PI P n ops)) (h : DP P n ops Q pend done S f w0 F L) : DW P n ops Q done S f (St w0 F L) := by
  intro w hw a ha
  have key : ∀ (pd : List (PI P n ops)), sL (pd.map fun p => (p, (none : Option Nat))) = [] ∧ sD (pd.map fun p => (p, (none : Option Nat))) = [] ∧ ∀ f, sF (pd.map fun p => (p, (none : Option Nat))) f = f := by
    intro pd
    induction pd with
    | nil => exact ⟨rfl, rfl, fun _ => rfl⟩
    | cons q r ih => exact ⟨ih.1, ih.2.1, ih.2.2⟩
  obtain ⟨k1, k2, k3⟩ := key pend
  have := h (pend.map fun p => (p, none)) (by simp [List.map_map, Function.comp_def]) w (by rw [k1, List.append_nil]; exact hw) f (fun t _ => by rw [k3]) a ha
  rw [k2, List.append_nil] at this
  exact this
theorem DP.nil (h : DW P n ops Q done S f (St w0 F L)) : DP P n ops Q [] done S f w0 F L := by
  intro σ hσ w hw g hg a ha
  have : σ = [] := List.map_eq_nil_iff.1 hσ
  subst this
  have e : g = f := funext fun t => hg t (by simp [nD])
  subst e
  have := h w (by simpa [sL] using hw) a ha
  simpa [sD] using this
/-- One more that may wait. -/
theorem DP.more (p : PI P n ops) (h : DP P n ops Q (p :: pend) done S f w0 F L) : DP P n ops Q pend done S f w0 F L := by
  intro σ hσ w hw g hg a ha
  refine h ((p, none) :: σ) (by simp [hσ]) w hw g (fun t ht => hg t fun hx => ht (List.mem_cons_of_mem _ hx)) a ha

theorem sD_le : ∀ (σ : List (PI P n ops × Option Nat)), (sD σ).length + (nI σ).length = σ.length
  | [] => rfl
  | (p, some b) :: r => by have := sD_le r; simp only [sD, nI, List.length_cons]; omega
  | (p, none) :: r => by have := sD_le r; simp only [sD, nI, List.length_cons]; omega

/-- The walk goes on behind an operation that came up, whatever of those that may wait had come up. -/
def pnext (P : Program) (n : Nat) (ops : List Oper) (Q : Post) (pend : List (PI P n ops)) (done : List Nat) (S : World → Prop) (w0 : World) (F : Nat → Prop) (g : Frm) (A : List Asrt) : Post :=
  only fun f' w' => ∃ (L' : List Asrt) (f'' : Frm), (∀ t, f' t = bif (pend.map PI.d).contains t then g t else f'' t) ∧ St w0 F (L' ++ A) w' ∧ (∀ A w, St w0 F (L' ++ A) w → S w) ∧ DP P n ops Q pend done S f'' w0 F L'

theorem wpOp_of_LR {R : Frm → World → Prop} {i : Nat} {o : Oper} (hi : ops[i]? = some o) {w : World} {a : Act} (ha : Fits n a f) (hC : C w) (h : LR false P n ops [o] (only R) f C) {K : Act → World → Prop} {Qx : Exit → Act → World → Prop}
    (hK : ∀ a' f' w', Fits n a' f' → R f' w' → K a' w') : wpOp P ops.toArray Qx i K a w := by
  have h1 := h w hC a ha
  have ho : ops.toArray[i]? = some o := by simpa using hi
  unfold wpOp
  simp only [ho]
  simp only [wpList] at h1
  have conv : ∀ a' w', lift n (only R) .normal a' w' → K a' w' := by
    intro a' w' hq
    obtain ⟨f', hf', _, hR⟩ := hq
    exact hK a' f' w' hf' hR
  split
  · rename_i hwn
    rw [if_pos hwn] at h1
    rcases h1 with h1 | ⟨_, a', w', f', hf', he, _⟩
    · refine .inl ?_
      have h2 := Oper.wp_mono conv h1
      unfold Oper.wp at h2 ⊢
      generalize (execOp a.eval o).run P w = r at *
      cases r with
      | ok nx w' =>
        cases nx <;> simp only [Oper.upon] at h2 ⊢
        case value => exact h2
        case skip => exact h2
        case defer => exact h2
        case enter g args =>
          refine Calls.mono h2 fun e w'' he => ?_
          cases e with
          | returned u => exact he
          | panicked c => obtain ⟨_, _, he, _⟩ := he; cases he
          | outgrown => obtain ⟨_, _, _, _, he, _⟩ := he; cases he
        case row => exact h2
      | halt x w' =>
        cases x <;> simp only [Oper.upon] at h2 ⊢
        case panic => obtain ⟨_, _, he, _⟩ := h2; cases he
    · cases he
  · rename_i hwn
    rw [if_neg hwn] at h1
    exact conv _ _ h1

theorem DP.loud (i : Nat) {o : Oper} (hi : ops[i]? = some o)
    (hr : (pOk pend && (Region.ready .any ops.toArray (lst ops done)).contains i && (Region.ready .any ops.toArray (lst ops (done ++ pend.map PI.i))).all (fun j => Nat.beq j i) && !(pend.map PI.i).contains i && Nat.blt (done.length + pend.length) ops.length) = true)
    (hall : PAll f w0 F L pend) (hS : ∀ A w, St w0 F (L ++ A) w → S w)
    (h : ∀ g A LA, LA = L ++ A → LR false P n ops [o] (pnext P n ops Q pend (done ++ [i]) S w0 F g A) (mix (pend.map PI.d) g f) (St w0 F LA)) : DP P n ops Q pend done S f w0 F L := by
  simp only [Bool.and_eq_true] at hr
  obtain ⟨⟨⟨⟨hp, hri⟩, hra⟩, hni⟩, hl⟩ := hr
  have hri : i ∈ Region.ready .any ops.toArray (lst ops done) := by simpa using hri
  have hni : i ∉ pend.map PI.i := by
    intro hx
    have : (pend.map PI.i).contains i = true := List.elem_eq_true_of_mem hx
    rw [this] at hni; cases hni
  have hl := blt_lt hl
  have hp' := hp
  simp only [pOk, Bool.and_eq_true, decide_eq_true_eq, List.all_eq_true] at hp'
  obtain ⟨⟨hn1, hn2⟩, hn3⟩ := hp'
  suffices key : ∀ m σ, (nI σ).length = m → σ.map Prod.fst = pend → PS P n ops Q done S f w0 F L σ from fun σ hσ => key _ σ rfl hσ
  intro m
  induction m with
  | zero | succ m ih =>
    intro σ hm hσ w hw g hg a ha
    have hlen : (sD σ).length + (nI σ).length = pend.length := by rw [sD_le, ← hσ]; simp
    have hdn := sDnI σ
    rw [hσ] at hdn
    obtain ⟨fuel, hfuel⟩ : ∃ fuel, ops.length - (done.length + (sD σ).length) = fuel + 1 := ⟨ops.length - (done.length + (sD σ).length) - 1, by omega⟩
    rw [hfuel]
    have hsD : ∀ x ∈ sD σ, x ∈ pend.map PI.i := fun x hx => hdn.mem_iff.1 (List.mem_append_left _ hx)
    have hir : i ∈ Region.ready .any ops.toArray (lst ops (done ++ sD σ)) := ready_more hri _ fun x hx e => hni (e ▸ hsD x hx)
    refine ⟨fun h0 => (by rw [h0] at hir; cases hir), fun j hj => ?_⟩
    by_cases hjp : j ∈ nI σ
    · first
      | (rw [List.eq_nil_of_length_eq_zero hm] at hjp; cases hjp; done)
      | (obtain ⟨σ1, p, σ2, rfl, rfl⟩ := nI_find hjp
         refine PS.exec hp hall hS (by rw [← hσ, List.map_append, List.map_cons]) (by omega) (fun b => ih _ ?_ ?_) hw hg ha hfuel
         · have := nI_len (σ1 := σ1) (σ2 := σ2) (p := p) (b := b); omega
         · rw [← hσ]; simp)
    · have hjr : j ∈ Region.ready .any ops.toArray (lst ops (done ++ pend.map PI.i)) := by
        have h1 := ready_more hj (nI σ) (fun x hx e => hjp (e ▸ hx))
        rwa [lst_perm (l' := done ++ pend.map PI.i) (by rw [List.append_assoc]; exact hdn.append_left done)] at h1
      have hji : j = i := Nat.eq_of_beq_eq_true (List.all_eq_true.1 hra j hjr)
      subst hji
      have hmix : mix (pend.map PI.d) g f = g := by
        funext t
        simp only [mix]
        cases hc : (pend.map PI.d).contains t with
        | true => rfl
        | false =>
          have ht : t ∉ (σ.map Prod.fst).map PI.d := by
            rw [hσ]; intro hx; have hx' : (pend.map PI.d).contains t = true := List.elem_eq_true_of_mem hx; rw [hx'] at hc; cases hc
          rw [cond_false, hg t (fun hx => ht (nD_sub hx)), sF_off ht]
      have hLR := h g (sL σ) _ rfl
      rw [hmix] at hLR
      refine wpOp_of_LR hi ha hw hLR fun a' f' w' hf' ⟨L', f'', h1, h2, h3, h4⟩ => ⟨h3 _ _ h2, ?_⟩
      have h5 := h4 σ hσ w' h2 f' (fun t ht => ?_) a' hf'
      · have e1 : lst ops (done ++ [j] ++ sD σ) = (lst ops (done ++ sD σ)).setIfInBounds j true := by
          rw [← lst_snoc]
          refine lst_perm ?_
          rw [List.append_assoc, List.append_assoc]
          exact List.perm_append_comm.append_left done
        have e2 : ops.length - ((done ++ [j]).length + (sD σ).length) = fuel := by simp only [List.length_append, List.length_cons, List.length_nil]; omega
        rw [e1, e2] at h5
        exact h5
      · rw [h1 t]
        cases hc : (pend.map PI.d).contains t with
        | true =>
          have ht2 : t ∈ (σ.map Prod.fst).map PI.d := by rw [hσ]; simpa using hc
          rw [cond_true, hg t ht]
          exact sF_in (by rw [hσ]; exact hn2) ht2 ht
        | false =>
          have ht2 : t ∉ (σ.map Prod.fst).map PI.d := by
            rw [hσ]; intro hx; have hx' : (pend.map PI.d).contains t = true := List.elem_eq_true_of_mem hx; rw [hx'] at hc; cases hc
          rw [cond_false, sF_off ht2]

/-- The first one is wanted now. -/
theorem DP.settle {r : List (PI P n ops)}
    (hr : (pOk (p :: r) && (Region.ready .any ops.toArray (lst ops done)).contains p.i && (Region.ready .any ops.toArray (lst ops (done ++ r.map PI.i))).all (fun j => Nat.beq j p.i) && Nat.blt (done.length + r.length) ops.length) = true)
    (hall : PAll f w0 F L (p :: r)) (hS : ∀ A w, St w0 F (L ++ A) w → S w)
    (h : ∀ b, DP P n ops Q r (done ++ [p.i]) S (upd f p.d (p.val b)) w0 F (p.A b ++ L)) : DP P n ops Q (p :: r) done S f w0 F L := by
  simp only [Bool.and_eq_true] at hr
  obtain ⟨⟨⟨hp, hri⟩, hra⟩, hl⟩ := hr
  have hri : p.i ∈ Region.ready .any ops.toArray (lst ops done) := by simpa using hri
  have hl := blt_lt hl
  have hp' := hp
  simp only [pOk, Bool.and_eq_true, decide_eq_true_eq, List.all_eq_true] at hp'
  obtain ⟨⟨hn1, hn2⟩, hn3⟩ := hp'
  have hn1' := List.nodup_cons.1 (show (p.i :: r.map PI.i).Nodup from hn1)
  have hn2' := List.nodup_cons.1 (show (p.d :: r.map PI.d).Nodup from hn2)
  suffices key : ∀ m σ, (nI σ).length = m → σ.map Prod.fst = p :: r → PS P n ops Q done S f w0 F L σ from fun σ hσ => key _ σ rfl hσ
  intro m
  induction m with
  | zero | succ m ih =>
    intro σ hm hσ w hw g hg a ha
    match σ, hσ, hm, hw, hg with
    | (q, some b) :: τ, hσ, hm, hw, hg =>
      simp only [List.map_cons, List.cons.injEq] at hσ
      obtain ⟨rfl, hτ⟩ := hσ
      have h5 := h b τ hτ w (hw.perm (by
        show (L ++ (q.A b ++ sL τ)).Perm (q.A b ++ L ++ sL τ)
        rw [← List.append_assoc]
        exact List.perm_append_comm.append_right _)) g (fun t ht => by
          rw [hg t ht]
          show upd (sF τ f) q.d (q.val b) t = _
          by_cases e : t = q.d
          · subst e
            rw [upd_same, sF_off (by rw [hτ]; exact hn2'.1), upd_same]
          · rw [upd_ne _ _ _ _ e]
            by_cases ht2 : t ∈ (τ.map Prod.fst).map PI.d
            · exact sF_in (by rw [hτ]; exact hn2'.2) ht2 ht
            · rw [sF_off ht2, sF_off ht2, upd_ne _ _ _ _ e]) a ha
      have e1 : lst ops (done ++ [q.i] ++ sD τ) = lst ops (done ++ sD ((q, some b) :: τ)) := by rw [List.append_assoc]; rfl
      have e2 : (done ++ [q.i]).length + (sD τ).length = done.length + (sD ((q, some b) :: τ)).length := by simp [sD]; omega
      rw [e1, e2] at h5
      exact h5
    | (q, none) :: τ, hσ, hm, hw, hg =>
      simp only [List.map_cons, List.cons.injEq] at hσ
      obtain ⟨rfl, hτ⟩ := hσ
      first
      | (simp only [nI, List.length_cons, Nat.add_one_ne_zero] at hm; done)
      | (
      have hlen : (sD τ).length + (nI τ).length = r.length := by rw [sD_le, ← hτ]; simp
      have hdn := sDnI τ
      rw [hτ] at hdn
      have hsd : sD ((q, none) :: τ) = sD τ := rfl
      obtain ⟨fuel, hfuel⟩ : ∃ fuel, ops.length - (done.length + (sD ((q, none) :: τ)).length) = fuel + 1 := ⟨ops.length - (done.length + (sD τ).length) - 1, by rw [hsd]; omega⟩
      rw [hfuel]
      have hsD : ∀ x ∈ sD τ, x ∈ r.map PI.i := fun x hx => hdn.mem_iff.1 (List.mem_append_left _ hx)
      have hir : q.i ∈ Region.ready .any ops.toArray (lst ops (done ++ sD τ)) := ready_more hri _ fun x hx e => hn1'.1 (e ▸ hsD x hx)
      rw [hsd]
      refine ⟨fun h0 => (by rw [h0] at hir; cases hir), fun j hj => ?_⟩
      have hjn : j ∈ nI ((q, none) :: τ) := by
        by_cases hjp : j ∈ nI τ
        · exact List.mem_cons_of_mem _ hjp
        · have hjr : j ∈ Region.ready .any ops.toArray (lst ops (done ++ r.map PI.i)) := by
            have h1 := ready_more hj (nI τ) (fun x hx e => hjp (e ▸ hx))
            rwa [lst_perm (l' := done ++ r.map PI.i) (by rw [List.append_assoc]; exact hdn.append_left done)] at h1
          have hji : j = q.i := Nat.eq_of_beq_eq_true (List.all_eq_true.1 hra j hjr)
          rw [hji]; exact List.mem_cons_self
      obtain ⟨σ1, p', σ2, e, rfl⟩ := nI_find hjn
      have hm' : σ1.map Prod.fst ++ p' :: σ2.map Prod.fst = q :: r := by
        have := congrArg (List.map Prod.fst) e
        rw [List.map_append, List.map_cons, List.map_cons, hτ] at this
        exact this.symm
      rw [← hsd]
      rw [e] at hw hg hm hfuel ⊢
      refine PS.exec hp hall hS hm' (by rw [← e, hsd]; omega) (fun b => ih _ ?_ ?_) hw hg ha hfuel
      · have := nI_len (σ1 := σ1) (σ2 := σ2) (p := p') (b := b); omega
      · rw [← hm']; simp)
/-! ### with literal lists -/
variable {is ds : List Nat} {vss : List (List Nat)}
theorem DP.go (i : Nat) (is ds : List Nat) (vss : List (List Nat)) {o : Oper} (hi : ops[i]? = some o) (h1 : pend.map PI.i = is) (h2 : pend.map PI.d = ds) (h3 : (pend.map fun p => p.vs.map Prod.fst) = vss)
    (hr : (pOkL is ds vss && (Region.ready .any ops.toArray (lst ops done)).contains i && (Region.ready .any ops.toArray (lst ops (done ++ is))).all (fun j => Nat.beq j i) && !is.contains i && Nat.blt (done.length + is.length) ops.length) = true)
    (hall : PAll f w0 F L pend) (hS : ∀ A w, St w0 F (L ++ A) w → S w)
    (h : ∀ g A LA, LA = L ++ A → LR false P n ops [o] (pnext P n ops Q pend (done ++ [i]) S w0 F g A) (mix ds g f) (St w0 F LA)) : DP P n ops Q pend done S f w0 F L := by
  simp only [Bool.and_eq_true] at hr
  have hp := pOk_of h1 h2 h3 hr.1.1.1.1
  have hl : is.length = pend.length := by rw [← h1]; simp
  subst h1 h2
  exact DP.loud i hi (by simp only [Bool.and_eq_true]; exact ⟨⟨⟨⟨hp, hr.1.1.1.2⟩, hr.1.1.2⟩, hr.1.2⟩, by rw [← hl]; exact hr.2⟩) hall hS h
theorem DP.take (i d : Nat) (val : Nat → Value) (A : Nat → List Asrt) (is ds : List Nat) (vss : List (List Nat)) {r : List (PI P n ops)} (hp1 : p.i = i) (hpd : p.d = d) (hpv : p.val = val) (hpA : p.A = A) (h1 : r.map PI.i = is) (h2 : (p :: r).map PI.d = ds) (h3 : ((p :: r).map fun p => p.vs.map Prod.fst) = vss)
    (hr : (pOkL (i :: is) ds vss && (Region.ready .any ops.toArray (lst ops done)).contains i && (Region.ready .any ops.toArray (lst ops (done ++ is))).all (fun j => Nat.beq j i) && Nat.blt (done.length + is.length) ops.length) = true)
    (hall : PAll f w0 F L (p :: r)) (hS : ∀ A w, St w0 F (L ++ A) w → S w)
    (h : ∀ b, DP P n ops Q r (done ++ [i]) S (upd f d (val b)) w0 F (A b ++ L)) : DP P n ops Q (p :: r) done S f w0 F L := by
  simp only [Bool.and_eq_true] at hr
  have hp := pOk_of (pend := p :: r) (is := i :: is) (by rw [List.map_cons, h1, hp1]) h2 h3 hr.1.1.1
  have hl : is.length = r.length := by rw [← h1]; simp
  subst h1 hp1 hpd hpv hpA
  exact DP.settle (by simp only [Bool.and_eq_true]; exact ⟨⟨⟨hp, hr.1.1.2⟩, hr.1.2⟩, by rw [← hl]; exact hr.2⟩) hall hS h

/-! ### those that only read -/
theorem lst_sub {l e : List Nat} {j : Nat} (hj : j < ops.length) (h : (lst ops l).getD j true = true) : (lst ops (l ++ e)).getD j true = true := by
  rw [lst_getD _ hj] at h ⊢
  simp only [List.contains_iff_mem] at h ⊢
  exact List.mem_append_left _ h
theorem free_more {l e : List Nat} {i : Nat} (h : Region.free .any ops.toArray (lst ops l) i = true) : Region.free .any ops.toArray (lst ops (l ++ e)) i = true := by
  unfold Region.free at h ⊢
  split
  · rename_i h0; rw [h0] at h; exact h
  · rename_i oi h0
    rw [h0] at h
    simp only [List.all_eq_true, List.mem_range] at h ⊢
    intro j hj
    have hj' : j < ops.length := by simpa using hj
    have := h j hj
    simp only [Bool.or_eq_true] at this ⊢
    rcases this with (h1 | h1) | h1
    · exact .inl (.inl h1)
    · exact .inl (.inr (lst_sub hj' h1))
    · exact .inr h1
theorem headB_more : ∀ {H l e : List Nat}, headB ops.toArray (lst ops l) H = true → (∀ x ∈ e, x ∉ H) → headB ops.toArray (lst ops (l ++ e)) H = true
  | [], _, _, _, _ => rfl
  | i :: r, l, e, h, he => by
    simp only [headB, Bool.and_eq_true] at h ⊢
    obtain ⟨⟨h1, h2⟩, h3⟩ := h
    refine ⟨⟨?_, free_more h2⟩, ?_⟩
    · have : i ∈ Region.ready .any ops.toArray (lst ops l) := by simpa using h1
      have := ready_more this e (fun x hx e2 => he x hx (e2 ▸ List.mem_cons_self))
      simpa using this
    · rw [← lst_snoc] at h3 ⊢
      have := headB_more (H := r) (e := e) h3 (fun x hx hr => he x hx (List.mem_cons_of_mem _ hr))
      rw [lst_perm (l' := l ++ e ++ [i])] at this
      · exact this
      · rw [List.append_assoc, List.append_assoc]
        exact List.perm_append_comm.append_left l
theorem quiet_go {K : Frm → Prop} {w : World} {R : Frm → World → Prop} : ∀ (H l : List Nat) (fr : Frm) (a : Act) (fuel : Nat), headB ops.toArray (lst ops l) H = true → Region.noSelect ops.toArray = true → QL P n ops S K H fr → Fits n a fr → S w →
    (∀ fr' a', K fr' → Fits n a' fr' → wpAnyH P .any ops.toArray (lift n (only R)) S fuel (lst ops (l ++ H)) a' w) → wpAnyH P .any ops.toArray (lift n (only R)) S (fuel + H.length) (lst ops l) a w
  | [], l, fr, a, fuel, _, _, hq, ha, _, hk => by
    have := hk fr a hq ha
    simpa using this
  | i :: r, l, fr, a, fuel, hB, hs, hq, ha, hS, hk => by
    simp only [headB, Bool.and_eq_true] at hB
    obtain ⟨⟨h1, h2⟩, h3⟩ := hB
    obtain ⟨o, v, ho, hd, hy, hq'⟩ := hq
    have ih := quiet_go (R := R) r (l ++ [i]) _ _ fuel (by rw [lst_snoc]; exact h3) hs hq' (ha.putO o.dst v hd) hS (fun fr' a' hK hf => by
      have := hk fr' a' hK hf
      rw [List.append_assoc]; exact this)
    rw [lst_snoc] at ih
    have e : fuel + (i :: r).length = (fuel + r.length) + 1 := by simp only [List.length_cons]; omega
    rw [e]
    exact wpAnyH_take (by simpa using ho) hs h2 h1 (fun c a w hq => by obtain ⟨_, _, he, _⟩ := hq; cases he) (hy a ha) hS ih
def pq (P : Program) (n : Nat) (ops : List Oper) (Q : Post) (pend : List (PI P n ops)) (done : List Nat) (S : World → Prop) (w0 : World) (F : Nat → Prop) (L : List Asrt) (ds : List Nat) (g : Frm) : Frm → Prop :=
  fun f' => ∃ f'', (∀ t, f' t = bif ds.contains t then g t else f'' t) ∧ DP P n ops Q pend done S f'' w0 F L
theorem DP.quiet (H is ds : List Nat) (h1 : pend.map PI.i = is) (h2 : pend.map PI.d = ds)
    (hr : (decide ds.Nodup && headB ops.toArray (lst ops done) H && Region.noSelect ops.toArray && Nat.ble (done.length + H.length + is.length) ops.length && is.all (fun i => !H.contains i)) = true)
    (hS : ∀ A w, St w0 F (L ++ A) w → S w) (h : ∀ g, QL P n ops S (pq P n ops Q pend (done ++ H) S w0 F L ds g) H (mix ds g f)) : DP P n ops Q pend done S f w0 F L := by
  simp only [Bool.and_eq_true, decide_eq_true_eq] at hr
  obtain ⟨⟨⟨⟨hn2, hB⟩, hs⟩, hl⟩, hd⟩ := hr
  have hl := Nat.le_of_ble_eq_true hl
  have hlen : is.length = pend.length := by rw [← h1]; simp
  subst h1 h2
  intro σ hσ w hw g hg a ha
  have hmix : mix (pend.map PI.d) g f = g := by
    funext t
    simp only [mix]
    cases hc : (pend.map PI.d).contains t with
    | true => rfl
    | false =>
      have ht : t ∉ (σ.map Prod.fst).map PI.d := by
        rw [hσ]; intro hx; have hx' : (pend.map PI.d).contains t = true := List.elem_eq_true_of_mem hx; rw [hx'] at hc; cases hc
      rw [cond_false, hg t (fun hx => ht (nD_sub hx)), sF_off ht]
  have hq := h g
  rw [hmix] at hq
  have hdn := sDnI σ
  rw [hσ] at hdn
  have hsD : ∀ x ∈ sD σ, x ∈ pend.map PI.i := fun x hx => hdn.mem_iff.1 (List.mem_append_left _ hx)
  have hle : (sD σ).length ≤ pend.length := by have := sD_le σ; rw [← hσ, List.length_map]; omega
  have e : ops.length - (done.length + (sD σ).length) = (ops.length - ((done ++ H).length + (sD σ).length)) + H.length := by simp only [List.length_append]; omega
  rw [e]
  refine quiet_go H (done ++ sD σ) g a _ (headB_more hB fun x hx hxH => ?_) hs hq ha (hS _ _ hw) fun fr' a' hK hf => ?_
  · have := List.all_eq_true.1 hd x (hsD x hx)
    have h2 : H.contains x = true := List.elem_eq_true_of_mem hxH
    rw [h2] at this; cases this
  · obtain ⟨f'', h5, h6⟩ := hK
    have := h6 σ hσ w hw fr' (fun t ht => ?_) a' hf
    · rw [lst_perm (l' := done ++ sD σ ++ H)] at this
      · exact this
      · rw [List.append_assoc, List.append_assoc]
        exact List.perm_append_comm.append_left done
    · rw [h5 t]
      cases hc : (pend.map PI.d).contains t with
      | true =>
        have ht2 : t ∈ (σ.map Prod.fst).map PI.d := by rw [hσ]; simpa using hc
        rw [cond_true, hg t ht]
        exact sF_in (by rw [hσ]; exact hn2) ht2 ht
      | false =>
        have ht2 : t ∉ (σ.map Prod.fst).map PI.d := by
          rw [hσ]; intro hx; have hx' : (pend.map PI.d).contains t = true := List.elem_eq_true_of_mem hx; rw [hx'] at hc; cases hc
        rw [cond_false, sF_off ht2]

/-! ### frames that are g at the slots ds, and elsewhere another one -/
inductive MixR (ds : List Nat) (g : Frm) : Frm → Frm → Prop
  | base (f : Frm) : MixR ds g (mix ds g f) f
  | upd {f' f0 : Frm} {d : Nat} {v : Value} (h : MixR ds g f' f0) (hd : ds.contains d = false) : MixR ds g (Hb.upd f' d v) (Hb.upd f0 d v)
theorem MixR.eq {g f' f0 : Frm} (h : MixR ds g f' f0) : ∀ t, f' t = bif ds.contains t then g t else f0 t := by
  induction h with
  | base f => exact fun t => rfl
  | @upd f' f0 d v h hd ih =>
    intro t
    by_cases e : t = d
    · subst e; rw [hd, cond_false, upd_same, upd_same]
    · rw [upd_ne _ _ _ _ e, ih t, upd_ne _ _ _ _ e]
inductive Tl (A : List Asrt) : List Asrt → List Asrt → Prop
  | nil : Tl A A []
  | cons {x : Asrt} {l l' : List Asrt} (h : Tl A l l') : Tl A (x :: l) (x :: l')
theorem Tl.eq {A l l' : List Asrt} (h : Tl A l l') : l = l' ++ A := by
  induction h with
  | nil => rfl
  | cons h ih => rw [ih]; rfl
theorem pq_done {g f' f0 : Frm} (hm : MixR ds g f' f0) (h : DP P n ops Q pend done S f0 w0 F L) : pq P n ops Q pend done S w0 F L ds g f' := ⟨_, hm.eq, h⟩
theorem At.pdone {g f' f0 : Frm} {A LA L' : List Asrt} (h2 : pend.map PI.d = ds) (hm : MixR ds g f' f0) (hL : Tl A LA L') (hS : ∀ A w, St w0 F (L' ++ A) w → S w)
    (h : DP P n ops Q pend done S f0 w0 F L') : At (pnext P n ops Q pend done S w0 F g A) .normal f' (St w0 F LA) := by
  subst h2
  intro w hw
  exact ⟨rfl, L', _, hm.eq, by rw [← hL.eq]; exact hw, hS, h⟩

/-! ### what may wait -/
theorem upd_updL {h : Frm} {vs : List (Nat × Value)} (hh : Has h vs) : updL h vs = h := updL_has hh fun _ _ => rfl
/-- An operation that makes memory of its own. -/
def PI.lr (i d : Nat) (vs : List (Nat × Value)) (val : Nat → Value) (A : Nat → List Asrt) {o : Oper} (hi : ops[i]? = some o) (ex : ∀ b, ∀ x ∈ A b, x.excl = true)
    (h : ∀ h w, LR false P n ops [o] (only fun f' w' => ∃ b, f' = upd (updL h vs) d (val b) ∧ St w NoF (A b) w') (updL h vs) (St w NoF [])) : PI P n ops where
  i := i
  d := d
  vs := vs
  C := fun _ => True
  val := val
  A := A
  ok := fun Q fr w a K hh _ ha hk => by
    have := h fr w
    rw [upd_updL hh] at this
    exact wpOp_of_LR hi ha (St.refl w NoF) this fun a' f' w' hf' ⟨b, e, hs⟩ => hk b w' a' hs (by rw [← e]; exact hf')
  ex := ex
theorem At.made {d b : Nat} {h : Frm} {val : Nat → Value} {A : Nat → List Asrt} {w : World} {f' : Frm} (hf : f' = upd h d (val b)) : At (only fun f' w' => ∃ b, f' = upd h d (val b) ∧ St w NoF (A b) w') .normal f' (St w NoF (A b)) := fun _ hw => ⟨rfl, b, hf, hw⟩
/-- A call that only lets the world grow. -/
def PI.call (i d : Nat) (vs : List (Nat × Value)) (C : World → Prop) (v : Value) {g : FuncId} {xs : List Operand} {args : List Value} {ts : Array TypeId} {T : TypeId} {pp : String} {af : Array Edge} [own : Own P g]
    (hi : ops[i]? = some ⟨some d, .call ⟨.value (.func g), xs.toArray, ts⟩, T, pp, af, none⟩) (hd : Nat.blt d n = true) (hx : ∀ h, xs.map (updL h vs).ev = args)
    (h : ∀ w, C w → CallsTo P g args w fun u w' => u = v ∧ Grew w w') : PI P n ops where
  i := i
  d := d
  vs := vs
  C := C
  val := fun _ => v
  A := fun _ => []
  ok := fun Q fr w a K hh hC ha hk => by
    refine wpOp_of_LR (C := fun u => u = w) hi ha rfl (R := fun f' w' => f' = upd fr d v ∧ Grew w w') (LR.call hd fun w1 e => ?_) fun a' f' w' hf' ⟨e, hs⟩ => hk 0 w' a' hs (by rw [← e]; exact hf')
    subst e
    have hx' := hx fr
    rw [upd_updL hh] at hx'
    rw [hx']
    refine (h w1 hC).mono ?_
    rintro u w' ⟨rfl, hg⟩
    refine LW.sub (D := fun u => u = w') ?_ (fun _ e => e)
    exact LR.nil (m := false) fun w2 e => by subst e; exact ⟨rfl, rfl, hg⟩
  ex := fun _ x hx => by cases hx
/-! ### a drawn region that stores into the first, second or third object: the others stay -/
theorem CW.reg_held1 {id : Nat} {x : Asrt} {L : List Asrt} [hm : Mixed P] (h : DW P n ops Q [] (St w0 F L) f (St w0 F (x :: L))) : CW P n (.region id ops.toArray true) Q f (St w0 F (x :: L)) := CW.reg_held _ h
theorem CW.reg_held2 {id : Nat} {x y : Asrt} {L : List Asrt} [hm : Mixed P] (h : DW P n ops Q [] (St w0 F (x :: L)) f (St w0 F (x :: y :: L))) : CW P n (.region id ops.toArray true) Q f (St w0 F (x :: y :: L)) := CW.reg_held _ h
theorem CW.reg_held3 {id : Nat} {x y z : Asrt} {L : List Asrt} [hm : Mixed P] (h : DW P n ops Q [] (St w0 F (x :: y :: L)) f (St w0 F (x :: y :: z :: L))) : CW P n (.region id ops.toArray true) Q f (St w0 F (x :: y :: z :: L)) := CW.reg_held _ h
theorem CW.reg_held13 {id : Nat} {x y z : Asrt} {L : List Asrt} [hm : Mixed P] (h : DW P n ops Q [] (St w0 F (y :: L)) f (St w0 F (x :: y :: z :: L))) : CW P n (.region id ops.toArray true) Q f (St w0 F (x :: y :: z :: L)) := CW.reg_held _ h
theorem CW.reg_held4 {id : Nat} {x y z u : Asrt} {L : List Asrt} [hm : Mixed P] (h : DW P n ops Q [] (St w0 F (x :: y :: z :: L)) f (St w0 F (x :: y :: z :: u :: L))) : CW P n (.region id ops.toArray true) Q f (St w0 F (x :: y :: z :: u :: L)) := CW.reg_held _ h
theorem St.pair {w : World} {x y : Asrt} {R : List Asrt} (h : St w0 F (x :: y :: R) w) : St w0 F [x, y] w := h.sub (((List.nil_sublist R).cons_cons y).cons_cons x)
theorem St.nilsl {w : World} {L : List Asrt} (E sz : Nat) (h : St w0 F L w) : St w0 F (osl (.slice none 0 0) E sz 0 [] :: L) w := h.newSl ⟨Grew.refl _, World.ownsRow_nil _ _ _ _⟩
theorem St.two {w w' : World} {L L' R : List Asrt} {a a' b : Asrt} (h : St w0 F L w) (st : St w a.foot (a' :: b :: R) w') (he : a.excl = true) (he' : a'.excl = true) (hb : b.excl = true) (hs : Sel L a a' L') : St w0 F (b :: L') w' := h.did1 hs he he' hb st
theorem St.one' {w w' : World} {L L' : List Asrt} {a a' : Asrt} (h : St w0 F L w) (st : Step a a' w w') (he : a.excl = true) (hd : a'.dep) (hs : Sel L a a' L') : St w0 F L' w' := h.did hs he st hd
end
end Go.Hb

namespace Go.Hb
section
variable {α : Type} {f : α → List Value} {n : Nat}
theorem rows_get (hf : ∀ x, (f x).length = n) : ∀ (l : List α) (i j : Nat) (v : Value) (h : i < l.length), (f l[i])[j]? = some v → (l.flatMap f)[i * n + j]? = some v
  | x :: r, 0, j, v, h, hj => by
    have hlt : j < (f x).length := (List.getElem?_eq_some_iff.1 hj).1
    rw [List.flatMap_cons, Nat.zero_mul, Nat.zero_add, List.getElem?_append_left hlt]
    exact hj
  | x :: r, i + 1, j, v, h, hj => by
    have ih := rows_get hf r i j v (by simpa using h) hj
    rw [List.flatMap_cons, List.getElem?_append_right (by rw [hf]; rw [Nat.add_mul]; omega), hf, show (i + 1) * n + j - n = i * n + j by rw [Nat.add_mul]; omega]
    exact ih
theorem rows_len (hf : ∀ x, (f x).length = n) : ∀ (l : List α), (l.flatMap f).length = l.length * n
  | [] => by simp
  | x :: r => by rw [List.flatMap_cons, List.length_append, hf, rows_len hf r, List.length_cons, Nat.add_mul]; omega
theorem rd_row (hf : ∀ x, (f x).length = n) {w : World} {b o : Nat} {l : List α} (h : Rd w (some ⟨b, o, none⟩) (l.flatMap f)) {i q : Nat} (hi : i < l.length) (hq : q = i * n) : ∀ j v, (f l[i])[j]? = some v → w.cell? ((⟨b, o + q, none⟩ : Addr).add j) = some v := by
  intro j v hj
  subst hq
  rw [addr_add, Nat.add_assoc]
  exact h.cell (rows_get hf l i j v hi hj)
theorem row_cell (hf : ∀ x, (f x).length = n) {w : World} {b o q i : Nat} {l : List α} {v : Value} (h : Rd w (some ⟨b, o, none⟩) (l.flatMap f)) (hi : i < l.length) (j : Nat) (hj : (f l[i])[j]? = some v) (hq : q = o + i * n + j) : w.cell? ⟨b, q, none⟩ = some v := by
  subst hq
  rw [Nat.add_assoc]
  exact h.cell (rows_get hf l i j v hi hj)
theorem rows_ne (hf : ∀ x, (f x).length = n) (hn : 0 < n) {l : List α} {i : Nat} (h : i < l.length) : l.flatMap f ≠ [] := fun e => by
  have := rows_len hf l
  rw [e] at this
  have h2 : 1 * n ≤ l.length * n := Nat.mul_le_mul_right _ (by omega)
  simp only [List.length_nil] at this
  omega
theorem rows_of {R : α → Prop} : ∀ (css : List (List Value)), (∀ c ∈ css, ∃ x, c = f x ∧ R x) → ∃ l : List α, css.flatten = l.flatMap f ∧ l.length = css.length ∧ ∀ x ∈ l, R x
  | [], _ => ⟨[], rfl, rfl, fun p hp => by simp at hp⟩
  | c :: r, h => by
    obtain ⟨x, rfl, hp⟩ := h c List.mem_cons_self
    obtain ⟨l, h1, h2, h3⟩ := rows_of r fun c hc => h c (List.mem_cons_of_mem _ hc)
    refine ⟨x :: l, by rw [List.flatten_cons, h1]; rfl, by simp [h2], fun q hq => ?_⟩
    rcases List.mem_cons.1 hq with rfl | hq
    · exact hp
    · exact h3 q hq
end
section
variable {w0 w : World} {L : List Asrt} {x : Asrt} {a : Option Addr} {xs : List Value}
/-- What could be read at the start can be read still. -/
theorem St.oldRd (h : St w0 NoF L w) (hr : Rd w0 a xs) : Rd w a xs :=
  Rd.dep a xs w0 w (fun k hk => h.keep k (hr.live k hk) (fun hf => hf)) hr
theorem St.oldRdF {F : Nat → Prop} (h : St w0 F L w) (hr : Rd w0 a xs) (hF : ∀ k, rdFoot a xs k → ¬ F k) : Rd w a xs :=
  Rd.dep a xs w0 w (fun k hk => h.keep k (hr.live k hk) (hF k hk)) hr
theorem St.oldApart (h : St w0 NoF L w) (hx : x ∈ L) (he : x.excl = true) (hr : Rd w0 a xs) : ∀ y, rdFoot a xs y → ¬ x.foot y := fun y hy hf => h.mine x hx he y hf (hr.live y hy)
theorem DW.castL {P : Program} {n : Nat} {ops : List Oper} {Q : Post} {done : List Nat} {S : World → Prop} {f : Frm} {w0 : World} {F : Nat → Prop} {L L' : List Asrt} (e : L = L') (h : DW P n ops Q done S f (St w0 F L')) : DW P n ops Q done S f (St w0 F L) := e ▸ h
end
end Go.Hb

namespace Go.Hb
section
variable {α : Type} {f : α → Asrt} {w0 w : World} {F : Nat → Prop} {R : List Asrt} {x : α} {l : List α}
def bunF (f : α → Asrt) (l : List α) : Nat → Prop := fun k => ∃ x ∈ l, (f x).foot k
def bun (f : α → Asrt) (l : List α) : Asrt := .ex (bunF f l) (fun w => (∀ x ∈ l, (f x).holds w) ∧ (l.Pairwise fun x y => ∀ k, (f x).foot k → ¬ (f y).foot k) ∧ ∀ k, bunF f l k → k < w.heap.size)
theorem bun_dep (hd : ∀ x, (f x).dep) (l : List α) : (bun f l).dep := by
  intro w w' hk ⟨h1, h2, h3⟩
  refine ⟨fun x hx => hd x w w' (fun k hf => hk k ⟨x, hx, hf⟩) (h1 x hx), h2, fun k hf => lt_of_same (hk k hf) (h3 k hf)⟩
theorem St.bun_nil (hd : ∀ x, (f x).dep) (h : St w0 F R w) : St w0 F (bun f [] :: R) w :=
  h.push (Grew.refl w) ⟨fun _ h => (by cases h), List.Pairwise.nil, fun k ⟨_, hx, _⟩ => (by cases hx)⟩ (fun k ⟨_, hx, _⟩ => (by cases hx)) (bun_dep hd [])
theorem St.bun_snoc (hd : ∀ x, (f x).dep) (he : ∀ x, (f x).excl = true) (h : St w0 F (f x :: bun f l :: R) w) : St w0 F (bun f (l ++ [x]) :: R) w := by
  have hb : (bun f l).holds w := h.g1
  obtain ⟨b1, b2, b3⟩ := hb
  have hdis := (List.pairwise_cons.1 h.dis).1 (bun f l) (by simp) (by simp [he])
  refine h.merge (he x) rfl ⟨?_, ?_, ?_⟩ ?_ (bun_dep hd _)
  · intro y hy
    rcases List.mem_append.1 hy with hy | hy
    · exact b1 y hy
    · have : y = x := by simpa using hy
      subst this; exact h.g0
  · refine List.pairwise_append.2 ⟨b2, List.pairwise_singleton _ _, fun a ha b hb k hk hk2 => ?_⟩
    have : b = x := by simpa using hb
    subst this
    exact hdis k hk2 ⟨a, ha, hk⟩
  · rintro k ⟨y, hy, hk⟩
    rcases List.mem_append.1 hy with hy | hy
    · exact b3 k ⟨y, hy, hk⟩
    · have : y = x := by simpa using hy
      subst this; exact h.live _ (mH _ _) k hk
  · rintro k ⟨y, hy, hk⟩
    rcases List.mem_append.1 hy with hy | hy
    · exact .inr ⟨y, hy, hk⟩
    · have : y = x := by simpa using hy
      subst this; exact .inl hk
theorem St.bun_head (hd : ∀ x, (f x).dep) (h : St w0 F (bun f (x :: l) :: R) w) : St w0 F (f x :: bun f l :: R) w := by
  have hb : (bun f (x :: l)).holds w := h.g0
  obtain ⟨b1, b2, b3⟩ := hb
  obtain ⟨b4, b5⟩ := List.pairwise_cons.1 b2
  refine h.split rfl (b1 x List.mem_cons_self) ⟨fun y hy => b1 y (List.mem_cons_of_mem _ hy), b5, fun k ⟨y, hy, hk⟩ => b3 k ⟨y, List.mem_cons_of_mem _ hy, hk⟩⟩ (fun k hk => ⟨x, List.mem_cons_self, hk⟩) (fun k ⟨y, hy, hk⟩ => ⟨y, List.mem_cons_of_mem _ hy, hk⟩) (fun k hk ⟨y, hy, hk2⟩ => b4 y hy k hk hk2) (hd x) (bun_dep hd l)
end
end Go.Hb

namespace Go.Hb

/-- What a search for a key finds. -/
def Finds {κ : Type} (P : Program) (kt : TypeId) (enc : κ → Value) (l : List (κ × Value)) (es : List MapEntry) (a : κ) (w : World) : Prop :=
  ((Instr.findKey kt (enc a) es).run P w = .ok none w ∧ ∀ p ∈ l, p.1 ≠ a) ∨ ∃ j u, (Instr.findKey kt (enc a) es).run P w = .ok (some (j, u)) w ∧ l[j]? = some (a, u)
/-- T is a map; enc writes a key of κ that may be; z is the zero of its elements. -/
class KMap (P : Program) (T : TypeId) {κ : Type} (enc : κ → Value) (ok : κ → Prop) (z : outParam Value) : Prop where
  ex : ∃ kt et, P.underlying T = some (.map kt et) ∧ (∀ em a w, ok a → (Instr.checkKey em 10000 kt (enc a)).run P w = .ok () w) ∧
    (∀ (l : List (κ × Value)) (es : List MapEntry) a w, es.map (fun e => (e.key, e.val)) = l.map (fun p => (enc p.1, p.2)) → (∀ p ∈ l, ok p.1) → ok a → Finds P kt enc l es a w) ∧ ∀ w, (zeroValue et).run P w = .ok z w
def kmH {κ : Type} (enc : κ → Value) (b : Nat) (l : List (κ × Value)) (w : World) : Prop := ∃ es clock, w.heap[b]? = some (.map es clock) ∧ es.toList.map (fun e => (e.key, e.val)) = l.map (fun p => (enc p.1, p.2))
/-- The map of block b has these keys and values, in some order of births. -/
def kmap {κ : Type} (enc : κ → Value) (b : Nat) (l : List (κ × Value)) : Asrt := .ex (fun j => j = b) (kmH enc b l)
section
variable {κ : Type} {enc : κ → Value} {ok : κ → Prop}
theorem kmap.dep (b : Nat) (l : List (κ × Value)) : (kmap enc b l).dep := by
  intro w w' hk h
  obtain ⟨es, clock, hb, he⟩ := h
  exact ⟨es, clock, by rw [hk b rfl]; exact hb, he⟩
theorem kmH_old {b : Nat} {l : List (κ × Value)} {w w1 : World} {L : List Asrt} (h : kmH enc b l w) (h1 : St w NoF L w1) : kmH enc b l w1 := by
  obtain ⟨es, clock, hb, he⟩ := h
  exact ⟨es, clock, by rw [h1.keep b (Array.getElem?_eq_some_iff.1 hb).1 (fun h => h)]; exact hb, he⟩
theorem kmap.live {b : Nat} {l : List (κ × Value)} {w : World} (h : kmH enc b l w) : ∀ j, (kmap enc b l).foot j → j < w.heap.size := by
  rintro j rfl
  obtain ⟨es, clock, hb, _⟩ := h
  exact (Array.getElem?_eq_some_iff.1 hb).1
variable {P : Program} {f : Frm} {T T' : TypeId} {x y z : Operand} {v zv : Value} {w0 : World} {F : Nat → Prop} {L L' : List Asrt}
variable {C : World → Prop} {n : Nat} {ops rest : List Oper} {Q : Post} {p : String} {af : Array Edge} {d : Nat}
theorem finds_law {kt : TypeId} {l : List (κ × Value)} {es : List MapEntry} {a : κ} (K : WideMaps.KeyLaw P kt) (hok : ∀ a, ok a → ∃ l, keyOf P kt (enc a) = some l) (hinj : ∀ a b, enc a = enc b → a = b)
    (he : es.map (fun e => (e.key, e.val)) = l.map (fun p => (enc p.1, p.2))) (hl : ∀ p ∈ l, ok p.1) (ha : ok a) (w : World) : Finds P kt enc l es a w := by
  obtain ⟨lx, hx⟩ := hok a ha
  have key : ∀ (j : Nat) (e : MapEntry), es[j]? = some e → ∃ p : κ × Value, l[j]? = some p ∧ enc p.1 = e.key ∧ p.2 = e.val := by
    intro j e hj
    have h1 : (es.map (fun e => (e.key, e.val)))[j]? = some (e.key, e.val) := by rw [List.getElem?_map, hj]; rfl
    rw [he, List.getElem?_map] at h1
    cases hq : l[j]? with
    | none => rw [hq] at h1; cases h1
    | some p =>
      rw [hq] at h1
      simp only [Option.map_some, Option.some.injEq, Prod.mk.injEq] at h1
      exact ⟨p, rfl, h1.1, h1.2⟩
  rcases K.find w hx es (fun e hm => by
    obtain ⟨j, hj⟩ := List.getElem?_of_mem hm
    obtain ⟨p, hp, h1, _⟩ := key j e hj
    obtain ⟨l1, h2⟩ := hok p.1 (hl p (List.mem_of_getElem? hp))
    exact ⟨l1, by rw [← h1]; exact h2⟩) with ⟨h1, h2⟩ | ⟨j, e, h1, h2, h3⟩
  · refine .inl ⟨h1, fun p hp hpa => ?_⟩
    have : (enc p.1, p.2) ∈ es.map (fun e => (e.key, e.val)) := by rw [he]; exact List.mem_map.2 ⟨p, hp, rfl⟩
    obtain ⟨e, hem, hee⟩ := List.mem_map.1 this
    simp only [Prod.mk.injEq] at hee
    exact h2 e hem (by rw [hee.1, hpa])
  · obtain ⟨q, hq, h4, h5⟩ := key j e h2
    have : q.1 = a := hinj _ _ (by rw [h4, h3])
    refine .inr ⟨j, e.val, h1, ?_⟩
    rw [hq, ← this, ← h5]
theorem finds_asking [DecidableEq κ] {kt : TypeId} {a : κ} {w : World} (heq : ∀ b, (Op.equal kt (enc a) (enc b)).run P w = .ok (decide (a = b)) w) : ∀ (es : List MapEntry) (l : List (κ × Value)) (i : Nat),
    es.map (fun e => (e.key, e.val)) = l.map (fun p => (enc p.1, p.2)) →
    ((Instr.findAsking kt (enc a) es i).run P w = .ok none w ∧ ∀ p ∈ l, p.1 ≠ a) ∨ ∃ j u, (Instr.findAsking kt (enc a) es i).run P w = .ok (some (i + j, u)) w ∧ l[j]? = some (a, u)
  | [], l, i, h => by
    have hl : l = [] := by cases l with | nil => rfl | cons p r => simp at h
    subst hl
    exact .inl ⟨by simp [Instr.findAsking], by simp⟩
  | e :: es, l, i, h => by
    cases l with
    | nil => simp at h
    | cons p r =>
      simp only [List.map_cons, List.cons.injEq, Prod.mk.injEq] at h
      obtain ⟨⟨h1, h2⟩, h3⟩ := h
      have hq := heq p.1
      rw [← h1] at hq
      by_cases hp : a = p.1
      · refine .inr ⟨0, e.val, ?_, ?_⟩
        · rw [decide_eq_true hp] at hq
          simp [Instr.findAsking, Sem.run_bind, hq]
        · simp [hp, h2]
      · rcases finds_asking heq es r (i + 1) h3 with ⟨h4, h5⟩ | ⟨j, u, h4, h5⟩
        · refine .inl ⟨by simp [Instr.findAsking, Sem.run_bind, hq, hp, h4], fun q hm => ?_⟩
          rcases List.mem_cons.1 hm with rfl | hm
          · exact fun e => hp e.symm
          · exact h5 q hm
        · refine .inr ⟨j + 1, u, ?_, by simpa using h5⟩
          rw [show i + (j + 1) = i + 1 + j by omega]
          simp [Instr.findAsking, Sem.run_bind, hq, hp, h4]
theorem finds_wide [DecidableEq κ] {kt : TypeId} (hwide : (match P.underlying kt with | some (.array _ _) | some (.struct _) => true | _ => false) = true) (heq : ∀ a b w, (Op.equal kt (enc a) (enc b)).run P w = .ok (decide (a = b)) w)
    (l : List (κ × Value)) (es : List MapEntry) (a : κ) (w : World) (h : es.map (fun e => (e.key, e.val)) = l.map (fun p => (enc p.1, p.2))) : Finds P kt enc l es a w := by
  unfold Finds
  rw [run_findKey_eq w hwide]
  rcases finds_asking (fun b => heq a b w) es l 0 h with h | ⟨j, u, h1, h2⟩
  · exact .inl h
  · exact .inr ⟨j, u, by rw [h1, Nat.zero_add], h2⟩
theorem LR.makeMapK [h : KMap P T enc ok zv] (hd : Nat.blt d n = true) (k : ∀ b, LR false P n ops rest Q (upd f d (.map (some b))) (St w0 F (kmap enc b [] :: L))) :
    LR false P n ops (⟨some d, .makeMap T none, T', p, af, none⟩ :: rest) Q f (St w0 F L) := by
  intro w hw a ha
  refine wpList_plain rfl fun K hK => ?_
  have hr : (execOp a.eval ⟨some d, .makeMap T none, T', p, af, none⟩).run P w = .ok (.value (.map (some w.heap.size))) { w with heap := w.heap.push (.map #[] 0) } := by
    simp [execOp, Instr.makeMap, newObj, Sem.run]
  simp only [Oper.wp, hr, Oper.upon_value]
  refine hK _ _ (k w.heap.size _ ?_ _ (ha.put _ hd))
  have h1 := hw.alloc (.map #[] 0)
  refine h1.turn (Sel.head _ _ _) rfl (St.refl _ _) ?_ (fun k hk => .inl hk) (kmap.dep _ _)
  exact ⟨#[], 0, h1.own_at (List.Mem.head _), rfl⟩
theorem Ev.lookup_no {b : Nat} {l : List (κ × Value)} {a : κ} [h : KMap P T enc ok zv] (hx : f.ev x = .map (some b)) (hy : f.ev y = enc a) (hm : ∀ w, C w → kmH enc b l w) (hl : ∀ p ∈ l, ok p.1) (ha : ok a) (hno : ∀ p ∈ l, p.1 ≠ a) :
    Ev P C f (.lookup T x y true) T' (.tuple [zv, .bool false].toArray) := fun w hw d p af g => by
  obtain ⟨kt, et, ht, K, hf, hz⟩ := h.ex
  obtain ⟨es, clock, hb, he⟩ : kmH enc b l w := hm w hw
  have hlx := fun em => K em a w ha
  rcases hf l es.toList a w he hl ha with ⟨h1, _⟩ | ⟨j, u, h1, h2⟩
  · simp [execOp, hx, hy, Instr.lookup, run_underlying ht, MapKept.run_getObj_map hb, hlx, h1, hz, Result.andThen]
  · exact absurd rfl (hno _ (List.mem_of_getElem? h2))
theorem Ev.lookup_yes {b : Nat} {l : List (κ × Value)} {a : κ} {u : Value} [h : KMap P T enc ok zv] (hx : f.ev x = .map (some b)) (hy : f.ev y = enc a) (hm : ∀ w, C w → kmH enc b l w) (hl : ∀ p ∈ l, ok p.1) (hd : (l.map Prod.fst).Nodup) (ha : (a, u) ∈ l) :
    Ev P C f (.lookup T x y true) T' (.tuple [u, .bool true].toArray) := fun w hw d p af g => by
  obtain ⟨kt, et, ht, K, hf, hz⟩ := h.ex
  obtain ⟨es, clock, hb, he⟩ : kmH enc b l w := hm w hw
  have hlx := fun em => K em a w (hl _ ha)
  rcases hf l es.toList a w he hl (hl _ ha) with ⟨h1, h2⟩ | ⟨j, u', h1, h2⟩
  · exact absurd rfl (h2 _ ha)
  · have hu : u' = u := by
      obtain ⟨i, hi⟩ := List.getElem?_of_mem ha
      have e1 : (l.map Prod.fst)[i]? = some a := by rw [List.getElem?_map, hi]; rfl
      have e2 : (l.map Prod.fst)[j]? = some a := by rw [List.getElem?_map, h2]; rfl
      have hi2 := (List.getElem?_eq_some_iff.1 e1).1
      have := (List.getElem?_inj hi2 hd).1 (e1.trans e2.symm)
      subst this
      rw [hi] at h2
      simpa using h2.symm
    subst hu
    simp [execOp, hx, hy, Instr.lookup, run_underlying ht, MapKept.run_getObj_map hb, hlx, h1, Result.andThen]
theorem Ev.lenK {b : Nat} {l : List (κ × Value)} [h : KMap P T' enc ok zv] (hx : f.ev x = .map (some b)) (hm : ∀ w, C w → kmH enc b l w) : Ev P C f (.call ⟨.builtin .len, [x].toArray, [T'].toArray⟩) T (.int .i64 l.length) := fun w hw d p af g => by
  obtain ⟨kt, et, ht, _⟩ := h.ex
  obtain ⟨es, clock, hb, he⟩ : kmH enc b l w := hm w hw
  have hlen : es.size = l.length := by have := congrArg List.length he; simpa using this
  simp [execOp, resolve, invoke, builtin, Builtin.len_, hx, run_underlying ht, MapKept.run_getObj_map hb, goInt, hlen]
theorem LR.insertK {b : Nat} {l : List (κ × Value)} {a : κ} [h : KMap P T enc ok zv] (hx : f.ev x = .map (some b)) (hy : f.ev y = enc a) (hz : f.ev z = v)
    (hs : Sel L (kmap enc b l) (kmap enc b (l ++ [(a, v)])) L') (hl : ∀ p ∈ l, ok p.1) (ha : ok a) (hno : ∀ p ∈ l, p.1 ≠ a)
    (k : LR false P n ops rest Q f (St w0 F L')) : LR false P n ops (⟨none, .mapUpdate T x y z, T', p, af, none⟩ :: rest) Q f (St w0 F L) := by
  intro w hw act hact
  refine wpList_plain rfl fun K' hK => ?_
  obtain ⟨kt, et, ht, K, hf, _⟩ := h.ex
  obtain ⟨es, clock, hb, he⟩ : kmH enc b l w := (hw.holds _ hs.mem)
  have hlx := fun em => K em a w ha
  rcases hf l es.toList a w he hl ha with ⟨h1, _⟩ | ⟨j, u, h1, h2⟩
  · have hr : (execOp act.eval ⟨none, .mapUpdate T x y z, T', p, af, none⟩).run P w = .ok .skip { w with heap := w.heap.setIfInBounds b (.map (es.push ⟨enc a, v, clock⟩) (clock + 1)) } := by
      rw [hact.eval]
      simp only [execOp, hx, hy, hz, Instr.mapUpdate, Sem.run_bind, run_underlying ht, Result.andThen_ok, MapKept.run_getObj_map hb, hlx, h1, MapKept.run_setObj_map _ hb, Sem.run_pure]
    simp only [Oper.wp, hr, Oper.upon_skip]
    have hsz : b < w.heap.size := (Array.getElem?_eq_some_iff.1 hb).1
    refine hK _ _ (k _ ?_ _ (hact.put_none undef))
    exact hw.turn hs rfl (Keep.setObj w b _ rfl) ⟨es.push ⟨enc a, v, clock⟩, clock + 1, by show (w.heap.setIfInBounds b _)[b]? = _; simp [hsz], by simp [he]⟩ (fun k hk => .inl hk) (kmap.dep _ _)
  · exact absurd rfl (hno _ (List.mem_of_getElem? h2))
theorem LR.deleteK [DecidableEq κ] {b : Nat} {l : List (κ × Value)} {a : κ} {K1 : TypeId} [h : KMap P T enc ok zv] (hu : (match P.underlying T with | some (.map k _) => Nat.beq k K1 | _ => false) = true) (hx : f.ev x = .map (some b)) (hy : f.ev y = enc a)
    (hs : Sel L (kmap enc b l) (kmap enc b (l.filter fun p => decide (p.1 ≠ a))) L') (hl : ∀ p ∈ l, ok p.1) (hnd : (l.map Prod.fst).Nodup) (ha : ok a)
    (k : LR false P n ops rest Q f (St w0 F L')) : LR false P n ops (⟨none, .call ⟨.builtin .delete, [x, y].toArray, [T, K1].toArray⟩, T', p, af, none⟩ :: rest) Q f (St w0 F L) := by
  intro w hw act hact
  refine wpList_plain rfl fun K' hK => ?_
  obtain ⟨kt, et, ht, K, hf, _⟩ := h.ex
  obtain ⟨es, clock, hb, he⟩ : kmH enc b l w := (hw.holds _ hs.mem)
  have hlx := fun em => K em a w ha
  have hsz : b < w.heap.size := (Array.getElem?_eq_some_iff.1 hb).1
  have fin : ∀ es', es'.toList.map (fun e => (e.key, e.val)) = (l.filter fun p => decide (p.1 ≠ a)).map (fun p => (enc p.1, p.2)) → (Builtin.delete_ #[T, K1] T' #[.map (some b), enc a]).run P w = .ok (.tuple #[]) { w with heap := w.heap.setIfInBounds b (.map es' clock) } →
      (⟨none, .call ⟨.builtin .delete, [x, y].toArray, [T, K1].toArray⟩, T', p, af, none⟩ : Oper).wp P act w K' (lift n Q) := by
    intro es' he' hr
    have hr' : (execOp act.eval ⟨none, .call ⟨.builtin .delete, [x, y].toArray, [T, K1].toArray⟩, T', p, af, none⟩).run P w = .ok (.value (.tuple #[])) { w with heap := w.heap.setIfInBounds b (.map es' clock) } := by
      rw [hact.eval]
      simp only [execOp, resolve, invoke, builtin, Sem.run_bind, Sem.run_pure, Result.andThen_ok, List.map_toArray, List.map_cons, List.map_nil, hx, hy, hr]
    simp only [Oper.wp, hr', Oper.upon_value]
    refine hK _ _ (k _ ?_ _ (hact.put_none _))
    exact hw.turn hs rfl (Keep.setObj w b _ rfl) ⟨es', clock, by show (w.heap.setIfInBounds b _)[b]? = _; simp [hsz], he'⟩ (fun k hk => .inl hk) (kmap.dep _ _)
  rcases hf l es.toList a w he hl ha with ⟨h1, h2⟩ | ⟨j, u, h1, h2⟩
  · refine fin es ?_ ?_
    · rw [List.filter_eq_self.2 (fun p hp => by simpa using h2 p hp), he]
    · simp [Builtin.delete_, run_underlying ht, MapKept.run_getObj_map hb, hlx, h1, MapKept.run_setObj_map _ hb, Result.andThen]
  · have hlen : es.toList.length = l.length := by have := congrArg List.length he; simpa using this
    have hj : j < l.length := (List.getElem?_eq_some_iff.1 h2).1
    have hjs : j < es.size := by rw [← Array.length_toList, hlen]; exact hj
    refine fin (es.eraseIdxIfInBounds j) ?_ ?_
    · have hsub : (es.eraseIdxIfInBounds j).toList = es.toList.eraseIdx j := by
        unfold Array.eraseIdxIfInBounds
        rw [dif_pos hjs]
        simp
      have hf := ChangeMaps.filter_eq_eraseIdx (fun p : κ × Value => decide (p.1 = a)) l j (a, u) h2 (by simp) (by
        rw [List.nodup_iff_pairwise_ne, List.pairwise_map] at hnd
        exact hnd.imp (fun {p q} hpq ⟨e1, e2⟩ => hpq (by simp at e1 e2; rw [e1, e2])))
      rw [hsub, ChangeMaps.map_eraseIdx, he, ← ChangeMaps.map_eraseIdx, ← hf]
      congr 1
      refine List.filter_congr fun p _ => ?_
      simp
    · simp [Builtin.delete_, run_underlying ht, MapKept.run_getObj_map hb, hlx, h1, MapKept.run_setObj_map _ hb, Result.andThen]
end
end Go.Hb

namespace Go.Hb
section
variable {w0 w : World} {F : Nat → Prop} {L L' : List Asrt}
def ownsAt (w : World) (E : TypeId) (sz : Nat) (v : Value) (n : Nat) (xs : List Value) : Prop :=
  xs.length = n * sz ∧ ((v = .slice none 0 0 ∧ n = 0) ∨
   ∃ g o cap cur, v = .slice (some ⟨g, o, none⟩) n cap ∧ w.heap[g]? = some (.cells cur E (0, 0)) ∧ n ≤ cap ∧ cap ≤ maxLen ∧ o + cap * sz ≤ cur.size ∧ (cur.toList.drop o).take (n * sz) = xs)
/-- The slice v of n elements is one's own, wherever it begins. -/
def odl (v : Value) (E : TypeId) (sz n : Nat) (xs : List Value) : Asrt := .ex (fun k => v.ownBlock = some k) (fun w => ownsAt w E sz v n xs)
theorem odl.dep (v : Value) (E : TypeId) (sz n : Nat) (xs : List Value) : (odl v E sz n xs).dep := by
  intro w w' hk h
  refine ⟨h.1, ?_⟩
  rcases h.2 with hn | ⟨g, o, cap, cur, rfl, hg, r⟩
  · exact .inl hn
  · refine .inr ⟨g, o, cap, cur, rfl, ?_, r⟩
    rw [hk g rfl]; exact hg
theorem ownsAt_of {E : TypeId} {sz n base : Nat} {v : Value} {xs : List Value} (h : w.ownsRow base E sz v n xs) : ownsAt w E sz v n xs := by
  refine ⟨h.1, ?_⟩
  rcases h.2 with hn | ⟨g, cap, cur, rfl, hb, hg, h1, h2, h3, h4⟩
  · exact .inl hn
  · exact .inr ⟨g, 0, cap, cur, rfl, hg, h1, h2, by omega, h4⟩
theorem ownsAt_rd {E : TypeId} {sz n c : Nat} {a : Option Addr} {xs : List Value} (h : ownsAt w E sz (.slice a n c) n xs) : Rd w a xs := by
  intro j v hj
  rcases h.2 with ⟨he, hn⟩ | ⟨g, o, cap, cur, he, hg, h1, h2, h3, h4⟩
  · subst hn
    have := h.1
    simp only [Nat.zero_mul] at this
    rw [List.eq_nil_of_length_eq_zero this] at hj; simp at hj
  · simp only [Value.slice.injEq] at he
    obtain ⟨rfl, _, rfl⟩ := he
    refine ⟨_, rfl, ?_⟩
    rw [addr_add, cell_own hg]
    rw [← h4, List.getElem?_take] at hj
    split at hj
    · rw [List.getElem?_drop] at hj
      simpa using hj
    · cases hj
theorem ownsAt_drop {E : TypeId} {sz k c l : Nat} {a : Option Addr} {xs : List Value} (h : ownsAt w E sz (.slice a k c) k xs) (hl : l ≤ k) :
    ownsAt w E sz (.slice (subA a c l sz) (k - l) (c - l)) (k - l) (xs.drop (l * sz)) := by
  refine ⟨by rw [List.length_drop, h.1, Nat.sub_mul], ?_⟩
  rcases h.2 with ⟨he, hn⟩ | ⟨g, o, cap, cur, he, hg, h1, h2, h3, h4⟩
  · simp only [Value.slice.injEq] at he
    obtain ⟨rfl, _, rfl⟩ := he
    subst hn
    left
    refine ⟨?_, by omega⟩
    unfold subA
    simp
  · simp only [Value.slice.injEq] at he
    obtain ⟨rfl, _, rfl⟩ := he
    right
    by_cases hc : c = l
    · refine ⟨g, o, c - l, cur, by simp [subA, hc], hg, by omega, by omega, by rw [hc, Nat.sub_self]; omega, ?_⟩
      rw [show k - l = 0 by omega, Nat.zero_mul, List.take_zero, List.drop_of_length_le (by rw [h.1, show k = l by omega]; exact Nat.le_refl _)]
    · have hm : l * sz + (c - l) * sz = c * sz := by rw [← Nat.add_mul]; congr 1; omega
      refine ⟨g, o + l * sz, c - l, cur, ?_, hg, by omega, by omega, by omega, ?_⟩
      · unfold subA
        rw [if_neg hc]
        show Value.slice (some ((⟨g, o, none⟩ : Addr).add (l * sz))) _ _ = _
        rw [addr_add]
      · rw [← h4, List.drop_take, List.drop_drop, Nat.sub_mul]
theorem St.osl_odl {E : TypeId} {sz n : Nat} {v : Value} {xs : List Value} (h : St w0 F L w) (hs : Sel L (osl v E sz n xs) (odl v E sz n xs) L') : St w0 F L' w :=
  h.turn hs rfl (St.refl w _) (ownsAt_of (h.holds _ hs.mem)) (fun _ hk => .inl hk) (odl.dep _ _ _ _ _)
theorem St.odl_drop {E : TypeId} {sz k c l : Nat} {a : Option Addr} {xs : List Value} (h : St w0 F L w) (hs : Sel L (odl (.slice a k c) E sz k xs) (odl (.slice (subA a c l sz) (k - l) (c - l)) E sz (k - l) (xs.drop (l * sz))) L') (hl : l ≤ k) : St w0 F L' w := by
  refine h.turn hs rfl (St.refl w _) (ownsAt_drop (h.holds _ hs.mem) hl) (fun j hj => .inl ?_) (odl.dep _ _ _ _ _)
  have hj : (Value.slice (subA a c l sz) (k - l) (c - l)).ownBlock = some j := hj
  show (Value.slice a k c).ownBlock = some j
  unfold subA at hj
  split at hj
  · cases a <;> exact hj
  · cases a with
    | none => cases hj
    | some ad =>
      have : (ad.add (l * sz)).block = ad.block := addr_add_block _ _
      simp only [Option.map_some, Value.ownBlock, this] at hj
      exact hj
theorem St.odl_foot {a : Option Addr} {n c : Nat} {E sz : Nat} {xs : List Value} {k : Nat} (h : rdFoot a xs k) : (odl (.slice a n c) E sz n xs).foot k := by
  obtain ⟨_, ad, rfl, rfl⟩ := h; rfl
theorem St.rd_of_odl {n : Nat} {E : TypeId} {sz c : Nat} {a : Option Addr} {xs : List Value} (h : St w0 F L w) (hm : odl (.slice a n c) E sz n xs ∈ L) : Rd w a xs := ownsAt_rd (h.holds _ hm)
theorem ownsAt_some {a : Option Addr} {c n E sz : Nat} {xs : List Value} (h : ownsAt w E sz (.slice a n c) n xs) : a = none → n = 0 ∧ c = 0 := by
  intro ha; subst ha
  rcases h.2 with ⟨he, hn⟩ | ⟨g, o, cap, cur, he, _⟩
  · simp only [Value.slice.injEq] at he; exact ⟨hn, he.2.2⟩
  · simp at he
theorem odl_form {E : TypeId} {sz n : Nat} {v : Value} {xs : List Value} (h : ownsAt w E sz v n xs) : ∃ a c, v = .slice a n c := by
  rcases h.2 with ⟨rfl, rfl⟩ | ⟨g, o, cap, cur, rfl, _⟩
  · exact ⟨_, _, rfl⟩
  · exact ⟨_, _, rfl⟩
end
section
variable {P : Program} {f : Frm} {T T' : TypeId} {s x y : Operand} {v : Value} {w0 : World} {F : Nat → Prop} {L : List Asrt} {C : World → Prop}
variable {n : Nat} {ops rest : List Oper} {Q : Post} {p : String} {af : Array Edge} {d : Nat}
theorem run_append_in (w : World) (t tx ty e : TypeId) (i : TypeInfo) (ht : P.underlying t = some (.slice e)) (hi : P.info? e = some i) (b off sLen sCap : Nat) (cur : Array Value) (x : Value) (n : Nat) (news : List Value) (hs : Src P i.size tx x n news w)
    (hg : w.heap[b]? = some (.cells cur e (0, 0))) (hroom : sLen + n ≤ sCap) (hfit : off + sLen * i.size + news.length ≤ cur.size) :
    (Builtin.append_ #[t, tx] ty #[.slice (some ⟨b, off, none⟩) sLen sCap, x]).run P w = .ok (.slice (some ⟨b, off, none⟩) (sLen + n) sCap) (w.setRow b (splice cur.toList (off + sLen * i.size) news).toArray) := by
  have hst := run_storeCells_at P b (off + sLen * i.size) e news 0 cur w hg (by simpa using hfit) hs.one
  simp only [Nat.add_zero] at hst
  rcases hs.kind with ⟨e', hk⟩ | hk <;> simp [Builtin.append_, run_underlying ht, run_underlying hk, sizeOf, typeInfo, hi, hs.len, hroom, hs.cells, Addr.add_lit, hst, splice]
/-- append, as it runs, to a slice of one's own that may begin inside its block. -/
theorem run_append_odl {E : TypeId} {sz by_ : Nat} (h : SliceOf P T E sz by_) (w : World) (ty : TypeId) {n m cx : Nat} {ax : Option Addr} {xs news : List Value} (hown : ownsAt w E sz v n xs)
    (hrd : Rd w ax news) (hnone : ax = none → m = 0 ∧ cx = 0) (hl : news.length = m * sz) (h1 : news.all Value.oneCell' = true) (hbytes : (n + m) * by_ ≤ 140737488355328) (hmax : n + m ≤ maxLen) :
    ∃ v' w', (Builtin.append_ #[T, T] ty #[v, .slice ax m cx]).run P w = .ok v' w' ∧ ownsAt w' E sz v' (n + m) (xs ++ news) ∧ w.grownBy w' v.ownBlock ∧
      (∀ k, v'.ownBlock = some k → v.ownBlock = some k ∨ (w.heap.size ≤ k ∧ k < w'.heap.size)) := by
  rcases hown.2 with ⟨rfl, rfl⟩ | ⟨g, o, cap, cur, rfl, hg, hnc, hcm, hcs, htake⟩
  · have hx : xs = [] := List.eq_nil_of_length_eq_zero (by simpa using hown.1)
    subst hx
    obtain ⟨v', w', a1, a2, a3, _, a5⟩ := run_append_any (P := P) h w ty (v := .slice none 0 0) (n := 0) (World.ownsRow_nil w 0 E sz) hrd hnone hl h1 hbytes hmax
    exact ⟨v', w', a1, ownsAt_of a2, a3, a5⟩
  · have hinf := h.inf
    obtain ⟨z, hz, hzs⟩ := h.zero
    cases hi : P.info? E with
    | none => simp [hi] at hinf
    | some inf =>
      simp only [hi, Option.map_some, Option.some.injEq, Prod.mk.injEq] at hinf
      simp only [hi, Option.bind_some] at hz
      obtain ⟨rfl, rfl⟩ := hinf
      have h1' : ∀ u ∈ news, u.oneCell' = true := fun u hu => List.all_eq_true.1 h1 u hu
      have hsrc : Src P inf.size T (.slice ax m cx) m news w := by
        cases ax with
        | none =>
          obtain ⟨rfl, rfl⟩ := hnone rfl
          have hn : news = [] := List.eq_nil_of_length_eq_zero (by simpa using hl)
          subst hn
          exact Src.ofNil w h.und 0
        | some ad =>
          exact Src.ofSlice w h.und ad m cx news hl (fun j u hj => by obtain ⟨ad', ha', hc⟩ := hrd j u hj; cases ha'; exact hc) h1'
      have hlen : (xs ++ news).length = (n + m) * inf.size := by rw [List.length_append, hown.1, hl, Nat.add_mul]
      by_cases hroom : n + m ≤ cap
      · have hm : n * inf.size + m * inf.size ≤ cap * inf.size := by rw [← Nat.add_mul]; exact Nat.mul_le_mul_right _ hroom
        have hr := run_append_in w T T ty E inf h.und hi g o n cap cur (.slice ax m cx) m news hsrc hg hroom (by omega)
        refine ⟨_, _, hr, ⟨hlen, .inr ⟨g, o, cap, _, rfl, setRow_heap w g cur _ E _ hg, hroom, hcm, ?_, ?_⟩⟩, ⟨rfl, rfl, rfl, by simp, fun k _ hk => setRow_other w g k _ (fun e => hk (by simp [Value.ownBlock, e]))⟩, fun k hk => .inl hk⟩
        · simp only [splice, List.size_toArray, List.length_append, List.length_take, List.length_drop, Array.length_toList]
          omega
        · have e1 : (splice cur.toList (o + n * inf.size) news).drop o = (cur.toList.drop o).take (n * inf.size) ++ news ++ cur.toList.drop (o + n * inf.size + news.length) := by
            unfold splice
            rw [List.append_assoc, List.drop_append, List.drop_take, List.length_take, Array.length_toList]
            rw [show o + n * inf.size - o = n * inf.size by omega, show o - min (o + n * inf.size) cur.size = 0 by omega, List.drop_zero, List.append_assoc]
          show ((splice cur.toList (o + n * inf.size) news).drop o).take ((n + m) * inf.size) = xs ++ news
          rw [e1, htake, ← hlen]
          exact List.take_left
      · have hx63 : n + m ≤ 9223372036854775807 := by simp only [maxLen] at hmax; omega
        have holds : ∀ j u, xs[j]? = some u → w.drew.cell? ((⟨g, o, none⟩ : Addr).add j) = some u := fun j u hj => by
          obtain ⟨ad, he, hc⟩ := ownsAt_rd hown j u hj
          cases he; exact hc
        have hr := run_append_grow_src (P := P) w T T ty E inf z h.und hi hz (some ⟨g, o, none⟩) n cap xs (run_firstCells_some w.drew inf.size n ⟨g, o, none⟩ n cap xs hown.1 holds) (.slice ax m cx) m news hsrc (by omega) (by omega) (growslice_fits (by omega) hbytes)
        have hge := grownCap_ge w (n + m) cap E
        have hcm2 : grownCap w (n + m) cap E ≤ maxLen := grownCap_le_maxLen w (n + m) cap E hmax
        refine ⟨_, _, hr, ⟨hlen, .inr ⟨w.heap.size, 0, _, _, rfl, heap_alloc_new w.drew _, hge, hcm2, ?_, ?_⟩⟩, ⟨rfl, rfl, rfl, by simp, fun k hk _ => by first | exact heap_alloc_old w.drew _ hk | exact heap_alloc_old w.drew _ k hk⟩, ?_⟩
        · simp only [Array.size_append, List.size_toArray, size_zeroCells, hzs, hlen, Nat.zero_add, ← Nat.add_mul]
          exact Nat.le_of_eq (congrArg (· * _) (by omega))
        · simp only [Array.toList_append, List.drop_zero]
          rw [← hlen]
          exact List.take_left
        · intro k hk
          simp only [Value.ownBlock, Option.some.injEq] at hk
          subst hk
          exact .inr ⟨Nat.le_refl _, by simp⟩
/-- append to a slice of one's own that may begin inside its block. -/
theorem LR.append_odl {E : TypeId} {sz by_ k c m cx : Nat} {a ax : Option Addr} {xs news : List Value} {L' : Option Addr → Nat → List Asrt} [h : SliceOf P T E sz by_]
    (hs : f.ev s = .slice a k c) (hx : f.ev x = .slice ax m cx) (hsel : ∀ a' c', Sel L (odl (.slice a k c) E sz k xs) (odl (.slice a' (k + m) c') E sz (k + m) (xs ++ news)) (L' a' c'))
    (hrd : ∀ w, St w0 F L w → Rd w ax news) (hnone : ax = none → m = 0 ∧ cx = 0) (hl : news.length = m * sz) (h1 : news.all Value.oneCell' = true) (hbytes : (k + m) * by_ ≤ 140737488355328) (hmax : k + m ≤ maxLen) (hd : Nat.blt d n = true)
    (kk : ∀ a' c', LR false P n ops rest Q (upd f d (.slice a' (k + m) c')) (St w0 F (L' a' c'))) :
    LR false P n ops (⟨some d, .call ⟨.builtin .append, [s, x].toArray, [T, T].toArray⟩, T', p, af, none⟩ :: rest) Q f (St w0 F L) := by
  intro w hw b hb
  refine wpList_plain rfl fun K hK => ?_
  have hown : ownsAt w E sz (.slice a k c) k xs := hw.holds _ (hsel none 0).mem
  obtain ⟨v', w', hr, ho, hg, hblk⟩ := run_append_odl (P := P) h w T' hown (hrd w hw) hnone hl h1 hbytes hmax
  obtain ⟨a', c', rfl⟩ := odl_form ho
  have hr' := run_builtin_append (P := P) (T' := T') (dst := some d) (p := p) (af := af) (g := none) hs hx hr
  rw [← hb.eval] at hr'
  simp only [Oper.wp, hr', Oper.upon_value]
  refine hK _ _ (kk a' c' w' ?_ _ (hb.put _ hd))
  exact hw.turn (hsel a' c') rfl (keep_of_grown hg fun k hk => hk) ho (fun k hk => hblk k hk) (odl.dep _ _ _ _ _)
end
/-! ### bundles, joined -/
section
variable {α : Type} {f : α → Asrt} {w0 w : World} {F : Nat → Prop} {R : List Asrt} {x : α} {l r : List α}
theorem St.bun_append (hd : ∀ x, (f x).dep) (h : St w0 F (bun f l :: bun f r :: R) w) : St w0 F (bun f (l ++ r) :: R) w := by
  obtain ⟨b1, b2, b3⟩ : (bun f l).holds w := h.g0
  obtain ⟨c1, c2, c3⟩ : (bun f r).holds w := h.g1
  have hdis := (List.pairwise_cons.1 h.dis).1 (bun f r) (by simp) rfl
  refine h.merge rfl rfl ⟨?_, ?_, ?_⟩ ?_ (bun_dep hd _)
  · intro y hy
    rcases List.mem_append.1 hy with hy | hy
    · exact b1 y hy
    · exact c1 y hy
  · exact List.pairwise_append.2 ⟨b2, c2, fun a ha b hb k hk hk2 => hdis k ⟨a, ha, hk⟩ ⟨b, hb, hk2⟩⟩
  · rintro k ⟨y, hy, hk⟩
    rcases List.mem_append.1 hy with hy | hy
    · exact b3 k ⟨y, hy, hk⟩
    · exact c3 k ⟨y, hy, hk⟩
  · rintro k ⟨y, hy, hk⟩
    rcases List.mem_append.1 hy with hy | hy
    · exact .inl ⟨y, hy, hk⟩
    · exact .inr ⟨y, hy, hk⟩
theorem St.bun_perm (hd : ∀ x, (f x).dep) (hp : l.Perm r) (h : St w0 F (bun f l :: R) w) : St w0 F (bun f r :: R) w := by
  obtain ⟨b1, b2, b3⟩ : (bun f l).holds w := h.g0
  refine h.turn (sH _ _ _) rfl (St.refl w _) ⟨fun x hx => b1 x (hp.mem_iff.2 hx), (hp.pairwise_iff (fun {x y} hxy k hk hk2 => hxy k hk2 hk)).1 b2, fun k ⟨x, hx, hk⟩ => b3 k ⟨x, hp.mem_iff.2 hx, hk⟩⟩ (fun k ⟨x, hx, hk⟩ => .inl ⟨x, hp.mem_iff.2 hx, hk⟩) (bun_dep hd _)
theorem St.bun_pick {q : List α} (hd : ∀ x, (f x).dep) (h : St w0 F (bun f (l ++ x :: q) :: R) w) : St w0 F (f x :: bun f (l ++ q) :: R) w := St.bun_head hd (St.bun_perm hd List.perm_middle h)
theorem St.bun_put {q : List α} (hd : ∀ x, (f x).dep) (he : ∀ x, (f x).excl = true) (h : St w0 F (f x :: bun f (l ++ q) :: R) w) : St w0 F (bun f (l ++ x :: q) :: R) w :=
  St.bun_perm hd ((List.perm_append_singleton x (l ++ q)).trans List.perm_middle.symm) (St.bun_snoc hd he h)
end
/-! ### stores into a slice that may begin inside its block -/
theorem splice_take {D vs : List Value} {i N : Nat} (h : i + vs.length ≤ N) (hN : N ≤ D.length) : (splice D i vs).take N = splice (D.take N) i vs := by
  have e2 : splice D i vs = splice (D.take N) i vs ++ D.drop N := by
    have e3 : D = D.take N ++ D.drop N := (List.take_append_drop N D).symm
    have hl : (D.take N).length = N := by simp; omega
    conv => lhs; rw [e3]
    unfold splice
    rw [List.take_append_of_le_length (by omega), List.drop_append_of_le_length (by omega)]
    simp
  have e4 : (splice (D.take N) i vs).length = N := by simp [splice]; omega
  rw [e2, List.take_append_of_le_length (by omega), List.take_of_length_le (by omega)]
theorem splice_drop {D vs : List Value} {o i : Nat} (h : o + i ≤ D.length) : (splice D (o + i) vs).drop o = splice (D.drop o) i vs := by
  unfold splice
  rw [List.append_assoc, List.drop_append, List.drop_take, List.length_take, show o - min (o + i) D.length = 0 by omega, List.drop_zero, show o + i - o = i by omega, List.drop_drop, List.append_assoc, Nat.add_assoc]
theorem Stores.odl {P : Program} {T : TypeId} {q b o i n c : Nat} {v : Value} {vs xs : List Value} {E : TypeId} {sz : Nat} (h : Sz P T q) (hv : v.cells = vs.toArray) (h1 : vs.all Value.oneCell' = true) (hm : vs.length = q) (hb : i + vs.length ≤ xs.length) :
    Stores P T ⟨b, o + i, none⟩ v (odl (.slice (some ⟨b, o, none⟩) n c) E sz n xs) (odl (.slice (some ⟨b, o, none⟩) n c) E sz n (splice xs i vs)) := by
  intro w hw
  have hw' : ownsAt w E sz (.slice (some ⟨b, o, none⟩) n c) n xs := hw
  obtain ⟨hl, hr⟩ := hw'
  rcases hr with ⟨he, _⟩ | ⟨g, o', cap, cur, he, hg, hnc, hcm, hcs, htake⟩
  · cases he
  simp only [Value.slice.injEq, Option.some.injEq, Addr.mk.injEq, and_true, true_and] at he
  obtain ⟨⟨rfl, rfl⟩, rfl⟩ := he
  have hmul : n * sz ≤ c * sz := Nat.mul_le_mul_right _ hnc
  have hg' : w.heap[b]? = some (.cells cur.toList.toArray E (0, 0)) := by simpa using hg
  have hsz : cur.toList.length = cur.size := Array.length_toList
  have hrun := run_storeVar (P := P) h w b (o + i) v vs cur.toList E hv hm hg' (by omega) h1
  refine ⟨_, hrun, ⟨Keep.setRow w b _ _ E hg' rfl, ?_, fun k hk => .inl hk⟩⟩
  refine ⟨by simp [splice]; omega, .inr ⟨b, o, c, (splice cur.toList (o + i) vs).toArray, rfl, setRow_heap w b _ _ E (0, 0) hg', hnc, hcm, ?_, ?_⟩⟩
  · simp [splice]; omega
  · show ((splice cur.toList (o + i) vs).drop o).take (n * sz) = splice xs i vs
    rw [splice_drop (by omega), splice_take (by omega) (by simp; omega), htake]
end Go.Hb

namespace Go.Hb
section
variable {P : Program} {md : Region.Mode} {ops : Array Oper} {Q Q' : Exit → Act → World → Prop} {z : Nat}
theorem oper_only (hN : ∀ e a w, Q' e a w → e = .normal) {o : Oper} {a : Act} {w : World} {K K' : Act → World → Prop} (hk : ∀ a w, K a w → K' a w) (h : o.wp P a w K Q') : o.wp P a w K' Q := by
  unfold Oper.wp at *
  generalize (execOp a.eval o).run P w = r at *
  cases r with
  | ok nx w' =>
    cases nx <;> simp only [Oper.upon] at h ⊢
    case value => exact hk _ _ h
    case skip => exact hk _ _ h
    case defer => exact hk _ _ h
    case enter g args =>
      refine Calls.mono h fun e w'' he => ?_
      cases e with
      | returned u => exact hk _ _ he
      | panicked c => cases hN _ _ _ he
      | outgrown => obtain ⟨_, _, he⟩ := he; cases hN _ _ _ he
    case row => exact Rows.mono h (fun _ _ he => hk _ _ he)
  | halt x w' =>
    cases x <;> simp only [Oper.upon] at h ⊢
    case panic => cases hN _ _ _ h
theorem wpOp_only (hN : ∀ e a w, Q' e a w → e = .normal) {i : Nat} {a : Act} {w : World} {K K' : Act → World → Prop} (hk : ∀ a w, K a w → K' a w) (h : wpOp P ops Q' i K a w) : wpOp P ops Q i K' a w := by
  unfold wpOp at *
  cases ho : ops[i]? with
  | none => simp only [ho] at h; exact hk _ _ h
  | some o =>
    simp only [ho] at h ⊢
    split
    · rename_i hw
      rw [if_pos hw] at h
      rcases h with h | ⟨_, a', w', he⟩
      · exact .inl (oper_only hN hk h)
      · cases hN _ _ _ he
    · rename_i hw
      rw [if_neg hw] at h
      exact hk _ _ h
/-- Every other operation is waited for, and nothing waits for z: so z comes last. -/
structure Sink (md : Region.Mode) (ops : Array Oper) (z : Nat) : Prop where
  deps : ∀ (j : Nat) (o : Oper), ops[j]? = some o → ∀ e ∈ o.after, Region.binds md e = true → e.on ≠ z ∧ e.on < j
  all : ∀ i, i < ops.size → i ≠ z → ∃ (j : Nat) (o : Oper), ops[j]? = some o ∧ ∃ e ∈ o.after, Region.binds md e = true ∧ e.on = i
  lt : z < ops.size
theorem getD_tf {listed : Array Bool} {i : Nat} (h : listed.getD i false = true) : listed.getD i true = true := by
  rcases Nat.lt_or_ge i listed.size with h' | h'
  · simp [h'] at h ⊢; exact h
  · simp [Array.getElem?_eq_none h'] at h
theorem getD_set_self {listed : Array Bool} {i : Nat} (h : i < listed.size) : (listed.setIfInBounds i true).getD i true = true := by simp [h]
def Closed (md : Region.Mode) (ops : Array Oper) (z : Nat) (listed : Array Bool) : Prop := ∀ (j : Nat) (o : Oper), ops[j]? = some o → j ≠ z → listed.getD j false = true → ∀ e ∈ o.after, Region.binds md e = true → listed.getD e.on false = true
theorem Sink.before (hs : Sink md ops z) {listed : Array Bool} (hc : Closed md ops z listed) (hz : z ∈ Region.ready md ops listed) : ∀ d k, ops.size - k ≤ d → k < ops.size → k ≠ z → listed.getD k false = true := by
  intro d
  induction d with
  | zero => intro k hd hk; omega
  | succ d ih =>
    intro k hd hk hkz
    obtain ⟨j, o, ho, e, he, hb, rfl⟩ := hs.all k hk hkz
    have hj : j < ops.size := (Array.getElem?_eq_some_iff.1 ho).1
    have hlt := (hs.deps j o ho e he hb).2
    by_cases hjz : j = z
    · subst hjz
      obtain ⟨_, o', ho', hd'⟩ := mem_ready.1 hz
      rw [ho] at ho'; cases ho'
      exact hd' e he hb
    · exact hc j o ho hjz (ih j (by omega) hj hjz) e he hb
theorem any_ready (hs : Sink md ops z) {listed : Array Bool} : ∀ i, i ≠ z → (i ∈ Region.ready md ops listed ↔ i ∈ Region.ready md ops (listed.setIfInBounds z true)) := by
  intro i hi
  rw [mem_ready, mem_ready]
  constructor
  · rintro ⟨h1, o, ho, h2⟩
    exact ⟨by rw [getD_set_ne true (Ne.symm hi)]; exact h1, o, ho, fun e he hb => getD_set_true (h2 e he hb)⟩
  · rintro ⟨h1, o, ho, h2⟩
    refine ⟨by rw [getD_set_ne true (Ne.symm hi)] at h1; exact h1, o, ho, fun e he hb => ?_⟩
    have := h2 e he hb
    rwa [getD_set_ne false (Ne.symm (hs.deps i o ho e he hb).1)] at this
theorem any_sink_end (hs : Sink md ops z) (hN : ∀ e a w, Q' e a w → e = .normal) (hK : ∀ a w, Q' .normal a w → wpOp P ops Q z (Q .normal) a w) {listed : Array Bool} {a : Act} {w : World} (hsz : listed.size = ops.size) (hlz : listed.getD z true = false)
    (hr : Region.ready md ops (listed.setIfInBounds z true) = []) (hq : Q' .normal a w) (fuel : Nat) : wpAny P md ops Q (fuel + 1) listed a w := by
  have hR := any_ready hs (listed := listed)
  have hall : ∀ k i, i < k → i < ops.size → i ≠ z → listed.getD i false = true := by
    intro k
    induction k with
    | zero => intro i hi; omega
    | succ k ih =>
      intro i hik hi hiz
      cases hx : listed.getD i false with
      | true => rfl
      | false =>
        have : i ∈ Region.ready md ops (listed.setIfInBounds z true) := by
          rw [← hR i hiz, mem_ready]
          have hi' : i < listed.size := hsz ▸ hi
          refine ⟨by simp [hi'] at hx ⊢; exact hx, ops[i], by simp [hi], fun e he hb => ?_⟩
          have hd := hs.deps i ops[i] (by simp [hi]) e he hb
          exact ih e.on (by omega) (by omega) hd.1
        rw [hr] at this; cases this
  have hz : z ∈ Region.ready md ops listed := by
    rw [mem_ready]
    refine ⟨hlz, ops[z]'hs.lt, by simp [hs.lt], fun e he hb => ?_⟩
    have hd := hs.deps z (ops[z]'hs.lt) (by simp [hs.lt]) e he hb
    exact hall ops.size e.on (by have := hs.lt; omega) (by have := hs.lt; omega) hd.1
  refine ⟨fun h0 => (by rw [h0] at hz; cases hz), fun i hi => ?_⟩
  have hiz : i = z := Classical.byContradiction fun hne => by
    have := (hR i hne).1 hi
    rw [hr] at this; cases this
  subst hiz
  refine wpOp_mono (fun a' w' hq' => ?_) (hK a w hq)
  cases fuel with
  | zero => exact ⟨hr, hq'⟩
  | succ f => exact ⟨fun _ => hq', by rw [hr]; simp⟩
theorem any_sink (hs : Sink md ops z) (hN : ∀ e a w, Q' e a w → e = .normal) (hK : ∀ a w, Q' .normal a w → wpOp P ops Q z (Q .normal) a w) : ∀ (fuel : Nat) (listed : Array Bool) (a : Act) (w : World), listed.size = ops.size → listed.getD z true = false → Closed md ops z listed →
    wpAny P md ops Q' fuel (listed.setIfInBounds z true) a w → wpAny P md ops Q (fuel + 1) listed a w := by
  intro fuel
  induction fuel with
  | zero =>
    intro listed a w hsz hlz hcl h
    exact any_sink_end hs hN hK hsz hlz h.1 h.2 0
  | succ fuel ih =>
    intro listed a w hsz hlz hcl h
    by_cases hr : Region.ready md ops (listed.setIfInBounds z true) = []
    · exact any_sink_end hs hN hK hsz hlz hr (h.1 hr) _
    · obtain ⟨j, hj⟩ := List.exists_mem_of_ne_nil _ hr
      have hjz : j ≠ z := by
        rintro rfl
        have := (mem_ready.1 hj).1
        rw [getD_set_self (hsz ▸ hs.lt)] at this
        cases this
      have hR := any_ready hs (listed := listed)
      refine ⟨fun h0 => ?_, fun i hi => ?_⟩
      · have := (hR j hjz).2 hj
        rw [h0] at this; cases this
      · have hiz : i ≠ z := by
          rintro rfl
          obtain ⟨hj1, oj, hoj, _⟩ := mem_ready.1 hj
          have hjlt : j < ops.size := (Array.getElem?_eq_some_iff.1 hoj).1
          have := getD_tf (hs.before hcl hi ops.size j (by omega) hjlt hjz)
          rw [getD_set_ne true (Ne.symm hjz)] at hj1
          rw [this] at hj1; cases hj1
        have hcl2 : Closed md ops z (listed.setIfInBounds i true) := by
          intro j o ho hjz hj e he hb
          by_cases hji : j = i
          · subst hji
            obtain ⟨_, o', ho', hd'⟩ := mem_ready.1 hi
            rw [ho] at ho'; cases ho'
            exact getD_set_true (hd' e he hb)
          · rw [getD_set_ne false (Ne.symm hji)] at hj
            exact getD_set_true (hcl j o ho hjz hj e he hb)
        refine wpOp_only hN (fun a' w' h' => ?_) (h.2 i ((hR i hiz).1 hi))
        refine ih _ a' w' (by simpa using hsz) (by rw [getD_set_ne true hiz]; exact hlz) hcl2 ?_
        have e : (listed.setIfInBounds i true).setIfInBounds z true = (listed.setIfInBounds z true).setIfInBounds i true := by
          exact Array.setIfInBounds_comm true true hiz
        rw [e]; exact h'
def sinkB (ops : List Oper) (z : Nat) : Bool :=
  Nat.blt z ops.length && (List.range ops.length).all fun j => match ops[j]? with
    | some o => (o.after.all fun e => !Region.binds .any e || (!Nat.beq e.on z && Nat.blt e.on j)) && (Nat.beq j z || (List.range ops.length).any fun k => Region.waitsFor .any ops.toArray k j)
    | none => false
theorem sinkB_sound {ops : List Oper} (h : sinkB ops z = true) : Sink .any ops.toArray z := by
  unfold sinkB at h
  simp only [Bool.and_eq_true] at h
  obtain ⟨h1, h2⟩ := h
  have key : ∀ j o, ops[j]? = some o → (∀ e ∈ o.after, Region.binds .any e = true → e.on ≠ z ∧ e.on < j) ∧ (j = z ∨ ∃ k, Region.waitsFor .any ops.toArray k j = true) := by
    intro j o ho
    have hj : j < ops.length := (List.getElem?_eq_some_iff.1 ho).1
    have := List.all_eq_true.1 h2 j (List.mem_range.2 hj)
    rw [ho] at this
    simp only [Bool.and_eq_true, Bool.or_eq_true] at this
    refine ⟨fun e he hb => ?_, this.2.imp Nat.eq_of_beq_eq_true (fun h => by obtain ⟨k, _, hk⟩ := List.any_eq_true.1 h; exact ⟨k, hk⟩)⟩
    have := (Array.all_eq_true_iff_forall_mem.1 this.1) e he
    simp only [hb, Bool.not_true, Bool.false_or, Bool.and_eq_true, Bool.not_eq_true'] at this
    exact ⟨fun e2 => by rw [e2] at this; simp at this, by simpa using this.2⟩
  refine ⟨fun j o ho => (key j o (by simpa using ho)).1, fun i hi hne => ?_, by simpa using h1⟩
  have hi' : i < ops.length := by simpa using hi
  rcases (key i ops[i] (by simp [hi'])).2 with e | e
  · exact (hne e).elim
  · obtain ⟨k, e⟩ := e
    obtain ⟨oj, hoj, e, he, hb, hon⟩ := Region.waitsFor_spec e
    exact ⟨k, oj, hoj, e, he, hb, hon⟩
end
section
variable {P : Program} {n : Nat} {ops : List Oper} {Q : Post} {f : Frm} {C : World → Prop}
def zpost (P : Program) (n : Nat) (ops : List Oper) (oz : Oper) (Q : Post) : Post := fun e f w => e = .normal ∧ LW P n ops [oz] Q f (fun u => u = w)
/-- A drawn region whose operation z waits for all others: these first, with S held among them, then z. -/
theorem CW.reg_sink (z : Nat) {id : Nat} {oz : Oper} (S : World → Prop) [hm : Mixed P] [hc : Drawn C] (hz : ops[z]? = some oz) (hB : sinkB ops z = true) (h : DW P n ops (zpost P n ops oz Q) [z] S f C) : CW P n (.region id ops.toArray true) Q f C := by
  intro w hw a ha
  have h1 := wpAny_of_held _ _ _ _ (h _ (hc.drew w hw) a ha)
  have hs := sinkB_sound hB
  have hlt : z < ops.length := by simpa using hs.lt
  refine wp_region_any hm.mixed ?_
  have h2 := any_sink (Q' := lift n (only fun f w => zpost P n ops oz Q .normal f w)) (Q := lift n Q) hs (fun e a w ⟨_, _, he, _⟩ => he) (fun a w ⟨f, hf, _, _, hl⟩ => by
    have h3 := hl w rfl a hf
    have ho : ops.toArray[z]? = some oz := by simpa using hz
    unfold wpOp
    simp only [ho]
    simp only [wpList] at h3
    exact h3) (ops.length - 1) (Array.replicate ops.length false) a _ (by simp) (by simp [hlt]) (fun j o ho _ hj => by
      have hj' : j < ops.length := by simpa using (Array.getElem?_eq_some_iff.1 ho).1
      simp [hj'] at hj) (by simpa [lst] using h1)
  have e : ops.toArray.size = ops.length - 1 + 1 := by simp; omega
  rw [e]
  have e2 : (Array.replicate (ops.length - 1 + 1) false) = Array.replicate ops.length false := by congr 1; omega
  rw [e2]
  exact h2
theorem CW.reg_sinkC (z : Nat) {id : Nat} {oz : Oper} [hm : Mixed P] [hc : Drawn C] (hz : ops[z]? = some oz) (hB : sinkB ops z = true) (h : DW P n ops (zpost P n ops oz Q) [z] C f C) : CW P n (.region id ops.toArray true) Q f C := CW.reg_sink z C hz hB h
theorem At.sink {oz : Oper} (h : LR false P n ops [oz] Q f C) : At (zpost P n ops oz Q) .normal f C := fun w hw => ⟨rfl, fun u e => e ▸ h w hw⟩
end
end Go.Hb

namespace Go.Hb
section
variable {P : Program} {f : Frm} {T T' T'' : TypeId} {x y : Operand} {C : World → Prop} {w0 w : World} {F : Nat → Prop} {L L' : List Asrt}
theorem Ev.min2 {k k' : IntKind} {a b : Int} {ts : Array TypeId} (hx : f.ev x = .int k a) (hy : f.ev y = .int k' b) : Ev P C f (.call ⟨.builtin .min, [x, y].toArray, ts⟩) T (.int k (if b < a then b else a)) := fun w _ d p af g => by
  simp [execOp, resolve, invoke, builtin, Builtin.min_, Builtin.min2, hx, hy]
theorem Ev.max2 {k k' : IntKind} {a b : Int} {ts : Array TypeId} (hx : f.ev x = .int k a) (hy : f.ev y = .int k' b) : Ev P C f (.call ⟨.builtin .max, [x, y].toArray, ts⟩) T (.int k (if b > a then b else a)) := fun w _ d p af g => by
  simp [execOp, resolve, invoke, builtin, Builtin.max_, Builtin.max2, hx, hy]
theorem minQ {a b q : Nat} {ts : Array TypeId} (h : min b a = q) (hx : f.ev x = .int .i64 (a : Int)) (hy : f.ev y = .int .i64 (b : Int)) : Ev P C f (.call ⟨.builtin .min, [x, y].toArray, ts⟩) T (.int .i64 (q : Int)) := by
  have h2 := Ev.min2 (P := P) (C := C) (T := T) (ts := ts) hx hy
  have e : (if (b : Int) < (a : Int) then (b : Int) else (a : Int)) = (q : Int) := by subst h; split <;> omega
  rwa [e] at h2
theorem maxQ {a b q : Nat} {ts : Array TypeId} (h : max b a = q) (hx : f.ev x = .int .i64 (a : Int)) (hy : f.ev y = .int .i64 (b : Int)) : Ev P C f (.call ⟨.builtin .max, [x, y].toArray, ts⟩) T (.int .i64 (q : Int)) := by
  have h2 := Ev.max2 (P := P) (C := C) (T := T) (ts := ts) hx hy
  have e : (if (b : Int) > (a : Int) then (b : Int) else (a : Int)) = (q : Int) := by subst h; split <;> omega
  rwa [e] at h2
theorem addQ {a b q : Nat} (h : a + b = q) (hx : f.ev x = .int .i64 (a : Int)) (hy : f.ev y = .int .i64 (b : Int)) (h1 : q ≤ 9223372036854775807) : Ev P C f (.binOp .add T' x y T'') T (.int .i64 (q : Int)) := by
  have := Ev.add (P := P) (C := C) (T := T) (T' := T') (T'' := T'') hx hy (by omega) (by omega)
  rwa [show (a : Int) + (b : Int) = (q : Int) by omega] at this
theorem subQ {a b q : Nat} (h : a - b = q) (hx : f.ev x = .int .i64 (a : Int)) (hy : f.ev y = .int .i64 (b : Int)) (h0 : b ≤ a) (h1 : a ≤ 9223372036854775807) : Ev P C f (.binOp .sub T' x y T'') T (.int .i64 (q : Int)) := by
  have := Ev.sub (P := P) (C := C) (T := T) (T' := T') (T'' := T'') hx hy (by omega) (by omega)
  rwa [show (a : Int) - (b : Int) = (q : Int) by omega] at this
theorem mulQ {a b q : Nat} (h : a * b = q) (hx : f.ev x = .int .i64 (a : Int)) (hy : f.ev y = .int .i64 (b : Int)) (h1 : q ≤ 9223372036854775807) : Ev P C f (.binOp .mul T' x y T'') T (.int .i64 (q : Int)) := by
  have e : (a : Int) * (b : Int) = (q : Int) := by subst h; simp
  have := Ev.mul (P := P) (C := C) (T := T) (T' := T') (T'' := T'') hx hy (by rw [e]; omega) (by rw [e]; omega)
  rwa [e] at this
theorem quoQ {a b q : Nat} (h : a / b = q) (hx : f.ev x = .int .i64 (a : Int)) (hy : f.ev y = .int .i64 (b : Int)) (h0 : b ≠ 0) (h1 : a ≤ 9223372036854775807) : Ev P C f (.binOp .quo T' x y T'') T (.int .i64 (q : Int)) := by
  have := Ev.quo (P := P) (C := C) (T := T) (T' := T') (T'' := T'') hx hy (by omega)
  have e : (a : Int).tdiv (b : Int) = (q : Int) := by subst h; exact (Int.ofNat_tdiv a b).symm
  have hq : q ≤ a := by subst h; exact Nat.div_le_self _ _
  rw [e, wrap_i64 (by omega) (by omega)] at this
  exact this
theorem remQ {a b q : Nat} (h : a % b = q) (hx : f.ev x = .int .i64 (a : Int)) (hy : f.ev y = .int .i64 (b : Int)) (h0 : b ≠ 0) : Ev P C f (.binOp .rem T' x y T'') T (.int .i64 (q : Int)) := by
  have := Ev.rem (P := P) (C := C) (T := T) (T' := T') (T'' := T'') hx hy (by omega)
  have e : (a : Int).tmod (b : Int) = (q : Int) := by subst h; exact (Int.ofNat_tmod a b).symm
  rwa [e] at this
theorem hiQ {E : TypeId} {sz by_ k c j : Nat} {a : Option Addr} [h : SliceOf P T E sz by_] (hx : f.ev x = .slice a k c) (hy : f.ev y = .int .i64 (j : Int)) (h1 : j ≤ c) : Ev P C f (.slice T x none (some y) none) T' (.slice (subA a c 0 sz) j c) := by
  have := Ev.slice_hi (P := P) (C := C) (T := T) (T' := T') (E := E) (sz := sz) (by_ := by_) (h := h) hx hy (by omega) (by omega)
  rwa [Int.toNat_natCast] at this
theorem loQ {E : TypeId} {sz by_ k c j q : Nat} {a : Option Addr} [h : SliceOf P T E sz by_] (h0 : k - j = q) (hx : f.ev x = .slice a k c) (hy : f.ev y = .int .i64 (j : Int)) (h1 : j ≤ k) : Ev P C f (.slice T x (some y) none none) T' (.slice (subA a c j sz) q (c - j)) := by
  have := Ev.slice_lo (P := P) (C := C) (T := T) (T' := T') (E := E) (sz := sz) (by_ := by_) (h := h) hx hy (by omega) (by omega)
  rwa [Int.toNat_natCast, h0] at this
theorem lohiQ {E : TypeId} {sz by_ k c i j q : Nat} {a : Option Addr} {z : Operand} [h : SliceOf P T E sz by_] (h0 : j - i = q) (hx : f.ev x = .slice a k c) (hy : f.ev y = .int .i64 (i : Int)) (hz : f.ev z = .int .i64 (j : Int)) (h1 : i ≤ j) (h2 : j ≤ c) : Ev P C f (.slice T x (some y) (some z) none) T' (.slice (subA a c i sz) q (c - i)) := by
  have := Ev.slice_lohi (P := P) (C := C) (T := T) (T' := T') (E := E) (sz := sz) (by_ := by_) (h := h) hx hy hz (by omega) (by omega) (by omega)
  rwa [Int.toNat_natCast, Int.toNat_natCast, h0] at this
class MapT (P : Program) (T : TypeId) : Prop where
  ex : ∃ k e, P.underlying T = some (.map k e)
theorem equalIn_map (w : World) (d : Nat) {t k e : TypeId} {r : Option Nat} (h : P.underlying t = some (.map k e)) : (Op.equalIn (d + 1) t (.map r) (.map none)).run P w = .ok r.isNone w := by
  cases r <;> simp [Op.equalIn, run_underlying h]
theorem Ev.map_nil [h : MapT P T'] {r : Option Nat} (hx : f.ev x = .map r) (hy : f.ev y = .map none) : Ev P C f (.binOp .eql T' x y T'') T (.bool r.isNone) :=
  ev_eql_of (fun w => by rw [hx, hy]; rfl) (by rw [hx, hy]; rfl) (fun w => by
    obtain ⟨k, e, hu⟩ := h.ex
    rw [hx, hy]
    exact equalIn_map w _ hu)
theorem ownsAt_take {E : TypeId} {sz k c l : Nat} {a : Option Addr} {xs : List Value} (h : ownsAt w E sz (.slice a k c) k xs) (hl : l ≤ k) : ownsAt w E sz (.slice a l c) l (xs.take (l * sz)) := by
  have hm : l * sz ≤ k * sz := Nat.mul_le_mul_right _ hl
  refine ⟨by rw [List.length_take, h.1]; omega, ?_⟩
  rcases h.2 with ⟨he, hn⟩ | ⟨g, o, cap, cur, he, hg, h1, h2, h3, h4⟩
  · simp only [Value.slice.injEq] at he
    obtain ⟨rfl, _, rfl⟩ := he
    have : l = 0 := by omega
    subst this
    exact .inl ⟨rfl, rfl⟩
  · simp only [Value.slice.injEq] at he
    obtain ⟨rfl, _, rfl⟩ := he
    refine .inr ⟨g, o, c, cur, rfl, hg, by omega, h2, h3, ?_⟩
    rw [← h4, List.take_take, Nat.min_eq_left hm]
theorem St.odl_take {E : TypeId} {sz k c l : Nat} {a : Option Addr} {xs : List Value} (h : St w0 F L w) (hs : Sel L (odl (.slice a k c) E sz k xs) (odl (.slice a l c) E sz l (xs.take (l * sz))) L') (hl : l ≤ k) : St w0 F L' w :=
  h.turn hs rfl (St.refl w _) (ownsAt_take (h.holds _ hs.mem) hl) (fun j hj => .inl (by cases a <;> exact hj)) (odl.dep _ _ _ _ _)
theorem subA_zero {b o c sz : Nat} : subA (some ⟨b, o, none⟩) c 0 sz = some ⟨b, o, none⟩ := by
  unfold subA
  split
  · rfl
  · simp [addr_add]
theorem ownsAt_subA {E : TypeId} {sz n c : Nat} {a : Option Addr} {xs : List Value} (h : ownsAt w E sz (.slice a n c) n xs) : subA a c 0 sz = a := by
  rcases h.2 with ⟨he, hn⟩ | ⟨g, o, cap, cur, he, _⟩
  · simp only [Value.slice.injEq] at he
    obtain ⟨rfl, _, rfl⟩ := he
    simp [subA]
  · simp only [Value.slice.injEq] at he
    obtain ⟨rfl, _, rfl⟩ := he
    exact subA_zero
end
end Go.Hb

namespace Go.Hb
def eq3V : Value → Value → Option Bool
  | .agg ⟨[.int .i64 a, .int .i64 b, .int .i64 c]⟩, .agg ⟨[.int .i64 a', .int .i64 b', .int .i64 c']⟩ => some (decide ([a, b, c] = [a', b', c']))
  | _, _ => none
def eq6V : Value → Value → Option Bool
  | .agg ⟨[.int .i64 a, .int .i64 b, .int .i64 c, .int .i64 d, .int .i64 e, .int .i64 g]⟩, .agg ⟨[.int .i64 a', .int .i64 b', .int .i64 c', .int .i64 d', .int .i64 e', .int .i64 g']⟩ => some (decide ([a, b, c, d, e, g] = [a', b', c', d', e', g']))
  | _, _ => none
theorem eq3V_inv {v u : Value} {r : Bool} (h : eq3V v u = some r) : ∃ xs ys : List Int, v = .agg (xs.map (Value.int .i64)).toArray ∧ u = .agg (ys.map (Value.int .i64)).toArray ∧ xs.length = 3 ∧ ys.length = 3 ∧ r = decide (xs = ys) := by
  unfold eq3V at h; split at h
  · rename_i a b c a' b' c'; cases h; exact ⟨[a, b, c], [a', b', c'], rfl, rfl, rfl, rfl, rfl⟩
  · cases h
theorem eq6V_inv {v u : Value} {r : Bool} (h : eq6V v u = some r) : ∃ xs ys : List Int, v = .agg (xs.map (Value.int .i64)).toArray ∧ u = .agg (ys.map (Value.int .i64)).toArray ∧ xs.length = 6 ∧ ys.length = 6 ∧ r = decide (xs = ys) := by
  unfold eq6V at h; split at h
  · rename_i a b c d e g a' b' c' d' e' g'; cases h; exact ⟨[a, b, c, d, e, g], [a', b', c', d', e', g'], rfl, rfl, rfl, rfl, rfl⟩
  · cases h
instance {P : Program} {T : TypeId} [h : Eqs P T 3] : EqOf P T eq3V where
  eq := fun hb => by obtain ⟨_, _, h1, h2, h3, h4, rfl⟩ := eq3V_inv hb; exact Ev.structs h1 h2 h3 h4
  ne := fun hb => by obtain ⟨_, _, h1, h2, h3, h4, rfl⟩ := eq3V_inv hb; exact Ev.structs_ne h1 h2 h3 h4
instance {P : Program} {T : TypeId} [h : Eqs P T 6] : EqOf P T eq6V where
  eq := fun hb => by obtain ⟨_, _, h1, h2, h3, h4, rfl⟩ := eq6V_inv hb; exact Ev.structs h1 h2 h3 h4
  ne := fun hb => by obtain ⟨_, _, h1, h2, h3, h4, rfl⟩ := eq6V_inv hb; exact Ev.structs_ne h1 h2 h3 h4
theorem St.weak {w0 w : World} {F : Nat → Prop} {x z : Asrt} {R : List Asrt} (h : St w0 F (x :: R) w) (hx : x.excl = true) (hz : z.holds w) (hf : ∀ k, z.foot k → x.foot k) (hd : z.dep) : St w0 F (z :: R) w := by
  refine ⟨h.os, h.tape, h.output, h.size, h.keep, ?_, ?_, ?_, ?_, ?_⟩
  · intro b hb; rcases List.mem_cons.1 hb with rfl | hb
    · exact hz
    · exact h.holds b (List.mem_cons_of_mem _ hb)
  · intro b hb; rcases List.mem_cons.1 hb with rfl | hb
    · exact fun k hk => h.live x List.mem_cons_self k (hf k hk)
    · exact h.live b (List.mem_cons_of_mem _ hb)
  · intro b hb; rcases List.mem_cons.1 hb with rfl | hb
    · exact fun _ k hk => h.mine x List.mem_cons_self hx k (hf k hk)
    · exact h.mine b (List.mem_cons_of_mem _ hb)
  · obtain ⟨h1, h2⟩ := List.pairwise_cons.1 h.dis
    refine List.pairwise_cons.2 ⟨fun b hb _ k hk1 hk2 => h1 b hb (by simp [hx]) k (hf k hk1) hk2, h2⟩
  · intro b hb; rcases List.mem_cons.1 hb with rfl | hb
    · exact hd
    · exact h.dep b (List.mem_cons_of_mem _ hb)
theorem St.odl_rd {w0 w : World} {F : Nat → Prop} {R : List Asrt} {a : Option Addr} {n c : Nat} {E : TypeId} {sz : Nat} {xs : List Value} (h : St w0 F (odl (.slice a n c) E sz n xs :: R) w) : St w0 F (rdA a xs :: R) w :=
  St.weak h rfl (h.rd_of_odl List.mem_cons_self) (fun _ hk => St.odl_foot hk) (Rd.dep _ _)
end Go.Hb

namespace Go.Hb
theorem zeroCells_one (z : Value) (m : Nat) : (Builtin.zeroCells [z].toArray m).toList = List.replicate m z := by
  simp [Builtin.zeroCells]
  apply List.ext_getElem
  · simp
  · intro i h1 h2
    simp [Nat.mod_one]
theorem run_clear {P : Program} {w : World} {t E ty : TypeId} {z : Value} {by_ : Nat} (h : SliceOf P t E 1 by_) (hz : ZeroOf P E [z]) (h1 : z.oneCell' = true) {a : Option Addr} {n c j : Nat} {xs : List Value} (hw : ownsAt w E 1 (.slice a n c) n xs) (hj : j ≤ n) :
    ∃ w', (Builtin.clear_ #[t] ty #[.slice (subA a c j 1) (n - j) (c - j)]).run P w = .ok (.tuple #[]) w' ∧ Step (odl (.slice a n c) E 1 n xs) (odl (.slice a n c) E 1 n (xs.take j ++ List.replicate (n - j) z)) w w' := by
  obtain ⟨hl, hr⟩ := hw
  have hl' : xs.length = n := by omega
  by_cases hm : n - j = 0
  · refine ⟨w, ?_, ?_⟩
    · rw [hm]
      cases subA a c j 1 <;> simp [Builtin.clear_, run_underlying h.und]
    · have e : xs.take j ++ List.replicate (n - j) z = xs := by rw [hm, List.take_of_length_le (by omega)]; simp
      rw [e]
      exact ⟨St.refl w _, ⟨hl, hr⟩, fun k hk => .inl hk⟩
  · rcases hr with ⟨he, hn0⟩ | ⟨g, o, cap, cur, he, hg, hnc, hcm, hcs, htake⟩
    · omega
    simp only [Value.slice.injEq] at he
    obtain ⟨rfl, _, rfl⟩ := he
    obtain ⟨v, hv, hvc⟩ := hz.zero
    have hsub : subA (some ⟨g, o, none⟩) c j 1 = some ⟨g, o + j, none⟩ := by
      unfold subA
      rw [if_neg (by omega)]
      simp [addr_add]
    have hst := run_storeCells_at P g (o + j) E (List.replicate (n - j) z) 0 cur w (by simpa using hg) (by simp; omega) (fun u hu => by rw [List.eq_of_mem_replicate hu]; exact h1)
    have e : ∀ (D vs : List Value), D.take (o + j + 0) ++ vs ++ D.drop (o + j + 0 + vs.length) = splice D (o + j) vs := fun _ _ => rfl
    rw [e] at hst
    obtain ⟨m, hm'⟩ : ∃ m, n - j = m + 1 := ⟨n - j - 1, by omega⟩
    have hg' : w.heap[g]? = some (.cells cur.toList.toArray E (0, 0)) := by simpa using hg
    have hsz : cur.toList.length = cur.size := Array.length_toList
    refine ⟨w.setRow g (splice cur.toList (o + j) (List.replicate (n - j) z)).toArray, ?_, Keep.setRow w g _ _ E hg rfl, ⟨by simp; omega, .inr ⟨g, o, c, _, rfl, setRow_heap w g _ _ E (0, 0) hg, hnc, hcm, ?_, ?_⟩⟩, fun k hk => .inl hk⟩
    · rw [hsub]
      have hzc := zeroCells_one z (n - j)
      rw [hm'] at hzc hst ⊢
      simp [Builtin.clear_, run_underlying h.und, hv, hvc, hzc, hst]
    · simp [splice]; omega
    · show ((splice cur.toList (o + j) (List.replicate (n - j) z)).drop o).take (n * 1) = _
      rw [splice_drop (by omega), splice_take (by simp; omega) (by simp; omega), htake]
      unfold splice
      rw [List.drop_eq_nil_of_le (by simp; omega), List.append_nil]
theorem fill_mono {p q : Nat → Option (Nat × Nat)} (h : ∀ i x, p i = some x → q i = some x) : ∀ (l : List (Nat × Value)) (cells r : Array Value), Instr.fill p cells l = some r → Instr.fill q cells l = some r
  | [], cells, r, hf => hf
  | (i, v) :: rest, cells, r, hf => by
    simp only [Instr.fill] at hf ⊢
    cases hp : p i with
    | none => rw [hp] at hf; cases hf
    | some x =>
      obtain ⟨off, size⟩ := x
      rw [hp] at hf
      rw [h i _ hp]
      simp only at hf ⊢
      split at hf
      · cases hf
      · rename_i hn
        rw [if_neg hn]
        exact fill_mono h rest _ r hf
/-- The places of an array of one-cell elements. -/
def arrPlaces (n : Nat) : List (Nat × Nat) := (List.range n).map fun i => (i, 1)
theorem arrPlaces_get {n i : Nat} {x : Nat × Nat} (h : (arrPlaces n).toArray[i]? = some x) : some (i * 1, 1) = some x := by
  unfold arrPlaces at h
  rw [List.getElem?_toArray, List.getElem?_map, Option.map_eq_some_iff] at h
  obtain ⟨j, hj, rfl⟩ := h
  have hi : i < n := by
    have := (List.getElem?_eq_some_iff.1 hj).1
    simpa using this
  rw [List.getElem?_range hi] at hj
  cases hj
  rw [Nat.mul_one]
section
variable {P : Program} {f : Frm} {T T' : TypeId} {x : Operand} {w0 : World} {F : Nat → Prop} {L L' : List Asrt}
variable {n' : Nat} {ops rest : List Oper} {Q : Post} {p : String} {af : Array Edge}
theorem LR.clear {E : TypeId} {z : Value} {by_ n c j : Nat} {a : Option Addr} {xs : List Value} [h : SliceOf P T E 1 by_] [hz : ZeroOf P E [z]] (hx : f.ev x = .slice (subA a c j 1) (n - j) (c - j)) (h1 : z.oneCell' = true)
    (hs : Sel L (odl (.slice a n c) E 1 n xs) (odl (.slice a n c) E 1 n (xs.take j ++ List.replicate (n - j) z)) L') (hj : j ≤ n)
    (k : LR false P n' ops rest Q f (St w0 F L')) : LR false P n' ops (⟨none, .call ⟨.builtin .clear, [x].toArray, [T].toArray⟩, T', p, af, none⟩ :: rest) Q f (St w0 F L) := by
  intro w hw b hb
  refine wpList_plain rfl fun K hK => ?_
  obtain ⟨w', hr, st⟩ := run_clear (P := P) (ty := T') h hz h1 (hw.holds _ hs.mem) hj
  have hr' : (execOp f.ev ⟨none, .call ⟨.builtin .clear, [x].toArray, [T].toArray⟩, T', p, af, none⟩).run P w = .ok (.value (.tuple #[])) w' := by
    simp only [execOp, resolve, invoke, builtin, Sem.run_bind, Sem.run_pure, Result.andThen_ok, List.map_toArray, List.map_cons, List.map_nil, hx, hr]
  rw [← hb.eval] at hr'
  simp only [Oper.wp, hr', Oper.upon_value]
  exact hK _ _ (k _ (hw.did hs rfl st (odl.dep _ _ _ _ _)) _ (hb.put_none _))
theorem LR.qcall_fv {m : Bool} {C : World → Prop} {v : Value} {d : Nat} {g : FuncId} {xs : List Operand} {ts : Array TypeId} {cap args : List Value} (hx : f.ev x = .func (.func g) #[] cap.toArray) (ha : xs.map f.ev ++ cap = args) [own : Own P g] (hd : Nat.blt d n' = true)
    (h : ∀ w, C w → CallsTo P g args w fun u w' => u = v ∧ C w') (k : LR m P n' ops rest Q (upd f d v) C) :
    LR m P n' ops (⟨some d, .call ⟨.value x, xs.toArray, ts⟩, T, p, af, none⟩ :: rest) Q f C :=
  LR.qcall_val hx hd (ha ▸ h) k
theorem Ev.load_odl {v : Value} {b o q k c sz : Nat} {E : TypeId} {xs : List Value} [h : One P T] (hx : f.ev x = .pointer (some ⟨b, o + q, none⟩)) (hm : odl (.slice (some ⟨b, o, none⟩) k c) E sz k xs ∈ L) (hc : xs[q]? = some v) : Ev P (St w0 F L) f (.load T x) T' v :=
  Ev.load hx fun w hw => (hw.rd_of_odl hm).cell hc
theorem Ev.field {C : World → Prop} {v : Value} {i : Nat} {fs : Array Field} {fd : Field} {cs : List Value} (hu : P.underlying T = some (.struct fs)) (hf : fs[i]? = some fd) (h : One P fd.type) (hx : f.ev x = .agg cs.toArray) (hc : cs[fd.offset]? = some v) : Ev P C f (.field T x i) T' v := by
  unfold Ev
  intro w _ d p af g
  simp [execOp, hx, Instr.field, run_underlying hu, hf, part, h.agg, asAgg, hc]
theorem LR.mapUpdate {T : TypeId} {x y z : Operand} {v zv : Value} {q : IntKind} {b : Nat} {l : List (Int × Value)} {key : Int} [h : MapOf P T q zv] (hx : f.ev x = .map (some b)) (hy : f.ev y = .int q key) (hz : f.ev z = v)
    (hs : Sel L (.own b (mapObj q l)) (.own b (mapObj q (l ++ [(key, v)]))) L') (hnew : (findI key l 0).isNone = true)
    (k : LR false P n' ops rest Q f (St w0 F L')) : LR false P n' ops (⟨none, .mapUpdate T x y z, T', p, af, none⟩ :: rest) Q f (St w0 F L) := by
  intro w hw a ha
  refine wpList_plain rfl fun K hK => ?_
  obtain ⟨kt, et, ht, hk, _⟩ := h.ex
  have hb : w.heap[b]? = some (.map (ents q 0 l).toArray l.length) := hw.own_at hs.mem
  have hfind : (Instr.findKey kt (.int q key) (ents q 0 l)).run P w = .ok none w := by
    refine MapKept.run_findKey hk ?_
    rw [findNow_ents]
    cases hf : findI key l 0 with
    | none => rfl
    | some r => rw [hf] at hnew; cases hnew
  have hr : (execOp a.eval ⟨none, .mapUpdate T x y z, T', p, af, none⟩).run P w = .ok .skip { w with heap := w.heap.setIfInBounds b (mapObj q (l ++ [(key, v)])) } := by
    rw [ha.eval]
    have e : Obj.map ((ents q 0 l).toArray.push ⟨.int q key, v, l.length⟩) (l.length + 1) = mapObj q (l ++ [(key, v)]) := by
      simp [mapObj, ents_snoc]
    simp only [execOp, hx, hy, hz, Instr.mapUpdate, Sem.run_bind, run_underlying ht, Result.andThen_ok, MapKept.run_getObj_map hb, MapKept.run_checkKey (k := .int q key) hk (by rfl) _ 9999, hfind, MapKept.run_setObj_map _ hb, e, Sem.run_pure]
  simp only [Oper.wp, hr, Oper.upon_skip]
  have hsz : b < w.heap.size := (Array.getElem?_eq_some_iff.1 hb).1
  refine hK _ _ (k _ ?_ _ (ha.put_none undef))
  exact hw.turn hs rfl (Keep.setObj w b _ rfl) (by show (w.heap.setIfInBounds b _)[b]? = _; simp [hsz]) (fun k hk => .inl hk) (Asrt.dep_own _ _)
theorem Ev.lookupC {C : World → Prop} {T : TypeId} {x y : Operand} {zv : Value} {q : IntKind} {b : Nat} {l : List (Int × Value)} {key : Int} {r : Option (Nat × Value)} [h : MapOf P T q zv] (hx : f.ev x = .map (some b)) (hy : f.ev y = .int q key) (hm : ∀ w, C w → w.heap[b]? = some (mapObj q l)) (hr : findI key l 0 = r) :
    Ev P C f (.lookup T x y true) T' (.tuple [(r.map Prod.snd).getD zv, .bool r.isSome].toArray) := fun w hw d p af g => by
  obtain ⟨kt, et, ht, hk, hz⟩ := h.ex
  have hb : w.heap[b]? = some (.map (ents q 0 l).toArray l.length) := hm w hw
  have hfind : (Instr.findKey kt (.int q key) (ents q 0 l)).run P w = .ok r w := by
    refine MapKept.run_findKey hk ?_
    rw [findNow_ents, hr]
  cases r with
  | none => simp [execOp, hx, hy, Instr.lookup, run_underlying ht, MapKept.run_getObj_map hb, MapKept.run_checkKey (k := .int q key) hk (by rfl) _ 9999, hfind, hz, Result.andThen]
  | some s => simp [execOp, hx, hy, Instr.lookup, run_underlying ht, MapKept.run_getObj_map hb, MapKept.run_checkKey (k := .int q key) hk (by rfl) _ 9999, hfind, Result.andThen]
theorem Ev.lookup1C {C : World → Prop} {T : TypeId} {x y : Operand} {zv : Value} {q : IntKind} {b : Nat} {l : List (Int × Value)} {key : Int} {r : Option (Nat × Value)} [h : MapOf P T q zv] (hx : f.ev x = .map (some b)) (hy : f.ev y = .int q key) (hm : ∀ w, C w → w.heap[b]? = some (mapObj q l)) (hr : findI key l 0 = r) :
    Ev P C f (.lookup T x y false) T' ((r.map Prod.snd).getD zv) := fun w hw d p af g => by
  obtain ⟨kt, et, ht, hk, hz⟩ := h.ex
  have hb : w.heap[b]? = some (.map (ents q 0 l).toArray l.length) := hm w hw
  have hfind : (Instr.findKey kt (.int q key) (ents q 0 l)).run P w = .ok r w := by
    refine MapKept.run_findKey hk ?_
    rw [findNow_ents, hr]
  cases r with
  | none => simp [execOp, hx, hy, Instr.lookup, run_underlying ht, MapKept.run_getObj_map hb, MapKept.run_checkKey (k := .int q key) hk (by rfl) _ 9999, hfind, hz, Result.andThen]
  | some s => simp [execOp, hx, hy, Instr.lookup, run_underlying ht, MapKept.run_getObj_map hb, MapKept.run_checkKey (k := .int q key) hk (by rfl) _ 9999, hfind, Result.andThen]
end
end Go.Hb

namespace Go.Proofs.YtgblmkpfkcibiaaGreat
open Go.Hb
attribute [local irreducible] LR CW At Ev thn blk finK noG again CallsTo DW QL dnext TW DP
set_option linter.unusedSimpArgs false
set_option linter.unusedVariables false
set_option maxRecDepth 100000

structure DaA where
  d : Dat
  a : Option Addr
  c : Nat
def DaA.row (x : DaA) : List Value := x.d.cells x.a x.c
theorem DaA.row_len (x : DaA) : x.row.length = 18 := rfl
def DaA.body (x : DaA) : Asrt := osl (.slice x.a x.d.msg.body.length x.c) 5 1 x.d.msg.body.length (bv x.d.msg.body)
theorem DaA.dep (x : DaA) : x.body.dep := osl.dep _ _ _ _ _
theorem DaA.ex (x : DaA) : x.body.excl = true := rfl
abbrev bunD : List DaA → Asrt := bun DaA.body
def entD (x : DaA) : Int × Value := (x.d.seq, x.d.val x.a x.c)
abbrev wB (bw bm : Nat) (aru high : Int) : Asrt := .own bw (.cells [.bool true, .map (some bm), .int .i64 aru, .int .i64 high].toArray 70 (0, 0))
abbrev mB (bm : Nat) (es : List DaA) : Asrt := .own bm (mapObj .i64 (es.map entD))
def wO (bw bm : Nat) (es : List DaA) (aru high : Int) : Asrt := both (both (wB bw bm aru high) (mB bm es)) (bunD es)
theorem wO_dep (bw bm : Nat) (es : List DaA) (aru high : Int) : (wO bw bm es aru high).dep := both_dep (both_dep (Asrt.dep_own _ _) (Asrt.dep_own _ _)) (bun_dep DaA.dep es)
abbrev wR (bw bm : Nat) (es : List DaA) (aru high : Int) : Asrt := .rd (wO bw bm es aru high).foot (wO bw bm es aru high).holds
theorem wO_w {bw bm : Nat} {es : List DaA} {aru high : Int} {w : World} (h : (wO bw bm es aru high).holds w) : w.heap[bw]? = some (.cells [.bool true, .map (some bm), .int .i64 aru, .int .i64 high].toArray 70 (0, 0)) := h.1.1
theorem wO_m {bw bm : Nat} {es : List DaA} {aru high : Int} {w : World} (h : (wO bw bm es aru high).holds w) : w.heap[bm]? = some (mapObj .i64 (es.map entD)) := h.1.2.1
theorem wO_b {bw bm : Nat} {es : List DaA} {aru high : Int} {w : World} (h : (wO bw bm es aru high).holds w) {x : DaA} (hx : x ∈ es) : Rd w x.a (bv x.d.msg.body) := by
  have : (DaA.body x).holds w := h.2.1.1 x hx
  exact ownsRow_rd this
/-- In a call that reads a window alone. -/
theorem wO_in {bw bm : Nat} {es : List DaA} {aru high : Int} {w : World} (h : (wO bw bm es aru high).holds w) : St w NoF [wR bw bm es aru high] w :=
  (St.refl w NoF).old h (fun k hk => ⟨both_live h k hk, fun x => x⟩) (wO_dep _ _ _ _ _)
/-- In a call that turns a window. -/
theorem wO_turn {bw bm : Nat} {es : List DaA} {aru high : Int} {w : World} (h : (wO bw bm es aru high).holds w) : St w (wO bw bm es aru high).foot [wB bw bm aru high, mB bm es, bunD es] w :=
  ((St.one h (both_live h) (wO_dep _ _ _ _ _)).part (both_dep (Asrt.dep_own _ _) (Asrt.dep_own _ _)) (bun_dep DaA.dep es)).part (Asrt.dep_own _ _) (Asrt.dep_own _ _)
theorem wO_out {w0 w : World} {F : Nat → Prop} {R : List Asrt} {bw bm : Nat} {es : List DaA} {aru high : Int} (h : St w0 F (wB bw bm aru high :: mB bm es :: bunD es :: R) w) : St w0 F (wO bw bm es aru high :: R) w := by
  have h1 : St w0 F (both (wB bw bm aru high) (mB bm es) :: bunD es :: R) w := h.join rfl rfl
  exact h1.join rfl rfl
theorem w_cell {w0 w : World} {F : Nat → Prop} {L : List Asrt} {bw bm q : Nat} {es : List DaA} {aru high : Int} {v : Value} (h : St w0 F L w) (hm : wR bw bm es aru high ∈ L) (hq : [Value.bool true, .map (some bm), .int .i64 aru, .int .i64 high][q]? = some v) : w.cell? ⟨bw, q, none⟩ = some v := by
  have h1 : (wO bw bm es aru high).holds w := h.holds (wR bw bm es aru high) hm
  rw [cell_own (wO_w h1)]
  simpa using hq
theorem w_out {w0 w : World} {F : Nat → Prop} {L : List Asrt} {bw bm : Nat} {es : List DaA} {aru high : Int} (h : St w0 F L w) (hm : wR bw bm es aru high ∈ L) : (wO bw bm es aru high).holds w := h.holds (wR bw bm es aru high) hm
/-! ### data -/
theorem t61 (d : Dat) (a : Option Addr) (c : Nat) (w : World) (hr : Rd w a (bv d.msg.body)) (hz : a = none → c = 0) (hm : d.msg.body.length ≤ 140737488355328) :
    CallsTo Tryz.prog 29 [d.val a c] w fun v w' => ∃ a' c', v = d.val a' c' ∧ NewSl w w' (.slice a' d.msg.body.length c') 5 1 d.msg.body.length (bv d.msg.body) := by
  refine go_in (n := 10) (St.rd1 hr) Tryz.func29 rfl rfl ?_
  repeat'(first|(apply kB;(iterate 2 exact rfl);intro _)|refine kv' ?_|apply jJ|refine jE' ?_|refine jp' ?_|(apply jc;kernel_rfl)|refine kg' ?_|refine kG' ?_|refine kB' fun _=>?_|refine kA' fun _=>?_|refine kK' fun _=>?_|refine kU' ?_|(apply LR.call; (· exact rfl); (intro w1 h1; refine (c86 a c d.msg.body w1 (h1.rd_of (by (repeat (first | exact mH _ _ | apply mT)))) hz hm).mono ?_; rintro v w2 ⟨a2, c2, rfl, hn⟩; refine LR.back (h1.newSl hn) ?_; clear hn h1))|((first|refine kR' ?_ ?_|refine kQ' ?_ ?_);all_goals(intro hc;try simp only[hcs]at hc;try(exfalso;first|contradiction|omega))))
  (apply ret1c; (· exact rfl); (· exact inferInstance); (· exact rfl); (· (repeat (first | exact List.Mem.head _ | apply List.Mem.tail))); (· exact rfl); intro w' hS)
  exact ⟨a2, c2, rfl, hS.toNew (by (repeat (first | exact mH _ _ | apply mT)))⟩
theorem t28 (d : Dat) (a : Option Addr) (c : Nat) (w : World) (hr : Rd w a (bv d.msg.body)) (hz : a = none → c = 0) (hm : d.msg.body.length ≤ 140737488355328) :
    CallsTo Tryz.prog 42 [d.val a c] w fun v w' => ∃ a' c', v = d.val a' c' ∧ NewSl w w' (.slice a' d.msg.body.length c') 5 1 d.msg.body.length (bv d.msg.body) := by
  refine go_in (n := 10) (St.rd1 hr) Tryz.func42 rfl rfl ?_
  repeat'(first|(apply kB;(iterate 2 exact rfl);intro _)|refine kv' ?_|apply jJ|refine jE' ?_|refine jp' ?_|(apply jc;kernel_rfl)|refine kg' ?_|refine kG' ?_|refine kB' fun _=>?_|refine kA' fun _=>?_|refine kK' fun _=>?_|refine kU' ?_|(apply LR.call; (· exact rfl); (intro w1 h1; refine CallsTo.mono (show CallsTo Tryz.prog 31 _ w1 _ from c14 d.msg a c w1 (h1.rd_of (by (repeat (first | exact mH _ _ | apply mT)))) hz hm) ?_; rintro v w2 ⟨a2, c2, rfl, hn⟩; refine LR.back (h1.newSl hn) ?_; clear hn h1))|((first|refine kR' ?_ ?_|refine kQ' ?_ ?_);all_goals(intro hc;try simp only[hcs]at hc;try(exfalso;first|contradiction|omega))))
  (apply ret1c; (· exact rfl); (· exact inferInstance); (· exact rfl); (· (repeat (first | exact List.Mem.head _ | apply List.Mem.tail))); (· exact rfl); intro w' hS)
  exact ⟨a2, c2, rfl, hS.toNew (by (repeat (first | exact mH _ _ | apply mT)))⟩
/-! ### small ones -/
instance : MapOf Tryz.prog 68 .i64 (zeroDat.val none 0) := ⟨⟨3, 45, Tryz.underlying68, Tryz.underlying3, fun w => by rw [Tryz.zeroValue45]; rfl⟩⟩
theorem t58 (bw bm : Nat) (es : List DaA) (aru high : Int) (w : World) (h : (wO bw bm es aru high).holds w) : CallsTo Tryz.prog 27 [.pointer (some ⟨bw, 0, none⟩)] w fun v w' => v = .bool false ∧ Grew w w' := by
  refine go_in (n := 12) (wO_in h) Tryz.func27 rfl rfl ?_
  repeat'(first|refine kv' ?_|apply jJ|refine jE' ?_|refine jp' ?_|(apply jc;kernel_rfl)|refine kg' ?_|refine kG' ?_|refine kB' fun _=>?_|refine kA' fun _=>?_|refine kK' fun _=>?_|refine kU' ?_|(apply LR.ev; (· apply Ev.load; (· exact rfl); (· exact fun w' hw' => w_cell hw' (by (repeat (first | exact mH _ _ | apply mT))) rfl)); (· exact rfl))|((first|refine kR' ?_ ?_|refine kQ' ?_ ?_);all_goals(intro hc;try simp only[hcs]at hc;try(exfalso;first|contradiction|omega))))
  (apply ret1; (· exact rfl); intro w' hS)
  exact ⟨rfl, hS.toKeep⟩
theorem t35 (bw bm : Nat) (es : List DaA) (aru high : Int) (w : World) (h : (wO bw bm es aru high).holds w) : CallsTo Tryz.prog 36 [.pointer (some ⟨bw, 0, none⟩)] w fun v w' => v = .int .i64 aru ∧ Grew w w' := by
  refine go_in (n := 9) (wO_in h) Tryz.func36 rfl rfl ?_
  repeat'(first|refine kv' ?_|apply jJ|refine jE' ?_|refine jp' ?_|(apply jc;kernel_rfl)|refine kg' ?_|refine kG' ?_|refine kB' fun _=>?_|refine kA' fun _=>?_|refine kK' fun _=>?_|refine kU' ?_|(apply kq; (· exact rfl); (· intro w1 h1; exact CallsTo.q (t58 bw bm es aru high w1 (w_out h1 (by (repeat (first | exact mH _ _ | apply mT))))) h1))|(apply LR.ev; (· apply Ev.load; (· exact rfl); (· exact fun w' hw' => w_cell hw' (by (repeat (first | exact mH _ _ | apply mT))) rfl)); (· exact rfl))|((first|refine kR' ?_ ?_|refine kQ' ?_ ?_);all_goals(intro hc;try simp only[hcs]at hc;try(exfalso;first|contradiction|omega))))
  (apply ret1; (· exact rfl); intro w' hS)
  exact ⟨rfl, hS.toKeep⟩
theorem t37 (bw bm : Nat) (es : List DaA) (aru high : Int) (w : World) (h : (wO bw bm es aru high).holds w) : CallsTo Tryz.prog 33 [.pointer (some ⟨bw, 0, none⟩)] w fun v w' => v = .int .i64 high ∧ Grew w w' := by
  refine go_in (n := 9) (wO_in h) Tryz.func33 rfl rfl ?_
  repeat'(first|refine kv' ?_|apply jJ|refine jE' ?_|refine jp' ?_|(apply jc;kernel_rfl)|refine kg' ?_|refine kG' ?_|refine kB' fun _=>?_|refine kA' fun _=>?_|refine kK' fun _=>?_|refine kU' ?_|(apply kq; (· exact rfl); (· intro w1 h1; exact CallsTo.q (t58 bw bm es aru high w1 (w_out h1 (by (repeat (first | exact mH _ _ | apply mT))))) h1))|(apply LR.ev; (· apply Ev.load; (· exact rfl); (· exact fun w' hw' => w_cell hw' (by (repeat (first | exact mH _ _ | apply mT))) rfl)); (· exact rfl))|((first|refine kR' ?_ ?_|refine kQ' ?_ ?_);all_goals(intro hc;try simp only[hcs]at hc;try(exfalso;first|contradiction|omega))))
  (apply ret1; (· exact rfl); intro w' hS)
  exact ⟨rfl, hS.toKeep⟩
theorem t24 (w : World) : CallsTo Tryz.prog 17 [] w fun v w' => ∃ bw bm, v = .pointer (some ⟨bw, 0, none⟩) ∧ New1 (wO bw bm [] 0 0) w w' := by
  refine go_in (n := 4) (St.refl _ NoF) Tryz.func17 rfl rfl ?_
  repeat'(first|refine kv' ?_|apply jJ|refine jE' ?_|refine jp' ?_|(apply jc;kernel_rfl)|refine kg' ?_|refine kG' ?_|refine kB' fun _=>?_|refine kA' fun _=>?_|refine kK' fun _=>?_|refine kU' ?_|(apply LR.makeMap; (· exact rfl); (intro bm))|((first|refine kR' ?_ ?_|refine kQ' ?_ ?_);all_goals(intro hc;try simp only[hcs]at hc;try(exfalso;first|contradiction|omega))))
  (apply ret1; (· exact rfl); intro w' hS)
  exact ⟨_, bm, rfl, St.new1 (wO_out (R := []) ((St.bun_nil DaA.dep hS).perm (List.perm_append_comm (l₁ := [bunD []]) (l₂ := [_, _])))) rfl⟩
end Go.Proofs.YtgblmkpfkcibiaaGreat

namespace Go.Proofs.YtgblmkpfkcibiaaGreat
open Go.Hb
attribute [local irreducible] LR CW At Ev thn blk finK noG again CallsTo DW QL dnext TW DP
set_option linter.unusedSimpArgs false
set_option linter.unusedVariables false
set_option maxRecDepth 100000

/-! ### plain -/
def fndD (D : List Dat) (s : Int) : Option Dat := D.find? fun d => decide (d.seq = s)
def hasD (D : List Dat) (s : Int) : Bool := D.any fun d => decide (d.seq = s)
def fnd (es : List DaA) (s : Int) : Option DaA := es.find? fun x => decide (x.d.seq = s)
def dats (es : List DaA) : List Dat := es.map DaA.d
theorem fnd_d (es : List DaA) (s : Int) : (fnd es s).map DaA.d = fndD (dats es) s := by
  unfold fnd fndD dats
  rw [List.find?_map]
  rfl
theorem has_iff {D : List Dat} {s : Int} : hasD D s = true ↔ ∃ d ∈ D, d.seq = s := by
  unfold hasD; simp
theorem fnd_has (D : List Dat) (s : Int) : (fndD D s).isSome = hasD D s := by
  rw [Bool.eq_iff_iff, has_iff]
  unfold fndD
  rw [List.find?_isSome]
  simp
theorem findI_fnd (s : Int) : ∀ (es : List DaA) (n : Nat), (findI s (es.map entD) n).map Prod.snd = (fnd es s).map fun x => x.d.val x.a x.c
  | [], n => rfl
  | x :: r, n => by
    unfold fnd
    rw [List.map_cons, findI, List.find?_cons]
    by_cases h : s = x.d.seq
    · simp [entD, h]
    · have h2 : ¬x.d.seq = s := fun e => h e.symm
      have ih := findI_fnd s r (n + 1)
      unfold fnd at ih
      simp [entD, h, h2, ih]
theorem findI_some (s : Int) (es : List DaA) (n : Nat) : (findI s (es.map entD) n).isSome = (fnd es s).isSome := by
  have := congrArg Option.isSome (findI_fnd s es n)
  simpa using this
theorem fnd_mem {es : List DaA} {s : Int} {x : DaA} (h : fnd es s = some x) : x ∈ es ∧ x.d.seq = s := by
  unfold fnd at h
  exact ⟨List.mem_of_find?_eq_some h, by simpa using List.find?_some h⟩
structure WOk (D : List Dat) : Prop where
  nodup : (D.map Dat.seq).Nodup
  rng : ∀ d ∈ D, 1 ≤ d.seq ∧ d.seq ≤ 9007199254740991 ∧ ringE d.rseq d.rrep = 0
  len : ∀ d ∈ D, d.msg.body.length ≤ 140737488351232
/-- All up to n are there. -/
def Upto (D : List Dat) (n : Int) : Prop := 0 ≤ n ∧ ∀ s, 1 ≤ s → s ≤ n → hasD D s = true
def IsAru (D : List Dat) (n : Int) : Prop := Upto D n ∧ hasD D (n + 1) = false
theorem IsAru.uniq {D : List Dat} {m n : Int} (h : IsAru D m) (h2 : IsAru D n) : m = n := by
  have key : ∀ {a b : Int}, IsAru D a → IsAru D b → ¬a < b := fun {a b} ha hb hlt => by
    have := hb.1.2 (a + 1) (by have := ha.1.1; omega) (by omega)
    rw [ha.2] at this
    cases this
  have h3 := key h h2
  have h4 := key h2 h
  omega
theorem Upto.le {D : List Dat} {n : Int} (h : Upto D n) (hD : WOk D) : n ≤ 9007199254740991 := by
  rcases Int.lt_or_le 9007199254740991 n with hlt | hle
  · obtain ⟨d, hd, he⟩ := has_iff.1 (h.2 n (by omega) (by omega))
    have := (hD.rng d hd).2.1
    omega
  · exact hle
theorem hasD_snoc (D : List Dat) (d : Dat) (s : Int) : hasD (D ++ [d]) s = (hasD D s || decide (d.seq = s)) := by
  unfold hasD; simp
/-! ### asked for one -/
def getT (D : List Dat) (s : Int) : Dat := (fndD D s).getD zeroDat
theorem getT_len {D : List Dat} (h : WOk D) (s : Int) : (getT D s).msg.body.length ≤ 140737488351232 := by
  unfold getT fndD
  cases hf : D.find? fun d => decide (d.seq = s) with
  | none => simp [zeroDat, zeroMsg]
  | some d => exact h.len d (List.mem_of_find?_eq_some hf)
theorem body_nz {x : DaA} {w : World} (h : x.body.holds w) (e : x.a = none) : x.c = 0 := by
  have h : w.ownsRow 0 5 1 (.slice x.a x.d.msg.body.length x.c) x.d.msg.body.length (bv x.d.msg.body) := h
  rcases h.2 with ⟨he, _⟩ | ⟨g, cap, cur, he, _⟩
  · simp only [Value.slice.injEq] at he
    exact he.2.2
  · simp only [Value.slice.injEq] at he
    rw [he.1] at e
    cases e
theorem win_no {C : World → Prop} {f : Frm} {x y : Operand} {T' : TypeId} {bm : Nat} {es : List DaA} {s : Int} (hx : f.ev x = .map (some bm)) (hy : f.ev y = .int .i64 s) (hn : fnd es s = none) (hC : ∀ w, C w → w.heap[bm]? = some (mapObj .i64 (es.map entD))) :
    Ev Tryz.prog C f (.lookup 68 x y true) T' (.tuple [zeroDat.val none 0, .bool false].toArray) := by
  have := Ev.lookupC (P := Tryz.prog) (C := C) (T := 68) (T' := T') (l := es.map entD) (r := findI s (es.map entD) 0) hx hy hC rfl
  rw [findI_fnd, findI_some, hn] at this
  exact this
theorem win_yes {C : World → Prop} {f : Frm} {x y : Operand} {T' : TypeId} {bm : Nat} {es : List DaA} {s : Int} {e : DaA} (hx : f.ev x = .map (some bm)) (hy : f.ev y = .int .i64 s) (hn : fnd es s = some e) (hC : ∀ w, C w → w.heap[bm]? = some (mapObj .i64 (es.map entD))) :
    Ev Tryz.prog C f (.lookup 68 x y true) T' (.tuple [e.d.val e.a e.c, .bool true].toArray) := by
  have := Ev.lookupC (P := Tryz.prog) (C := C) (T := 68) (T' := T') (l := es.map entD) (r := findI s (es.map entD) 0) hx hy hC rfl
  rw [findI_fnd, findI_some, hn] at this
  exact this
set_option maxHeartbeats 1000000 in
theorem t32 (bw bm : Nat) (es : List DaA) (aru high s : Int) (w : World) (h : (wO bw bm es aru high).holds w) (hD : WOk (dats es)) :
    CallsTo Tryz.prog 26 [.pointer (some ⟨bw, 0, none⟩), .int .i64 s] w fun v w' => ∃ a' c', v = .tuple [(getT (dats es) s).val a' c', .bool (hasD (dats es) s)].toArray ∧ NewSl w w' (.slice a' (getT (dats es) s).msg.body.length c') 5 1 (getT (dats es) s).msg.body.length (bv (getT (dats es) s).msg.body) := by
  refine go_in (n := 23) (wO_in h) Tryz.func26 rfl rfl ?_
  have hfd := fnd_d es s
  have hg : getT (dats es) s = ((fnd es s).map DaA.d).getD zeroDat := by unfold getT; rw [hfd]
  have hln := getT_len hD s
  rw [hg] at hln
  rw [← fnd_has, ← hfd, hg, Option.isSome_map]
  cases hx : fnd es s with
  | none =>
    repeat'(first|refine kv' ?_|apply jJ|refine jE' ?_|refine jp' ?_|(apply jc;kernel_rfl)|refine kg' ?_|refine kG' ?_|refine kB' fun _=>?_|refine kA' fun _=>?_|refine kK' fun _=>?_|refine kU' ?_|(apply kq; (· exact rfl); (· intro w1 h1; exact CallsTo.q (t58 bw bm es aru high w1 (w_out h1 (by (repeat (first | exact mH _ _ | apply mT))))) h1))|(apply LR.ev; (· apply Ev.load; (· exact rfl); (· exact fun w' hw' => w_cell hw' (by (repeat (first | exact mH _ _ | apply mT))) rfl)); (· exact rfl))|(apply LR.ev; (· apply win_no; (· exact rfl); (· exact rfl); (· exact hx); (· exact fun w' hw' => wO_m (w_out hw' (by (repeat (first | exact mH _ _ | apply mT)))))); (· exact rfl))|(apply LR.call; (· exact rfl); (intro w1 h1; refine (t61 zeroDat none 0 w1 (Rd.nil _ _) (fun _ => rfl) (by decide)).mono ?_; rintro v w2 ⟨a2, c2, rfl, hn⟩; refine LR.back (h1.newSl hn) ?_; clear hn h1))|((first|refine kR' ?_ ?_|refine kQ' ?_ ?_);all_goals(intro hc;try simp only[hcs]at hc;try(exfalso;first|contradiction|omega))))
    (apply ret2c; (· exact rfl); (· exact inferInstance); (· exact rfl); (· (repeat (first | exact List.Mem.head _ | apply List.Mem.tail))); (· exact rfl); intro w' hS)
    exact ⟨a2, c2, rfl, hS.toNew (by (repeat (first | exact mH _ _ | apply mT)))⟩
  | some x =>
    rw [hx] at hln
    have hmem := (fnd_mem hx).1
    have hb : ∀ w', (wO bw bm es aru high).holds w' → x.body.holds w' := fun w' hw' => hw'.2.1.1 x hmem
    repeat'(first|refine kv' ?_|apply jJ|refine jE' ?_|refine jp' ?_|(apply jc;kernel_rfl)|refine kg' ?_|refine kG' ?_|refine kB' fun _=>?_|refine kA' fun _=>?_|refine kK' fun _=>?_|refine kU' ?_|(apply kq; (· exact rfl); (· intro w1 h1; exact CallsTo.q (t58 bw bm es aru high w1 (w_out h1 (by (repeat (first | exact mH _ _ | apply mT))))) h1))|(apply LR.ev; (· apply Ev.load; (· exact rfl); (· exact fun w' hw' => w_cell hw' (by (repeat (first | exact mH _ _ | apply mT))) rfl)); (· exact rfl))|(apply LR.ev; (· apply win_yes; (· exact rfl); (· exact rfl); (· exact hx); (· exact fun w' hw' => wO_m (w_out hw' (by (repeat (first | exact mH _ _ | apply mT)))))); (· exact rfl))|(apply LR.call; (· exact rfl); (intro w1 h1; refine (t61 x.d x.a x.c w1 (wO_b (w_out h1 (by (repeat (first | exact mH _ _ | apply mT)))) hmem) (body_nz (hb _ (w_out h1 (by (repeat (first | exact mH _ _ | apply mT)))))) (by simp only [Option.map_some, Option.getD_some] at hln; omega)).mono ?_; rintro v w2 ⟨a2, c2, rfl, hn⟩; refine LR.back (h1.newSl hn) ?_; clear hn h1))|((first|refine kR' ?_ ?_|refine kQ' ?_ ?_);all_goals(intro hc;try simp only[hcs]at hc;try(exfalso;first|contradiction|omega))))
    (apply ret2c; (· exact rfl); (· exact inferInstance); (· exact rfl); (· (repeat (first | exact List.Mem.head _ | apply List.Mem.tail))); (· exact rfl); intro w' hS)
    exact ⟨a2, c2, rfl, hS.toNew (by (repeat (first | exact mH _ _ | apply mT)))⟩
/-! ### told that there is one -/
def seeE (s : Int) : Int := if s < 0 ∨ 9007199254740991 < s then 2 else 0
def seeH (high s : Int) : Int := if s < 0 ∨ 9007199254740991 < s then high else max high s
theorem maxI (a b : Int) : (if b > a then b else a) = max a b := by split <;> omega
end Go.Proofs.YtgblmkpfkcibiaaGreat

namespace Go.Proofs.YtgblmkpfkcibiaaGreat
open Go.Hb
attribute [local irreducible] LR CW At Ev thn blk finK noG again CallsTo DW QL dnext TW DP
set_option linter.unusedSimpArgs false
set_option linter.unusedVariables false
set_option maxRecDepth 100000

def wpOk (d : Dat) : Bool := decide (ringE d.rseq d.rrep = 0 ∧ 1 ≤ d.seq ∧ d.seq ≤ 9007199254740991)
def wpNew (D : List Dat) (d : Dat) : Bool := wpOk d && !hasD D d.seq
def wpE (d : Dat) : Int := if wpOk d then 0 else 2
def wpD (D : List Dat) (d : Dat) : List Dat := if wpNew D d then D ++ [d] else D
def wpH (D : List Dat) (high : Int) (d : Dat) : Int := if wpNew D d then max high d.seq else high
theorem wpD_ok {D : List Dat} {d : Dat} (h : WOk D) (hl : d.msg.body.length ≤ 140737488351232) : WOk (wpD D d) := by
  unfold wpD
  split
  · rename_i hn
    unfold wpNew wpOk at hn
    simp only [Bool.and_eq_true, decide_eq_true_eq, Bool.not_eq_true'] at hn
    obtain ⟨⟨h1, h2, h3⟩, h4⟩ := hn
    refine ⟨?_, fun x hx => ?_, fun x hx => ?_⟩
    · rw [List.map_append, List.nodup_append]
      refine ⟨h.nodup, by simp, fun a ha b hb e => ?_⟩
      simp only [List.map_cons, List.map_nil, List.mem_singleton] at hb
      obtain ⟨x, hx, rfl⟩ := List.mem_map.1 ha
      have : hasD D d.seq = true := has_iff.2 ⟨x, hx, by rw [e, hb]⟩
      rw [h4] at this
      cases this
    · rcases List.mem_append.1 hx with hx | hx
      · exact h.rng x hx
      · rw [List.mem_singleton] at hx; subst hx; exact ⟨h2, h3, h1⟩
    · rcases List.mem_append.1 hx with hx | hx
      · exact h.len x hx
      · rw [List.mem_singleton] at hx; subst hx; exact hl
  · exact h
theorem Upto.more {D : List Dat} {n : Int} (h : Upto D n) (d : Dat) : Upto (D ++ [d]) n := ⟨h.1, fun s h1 h2 => by rw [hasD_snoc, h.2 s h1 h2]; rfl⟩
theorem Upto.next {D : List Dat} {n : Int} (h : Upto D n) (hn : hasD D (n + 1) = true) : Upto D (n + 1) := ⟨by have := h.1; omega, fun s h1 h2 => by
  by_cases e : s = n + 1
  · rw [e]; exact hn
  · exact h.2 s h1 (by omega)⟩
set_option maxHeartbeats 2000000 in
theorem t29 (bw bm : Nat) (es : List DaA) (aru high : Int) (d : Dat) (a : Option Addr) (c : Nat) (w : World) (h : (wO bw bm es aru high).holds w) (hD : WOk (dats es)) (hA : IsAru (dats es) aru)
    (hr : Rd w a (bv d.msg.body)) (hz : a = none → c = 0) (hd : ∀ k, rdFoot a (bv d.msg.body) k → ¬ (wO bw bm es aru high).foot k) (hl : d.msg.body.length ≤ 140737488351232) :
    CallsTo Tryz.prog 10 [.pointer (some ⟨bw, 0, none⟩), d.val a c] w fun v w' => ∃ es' aru', v = .tuple [.bool (wpNew (dats es) d), .int .i64 (wpE d)].toArray ∧ dats es' = wpD (dats es) d ∧ IsAru (wpD (dats es) d) aru' ∧ Step (wO bw bm es aru high) (wO bw bm es' aru' (wpH (dats es) high d)) w w' := by
  have hDn := wpD_ok (d := d) hD hl
  have hfd := fnd_d es d.seq
  have hfh := fnd_has (dats es) d.seq
  rw [← hfd, Option.isSome_map] at hfh
  refine go_in (n := 77) ((wO_turn h).addRd hr hd) Tryz.func10 rfl rfl ?_
  repeat'(first|(apply kB;(iterate 2 exact rfl);intro b3)|refine kv' ?_|apply jJ|refine jE' ?_|refine jp' ?_|(apply jc;kernel_rfl)|refine kg' ?_|refine kG' ?_|refine kB' fun _=>?_|refine kA' fun _=>?_|refine kK' fun _=>?_|refine kU' ?_|((first|refine kR' ?_ ?_|refine kQ' ?_ ?_);all_goals(intro hc;try simp only[hcs]at hc;try(exfalso;first|contradiction|omega))))
  apply LR.call
  · exact rfl
  intro w1 h1
  refine (t32 bw bm es aru high d.seq w1 (wO_out (R := []) (h1.sub (by (repeat (first | exact List.Sublist.refl _ | apply List.Sublist.cons_cons | apply List.Sublist.cons))))).g0 hD).mono ?_
  rintro v w2 ⟨a2, c2, rfl, hn⟩
  refine LR.back (h1.newSl hn) ?_
  clear hn h1
  repeat'(first|(apply CW.reg_sinkC 8; (· exact rfl); (· decide +kernel))|refine kv' ?_|apply jJ|refine jE' ?_|refine jp' ?_|(apply jc;kernel_rfl)|refine kg' ?_|refine kG' ?_|refine kB' fun _=>?_|refine kA' fun _=>?_|refine kK' fun _=>?_|refine kU' ?_|(apply kq; (· exact rfl); (· intro w1 h1; first | exact CallsTo.q (t58 bw bm es aru high w1 (wO_out (R := []) (h1.sub (by (repeat (first | exact List.Sublist.refl _ | apply List.Sublist.cons_cons | apply List.Sublist.cons))))).g0) h1 | exact CallsTo.q (c81 _ _ w1) h1))|((first|refine kR' ?_ ?_|refine kQ' ?_ ?_);all_goals(intro hc;try simp only[hcs]at hc;try(exfalso;first|contradiction|omega))))
  all_goals (
    first
    | ((apply ret2; (· exact rfl); intro w' hS)
       have hno : wpNew (dats es) d = false := by unfold wpNew wpOk; rw [decide_eq_false (by omega)]; rfl
       have e1 : wpD (dats es) d = dats es := by unfold wpD; rw [hno]; rfl
       have e2 : wpH (dats es) high d = high := by unfold wpH; rw [hno]; rfl
       have e3 : wpE d = 2 := by unfold wpE wpOk; rw [decide_eq_false (by omega)]; rfl
       rw [e1, e2, e3, hno]
       exact ⟨es, aru, rfl, rfl, hA, (wO_out (R := []) (hS.sub (by (repeat (first | exact List.Sublist.refl _ | apply List.Sublist.cons_cons | apply List.Sublist.cons))))).step rfl⟩)
    | skip)
  · (apply ret2; (· exact rfl); intro w' hS)
    have hno : wpNew (dats es) d = false := by unfold wpNew; rw [show hasD (dats es) d.seq = true by assumption]; simp
    have e1 : wpD (dats es) d = dats es := by unfold wpD; rw [hno]; rfl
    have e2 : wpH (dats es) high d = high := by unfold wpH; rw [hno]; rfl
    have e3 : wpE d = 0 := by unfold wpE wpOk; rw [decide_eq_true (by omega)]; rfl
    rw [e1, e2, e3, hno]
    exact ⟨es, aru, rfl, rfl, hA, (wO_out (R := []) (hS.sub (by (repeat (first | exact List.Sublist.refl _ | apply List.Sublist.cons_cons | apply List.Sublist.cons))))).step rfl⟩
  have hno : hasD (dats es) d.seq = false := by assumption
  have hok : wpOk d = true := by unfold wpOk; exact decide_eq_true ⟨by assumption, by assumption, by assumption⟩
  have hnew : wpNew (dats es) d = true := by unfold wpNew; rw [hok, hno]; rfl
  have e1 : wpD (dats es) d = dats es ++ [d] := by unfold wpD; rw [hnew]; rfl
  have e2 : wpH (dats es) high d = max high d.seq := by unfold wpH; rw [hnew]; rfl
  have e3 : wpE d = 0 := by unfold wpE; rw [hok]; rfl
  rw [e1] at hDn
  rw [e1, e2, e3, hnew]
  have hfi : (findI d.seq (es.map entD) 0).isNone = true := by
    have h1 := findI_some d.seq es 0
    rw [hfh, hno] at h1
    cases hq : findI d.seq (es.map entD) 0 with
    | none => rfl
    | some z => rw [hq] at h1; cases h1
  generalize hF : (wO bw bm es aru high).foot = F at *
  all_goals (
    apply DW.quiet [0, 1, 2, 3, 4, 5, 6]
    · decide +kernel
    · first | exact fun _ h => h | exact fun _ h => St.sub h (by repeat (first | exact List.Sublist.refl _ | apply List.Sublist.cons_cons | apply List.Sublist.cons))
    repeat'(first|refine yv' ?_|refine uv' ?_|refine un' ?_|(refine us' ?_ ?_;all_goals(intro hc;try simp only[hcs]at hc;try(exfalso;first|contradiction|omega)))|apply QL.nil)
    all_goals (show DW _ _ _ _ _ _ _ _))
  all_goals (
    apply DW.loud 7
    · exact rfl
    · decide +kernel
    repeat'(first|refine kg' ?_|refine kG' ?_|apply kM|refine kv' ?_|refine kK' fun _=>?_|refine kU' ?_|refine kB' fun _=>?_|refine kA' fun _=>?_|(apply LR.call; (· exact rfl); (intro w1 h1; refine (t61 d a c w1 (h1.rd_of (by (repeat (first | exact mH _ _ | apply mT)))) hz (by omega)).mono ?_; rintro v w2 ⟨a3, c3, rfl, hn⟩; refine LR.back (h1.newSl hn) ?_; clear hn h1)))
    all_goals (refine At.stage_same (fun _ h => St.sub h (by repeat (first | exact List.Sublist.refl _ | apply List.Sublist.cons_cons | apply List.Sublist.cons))) ?_))
  all_goals (apply DW.done; (· decide +kernel))
  all_goals apply At.sink
  refine LR.mapUpdate (l := es.map entD) (key := d.seq) (v := d.val a3 c3) rfl rfl rfl (by (repeat (first | exact sH _ _ _ | apply sT))) hfi ?_
  repeat'(first|(apply CW.reg_sinkC 10; (· exact rfl); (· decide +kernel))|refine kv' ?_|apply jJ|refine jE' ?_|refine jp' ?_|(apply jc;kernel_rfl)|refine kg' ?_|refine kG' ?_|refine kB' fun _=>?_|refine kA' fun _=>?_|refine kK' fun _=>?_|refine kU' ?_|((first|refine kR' ?_ ?_|refine kQ' ?_ ?_);all_goals(intro hc;try simp only[hcs]at hc;try(exfalso;first|contradiction|omega))))
  all_goals (
    apply DW.quiet [0, 1, 2, 3, 4, 5, 6, 7, 8, 9]
    · decide +kernel
    · first | exact fun _ h => h | exact fun _ h => St.sub h (by repeat (first | exact List.Sublist.refl _ | apply List.Sublist.cons_cons | apply List.Sublist.cons))
    repeat'(first|refine yv' ?_|(apply QL.ev; (· exact rfl); (· apply Ev.max2; (· exact rfl); (· exact rfl)); (· exact rfl))|refine uv' ?_|refine un' ?_|(refine us' ?_ ?_;all_goals(intro hc;try simp only[hcs]at hc;try(exfalso;first|contradiction|omega)))|apply QL.nil)
    all_goals (show DW _ _ _ _ _ _ _ _))
  all_goals (apply DW.done; (· decide +kernel))
  all_goals apply At.sink
  rw [maxI]
  repeat'(first|refine kv' ?_|apply jJ|refine jE' ?_|refine jp' ?_|(apply jc;kernel_rfl)|refine kg' ?_|refine kG' ?_|refine kB' fun _=>?_|refine kA' fun _=>?_|refine kK' fun _=>?_|refine kU' ?_|((first|refine kR' ?_ ?_|refine kQ' ?_ ?_);all_goals(intro hc;try simp only[hcs]at hc;try(exfalso;first|contradiction|omega))))
  have hlen : (dats (es ++ [⟨d, a3, c3⟩])) = dats es ++ [d] := by unfold dats; simp
  apply CW.loop [4, 5, 8, 9, 55, 56, 57, 58, 59, 60, 61, 62, 63, 64, 65, 66, 67, 68, 69, 70, 71, 72, 73, 74, 75, 76] (fun n : Int => Upto (dats es ++ [d]) n) (fun _ => [])
    (fun n => St w F [wB bw bm n (max high d.seq), mB bm (es ++ [⟨d, a3, c3⟩]), bunD (es ++ [⟨d, a3, c3⟩]), .own b3 (.cells (d.cells a c).toArray 45 (0, 0)), rdA a (bv d.msg.body)]) (fun n => (9007199254740992 - n).toNat)
  · intro w' hw'
    refine ⟨aru, hA.1.more d, trivial, ?_⟩
    have h5 : (es.map entD ++ [(d.seq, d.val a3 c3)]) = (es ++ [(⟨d, a3, c3⟩ : DaA)]).map entD := by simp [entD]
    rw [h5] at hw'
    have h1 : St w F [DaA.body ⟨d, a3, c3⟩, .own b3 (.cells (d.cells a c).toArray 45 (0, 0)), rdA a (bv d.msg.body), wB bw bm aru (max high d.seq), mB bm (es ++ [⟨d, a3, c3⟩]), bunD es] w' := hw'.sub (by (repeat (first | exact List.Sublist.refl _ | apply List.Sublist.cons_cons | apply List.Sublist.cons)))
    have h2 : St w F [DaA.body ⟨d, a3, c3⟩, bunD es, .own b3 (.cells (d.cells a c).toArray 45 (0, 0)), rdA a (bv d.msg.body), wB bw bm aru (max high d.seq), mB bm (es ++ [⟨d, a3, c3⟩])] w' := front (L' := [DaA.body ⟨d, a3, c3⟩, bunD es, .own b3 (.cells (d.cells a c).toArray 45 (0, 0)), rdA a (bv d.msg.body), wB bw bm aru (max high d.seq), mB bm (es ++ [⟨d, a3, c3⟩])]) (front (L' := [bunD es, DaA.body ⟨d, a3, c3⟩, .own b3 (.cells (d.cells a c).toArray 45 (0, 0)), rdA a (bv d.msg.body), wB bw bm aru (max high d.seq), mB bm (es ++ [⟨d, a3, c3⟩])]) h1 5 rfl rfl) 1 rfl rfl
    have h4 := h2.bun_snoc DaA.dep DaA.ex
    exact front (L' := [wB bw bm aru (max high d.seq), mB bm (es ++ [⟨d, a3, c3⟩]), bunD (es ++ [⟨d, a3, c3⟩]), .own b3 (.cells (d.cells a c).toArray 45 (0, 0)), rdA a (bv d.msg.body)]) (front (L' := [mB bm (es ++ [⟨d, a3, c3⟩]), bunD (es ++ [⟨d, a3, c3⟩]), .own b3 (.cells (d.cells a c).toArray 45 (0, 0)), rdA a (bv d.msg.body), wB bw bm aru (max high d.seq)]) h4 4 rfl rfl) 4 rfl rfl
  intro n g1 hn
  have hfd2 := fnd_d (es ++ [⟨d, a3, c3⟩]) (n + 1)
  have hfh2 := fnd_has (dats (es ++ [⟨d, a3, c3⟩])) (n + 1)
  rw [← hfd2, Option.isSome_map, hlen] at hfh2
  have hnb := hn.le hDn
  have hn0 := hn.1
  cases hx : fnd (es ++ [⟨d, a3, c3⟩]) (n + 1) with
  | none =>
    rw [hx] at hfh2
    have hno2 : hasD (dats es ++ [d]) (n + 1) = false := hfh2.symm
    repeat'(first|(apply CW.reg_heldC)|refine kv' ?_|apply jJ|refine jE' ?_|refine jp' ?_|(apply jc;kernel_rfl)|refine kg' ?_|refine kG' ?_|refine kB' fun _=>?_|refine kA' fun _=>?_|refine kK' fun _=>?_|refine kU' ?_|((first|refine kR' ?_ ?_|refine kQ' ?_ ?_);all_goals(intro hc;try simp only[hcs]at hc;try(exfalso;first|contradiction|omega))))
    all_goals (
      apply DW.quiet [0, 1, 2, 3, 4, 5, 6, 7, 8, 9, 10, 11, 12]
      · decide +kernel
      · first | exact fun _ h => h | exact fun _ h => St.sub h (by repeat (first | exact List.Sublist.refl _ | apply List.Sublist.cons_cons | apply List.Sublist.cons))
      repeat'(first|refine yv' ?_|(apply QL.ev; (· exact rfl); (· first | (apply Ev.add; (· exact rfl); (· exact rfl); (· omega); (· omega)) | (apply win_no; (· exact rfl); (· exact rfl); (· exact hx); (· exact fun w' hw' => hw'.own_at (b := bm) (by (repeat (first | exact mH _ _ | apply mT)))))); (· exact rfl))|refine uv' ?_|refine un' ?_|(refine us' ?_ ?_;all_goals(intro hc;try simp only[hcs]at hc;try(exfalso;first|contradiction|omega)))|apply QL.nil)
      all_goals (show DW _ _ _ _ _ _ _ _))
    all_goals (
      apply DW.loud 13
      · exact rfl
      · decide +kernel
      repeat'(first|refine kg' ?_|refine kG' ?_|apply kM|refine kv' ?_|refine kK' fun _=>?_|refine kU' ?_|refine kB' fun _=>?_|refine kA' fun _=>?_)
      all_goals (refine At.stage_same (fun _ h => St.sub h (by repeat (first | exact List.Sublist.refl _ | apply List.Sublist.cons_cons | apply List.Sublist.cons))) ?_))
    all_goals (
      apply DW.loud 14
      · exact rfl
      · decide +kernel
      repeat'(first|refine kg' ?_|refine kG' ?_|apply kM|refine kv' ?_|refine kK' fun _=>?_|refine kU' ?_|refine kB' fun _=>?_|refine kA' fun _=>?_)
      all_goals (refine At.stage_same (fun _ h => St.sub h (by repeat (first | exact List.Sublist.refl _ | apply List.Sublist.cons_cons | apply List.Sublist.cons))) ?_))
    all_goals (
      apply DW.quiet [15]
      · decide +kernel
      · first | exact fun _ h => h | exact fun _ h => St.sub h (by repeat (first | exact List.Sublist.refl _ | apply List.Sublist.cons_cons | apply List.Sublist.cons))
      repeat'(first|refine yv' ?_|(apply QL.ev; (· exact rfl); (· first | (apply Ev.add; (· exact rfl); (· exact rfl); (· omega); (· omega)) | (apply win_no; (· exact rfl); (· exact rfl); (· exact hx); (· exact fun w' hw' => hw'.own_at (b := bm) (by (repeat (first | exact mH _ _ | apply mT)))))); (· exact rfl))|refine uv' ?_|refine un' ?_|(refine us' ?_ ?_;all_goals(intro hc;try simp only[hcs]at hc;try(exfalso;first|contradiction|omega)))|apply QL.nil)
      all_goals (show DW _ _ _ _ _ _ _ _))
    all_goals (first | (apply DW.done_thn; (· decide +kernel)) | (apply DW.done; (· decide +kernel)))
    repeat'(first|refine kv' ?_|apply jJ|refine jE' ?_|refine jp' ?_|(apply jc;kernel_rfl)|refine kg' ?_|refine kG' ?_|refine kB' fun _=>?_|refine kA' fun _=>?_|refine kK' fun _=>?_|refine kU' ?_|((first|refine kR' ?_ ?_|refine kQ' ?_ ?_);all_goals(intro hc;try simp only[hcs]at hc;try(exfalso;first|contradiction|omega))))
    (apply ret2; (· exact rfl); intro w' hS)
    subst hF
    exact ⟨(es ++ [⟨d, a3, c3⟩]), n, rfl, hlen, ⟨hn, hno2⟩, (wO_out (R := []) (hS.sub (by (repeat (first | exact List.Sublist.refl _ | apply List.Sublist.cons_cons | apply List.Sublist.cons))))).step rfl⟩
  | some x =>
    rw [hx] at hfh2
    have hyes : hasD (dats es ++ [d]) (n + 1) = true := hfh2.symm
    have hn1 := (hn.next hyes).le hDn
    repeat'(first|(apply CW.reg_heldC)|refine kv' ?_|apply jJ|refine jE' ?_|refine jp' ?_|(apply jc;kernel_rfl)|refine kg' ?_|refine kG' ?_|refine kB' fun _=>?_|refine kA' fun _=>?_|refine kK' fun _=>?_|refine kU' ?_|((first|refine kR' ?_ ?_|refine kQ' ?_ ?_);all_goals(intro hc;try simp only[hcs]at hc;try(exfalso;first|contradiction|omega))))
    all_goals (
      apply DW.quiet [0, 1, 2, 3, 4, 5, 6, 7, 8, 9, 10, 11, 12]
      · decide +kernel
      · first | exact fun _ h => h | exact fun _ h => St.sub h (by repeat (first | exact List.Sublist.refl _ | apply List.Sublist.cons_cons | apply List.Sublist.cons))
      repeat'(first|refine yv' ?_|(apply QL.ev; (· exact rfl); (· first | (apply Ev.add; (· exact rfl); (· exact rfl); (· omega); (· omega)) | (apply win_yes; (· exact rfl); (· exact rfl); (· exact hx); (· exact fun w' hw' => hw'.own_at (b := bm) (by (repeat (first | exact mH _ _ | apply mT)))))); (· exact rfl))|refine uv' ?_|refine un' ?_|(refine us' ?_ ?_;all_goals(intro hc;try simp only[hcs]at hc;try(exfalso;first|contradiction|omega)))|apply QL.nil)
      all_goals (show DW _ _ _ _ _ _ _ _))
    all_goals (
      apply DW.loud 13
      · exact rfl
      · decide +kernel
      repeat'(first|refine kg' ?_|refine kG' ?_|apply kM|refine kv' ?_|refine kK' fun _=>?_|refine kU' ?_|refine kB' fun _=>?_|refine kA' fun _=>?_)
      all_goals (refine At.stage_same (fun _ h => St.sub h (by repeat (first | exact List.Sublist.refl _ | apply List.Sublist.cons_cons | apply List.Sublist.cons))) ?_))
    all_goals (
      apply DW.loud 14
      · exact rfl
      · decide +kernel
      repeat'(first|refine kg' ?_|refine kG' ?_|apply kM|refine kv' ?_|refine kK' fun _=>?_|refine kU' ?_|refine kB' fun _=>?_|refine kA' fun _=>?_)
      all_goals (refine At.stage_same (fun _ h => St.sub h (by repeat (first | exact List.Sublist.refl _ | apply List.Sublist.cons_cons | apply List.Sublist.cons))) ?_))
    all_goals (
      apply DW.quiet [15]
      · decide +kernel
      · first | exact fun _ h => h | exact fun _ h => St.sub h (by repeat (first | exact List.Sublist.refl _ | apply List.Sublist.cons_cons | apply List.Sublist.cons))
      repeat'(first|refine yv' ?_|(apply QL.ev; (· exact rfl); (· first | (apply Ev.add; (· exact rfl); (· exact rfl); (· omega); (· omega)) | (apply win_yes; (· exact rfl); (· exact rfl); (· exact hx); (· exact fun w' hw' => hw'.own_at (b := bm) (by (repeat (first | exact mH _ _ | apply mT)))))); (· exact rfl))|refine uv' ?_|refine un' ?_|(refine us' ?_ ?_;all_goals(intro hc;try simp only[hcs]at hc;try(exfalso;first|contradiction|omega)))|apply QL.nil)
      all_goals (show DW _ _ _ _ _ _ _ _))
    all_goals (first | (apply DW.done_thn; (· decide +kernel)) | (apply DW.done; (· decide +kernel)))
    repeat'(first|refine kv' ?_|apply jJ|refine jE' ?_|refine jp' ?_|(apply jc;kernel_rfl)|refine kg' ?_|refine kG' ?_|refine kB' fun _=>?_|refine kA' fun _=>?_|refine kK' fun _=>?_|refine kU' ?_|(apply addX;(iterate 2 exact rfl);(iterate 2(first|omega|(dsimp only;omega)));exact rfl)|((first|refine kR' ?_ ?_|refine kQ' ?_ ?_);all_goals(intro hc;try simp only[hcs]at hc;try(exfalso;first|contradiction|omega))))
    refine At.again (n + 1) (hn.next hyes) ?_ trivial (fun w' hw' => hw'.sub (by (repeat (first | exact List.Sublist.refl _ | apply List.Sublist.cons_cons | apply List.Sublist.cons)))) (by omega)
    (repeat (first | exact Out.refl _ _ | exact Out.mix | (apply Out.upd; (· exact rfl)) | (apply Out.updL; (· exact rfl)) | (apply Out.mixs; (· exact rfl))))
end Go.Proofs.YtgblmkpfkcibiaaGreat

namespace Go.Proofs.YtgblmkpfkcibiaaGreat
open Go.Hb
attribute [local irreducible] LR CW At Ev thn blk finK noG again CallsTo
set_option linter.unusedSimpArgs false
set_option linter.unusedVariables false
set_option maxRecDepth 100000

def rmay (s r : Int) : Bool := !(decide (s = 0 ∧ r = 0)) && ringB s r
structure Tk where
  r1 : Int
  r2 : Int
  hop : Int
  seq : Int
  aru : Int
  low : Int
  stamp : Int
  idle : Int
  ask : List Int
deriving DecidableEq
def Tk.cells (t : Tk) (a : Option Addr) (c : Nat) : List Value := [.int .i64 t.r1, .int .i64 t.r2, .int .i64 t.hop, .int .i64 t.seq, .int .i64 t.aru, .int .i64 t.low, .int .i64 t.stamp, .int .i64 t.idle, .slice a t.ask.length c]
def Tk.val (t : Tk) (a : Option Addr) (c : Nat) : Value := .agg (t.cells a c).toArray
def noTk : Tk := ⟨0, 0, 0, 0, 0, 0, 0, 0, []⟩
def Tk.headB (t : Tk) : Bool := rmay t.r1 t.r2 && withinB t.hop 1 9007199254740991 && withinB t.seq 0 9007199254740991 && withinB t.aru 0 t.seq && withinB t.low 0 8 && withinB t.stamp 0 9007199254740991 && withinB t.idle 0 9007199254740991 && decide (t.ask.length ≤ 16)
def askB (q : Int) : Int → List Int → Bool
  | _, [] => true
  | z, x :: l => withinB x (z + 1) q && askB q x l
def lastI (z : Int) (l : List Int) : Int := l.getLastD z
theorem askB_snoc (q : Int) : ∀ (l : List Int) (z x : Int), askB q z (l ++ [x]) = (askB q z l && withinB x (lastI z l + 1) q)
  | [], z, x => by simp [askB, lastI]
  | y :: l, z, x => by
    rw [List.cons_append, askB, askB, askB_snoc q l y x, Bool.and_assoc]
    congr 3
    unfold lastI
    cases l <;> simp [List.getLastD]
theorem askB_last (q : Int) : ∀ (l : List Int) (z : Int), askB q z l = true → z ≤ lastI z l ∧ (l ≠ [] → lastI z l ≤ q)
  | [], z, _ => ⟨by simp [lastI], fun h => absurd rfl h⟩
  | y :: l, z, h => by
    rw [askB, Bool.and_eq_true] at h
    have h1 := h.1
    unfold withinB at h1
    simp only [Bool.and_eq_true, decide_eq_true_eq] at h1
    have h2 := askB_last q l y h.2
    have e : lastI z (y :: l) = lastI y l := by unfold lastI; cases l <;> simp [List.getLastD]
    rw [e]
    refine ⟨by omega, fun _ => ?_⟩
    by_cases hl : l = []
    · subst hl; simp [lastI]; omega
    · exact h2.2 hl
def tokB (t : Tk) : Bool := t.headB && askB t.seq 0 t.ask
def tokE (t : Tk) : Int := if tokB t then 0 else 2
def mayAt (t : Tk) (i : Nat) : Bool := t.headB && askB t.seq 0 (t.ask.take i)
def lastAt (t : Tk) (i : Nat) : Int := lastI 0 (t.ask.take i)
theorem lastAt_bd {t : Tk} {i : Nat} (h : mayAt t i = true) : 0 ≤ lastAt t i ∧ lastAt t i ≤ 9007199254740991 := by
  unfold mayAt at h
  rw [Bool.and_eq_true] at h
  have h2 := askB_last t.seq _ 0 h.2
  have h1 := h.1
  unfold Tk.headB withinB at h1
  simp only [Bool.and_eq_true, decide_eq_true_eq] at h1
  unfold lastAt
  by_cases hl : t.ask.take i = []
  · rw [hl]; simp [lastI]
  · have := h2.2 hl; omega
theorem mayAt_succ {t : Tk} {i : Nat} (h : i < t.ask.length) : mayAt t (i + 1) = (mayAt t i && withinB t.ask[i] (lastAt t i + 1) t.seq) := by
  unfold mayAt lastAt
  rw [List.take_add_one, List.getElem?_eq_getElem h, Option.toList_some, askB_snoc, Bool.and_assoc]
theorem lastAt_succ {t : Tk} {i : Nat} (h : i < t.ask.length) : lastAt t (i + 1) = t.ask[i] := by
  unfold lastAt lastI
  rw [List.take_add_one, List.getElem?_eq_getElem h, Option.toList_some, List.getLastD_eq_getLast?, List.getLast?_append]
  simp
end Go.Proofs.YtgblmkpfkcibiaaGreat

namespace Go.Proofs.YtgblmkpfkcibiaaGreat
open Go.Hb
attribute [local irreducible] LR CW At Ev thn blk finK noG again CallsTo
set_option linter.unusedSimpArgs false
set_option linter.unusedVariables false
set_option maxRecDepth 100000

abbrev il (a : Option Addr) (c : Nat) (l : List Int) : Asrt := osl (.slice a l.length c) 3 1 l.length (iv l)
abbrev idl (a : Option Addr) (c : Nat) (l : List Int) : Asrt := odl (.slice a l.length c) 3 1 l.length (iv l)
theorem iv1 (l : List Int) : (iv l).all Value.oneCell' = true := by simp [iv, Value.oneCell']
theorem rd_none0 {w : World} {a : Option Addr} {l : List Int} (hr : Rd w a (iv l)) (h : a = none) : l.length = 0 := by
  subst h
  cases l with
  | nil => rfl
  | cons x t =>
    obtain ⟨ad, he, _⟩ := hr 0 _ rfl
    cases he
theorem take_succ_eq' {l r : List Int} {i : Nat} (h : i < l.length) (hr : i < r.length) (he : l.take i = r.take i) (hx : l[i] = r[i]) : l.take (i + 1) = r.take (i + 1) := by
  rw [List.take_add_one, List.take_add_one, List.getElem?_eq_getElem h, List.getElem?_eq_getElem hr, he, hx]
def newTk (r1 r2 s : Int) : Tk × Int := if rmay r1 r2 && withinB s 0 9007199254740991 then (⟨r1, r2, 1, 0, 0, 0, s, 0, []⟩, 0) else (noTk, 2)
end Go.Proofs.YtgblmkpfkcibiaaGreat

namespace Go.Proofs.YtgblmkpfkcibiaaGreat
open Go.Hb
attribute [local irreducible] LR CW At Ev thn blk finK noG again CallsTo DW QL dnext TW DP
set_option linter.unusedSimpArgs false
set_option linter.unusedVariables false
set_option maxRecDepth 100000

def absent (D : List Dat) (a : Int) (n : Nat) : List Int := ((List.range n).map fun k : Nat => a + (k : Int)).filter fun s => !hasD D s
theorem absent_succ (D : List Dat) (a : Int) (k : Nat) : absent D a (k + 1) = absent D a k ++ if hasD D (a + k) then [] else [a + (k : Int)] := by
  unfold absent
  rw [List.range_succ, List.map_append, List.filter_append]
  congr 1
  by_cases h : hasD D (a + k) = true
  · simp [h]
  · simp [h]
theorem absent_split (D : List Dat) (a : Int) (k : Nat) : ∀ j, absent D a (k + j) = absent D a k ++ absent D (a + k) j
  | 0 => by simp [absent]
  | j + 1 => by
    rw [← Nat.add_assoc, absent_succ, absent_split D a k j, absent_succ, List.append_assoc]
    have : a + ((k + j : Nat) : Int) = a + (k : Int) + (j : Int) := by omega
    rw [this]
theorem absent_upto {D : List Dat} {n : Int} (h : Upto D n) : ∀ k : Nat, (k : Int) ≤ n → absent D 1 k = []
  | 0, _ => rfl
  | k + 1, hk => by rw [absent_succ, absent_upto h k (by omega), h.2 (1 + k) (by omega) (by omega)]; rfl
theorem absent_len (D : List Dat) (a : Int) (n : Nat) : (absent D a n).length ≤ n := by
  unfold absent
  refine Nat.le_trans (List.length_filter_le _ _) ?_
  simp
def gapsT (D : List Dat) (high most : Int) : List Int := (absent D 1 high.toNat).take (min most 16).toNat
theorem gapsT_from {D : List Dat} {aru high : Int} (h : Upto D aru) (hh : aru ≤ high) (most : Int) : gapsT D high most = (absent D (aru + 1) (high - aru).toNat).take (min most 16).toNat := by
  unfold gapsT
  have h0 := h.1
  have e : high.toNat = aru.toNat + (high - aru).toNat := by omega
  rw [e, absent_split, absent_upto h _ (by omega), List.nil_append]
  have e2 : (1 : Int) + (aru.toNat : Int) = aru + 1 := by omega
  rw [e2]
structure Gst where
  k : Nat
  a : Option Addr
  c : Nat
end Go.Proofs.YtgblmkpfkcibiaaGreat

namespace Go.Proofs
open Go.Shelf
def Tryz.lays189_ren : Go.Shelf.Ren := ⟨fun | 189 => 58 | 125 => 79 | 257 => 78 | 128 => 105 | 129 => 106 | 294 => 96 | 295 => 97 | 296 => 98 | 297 => 99 | 298 => 100 | 299 => 101 | 216 => 102 | 300 => 103 | 301 => 104 | 328 => 111 | 329 => 112 | 330 => 113 | 331 => 114 | 332 => 115 | 215 => 116 | 343 => 119 | n => n, fun | 28 => 80 | 3 => 3 | 46 => 115 | 0 => 0 | 51 => 142 | 53 => 144 | 4 => 4 | 183 => 134 | 182 => 133 | 131 => 139 | 5 => 5 | 9 => 9 | 218 => 150 | 222 => 110 | 228 => 157 | 229 => 158 | n => n, fun | n => n⟩
theorem Tryz.lays189 : Go.Proofs.Lays.n189 Tryz.prog Tryz.lays189_ren := {
  mixed := by kernel_rfl
  f125 := Tryz.func79.trans (congrArg some (by kernel_rfl))
  f128 := Tryz.func105.trans (congrArg some (by kernel_rfl))
  f129 := Tryz.func106.trans (congrArg some (by kernel_rfl))
  f189 := Tryz.func58.trans (congrArg some (by kernel_rfl))
  f215 := Tryz.func116.trans (congrArg some (by kernel_rfl))
  f216 := Tryz.func102.trans (congrArg some (by kernel_rfl))
  f257 := Tryz.func78.trans (congrArg some (by kernel_rfl))
  f294 := Tryz.func96.trans (congrArg some (by kernel_rfl))
  f295 := Tryz.func97.trans (congrArg some (by kernel_rfl))
  f296 := Tryz.func98.trans (congrArg some (by kernel_rfl))
  f297 := Tryz.func99.trans (congrArg some (by kernel_rfl))
  f298 := Tryz.func100.trans (congrArg some (by kernel_rfl))
  f299 := Tryz.func101.trans (congrArg some (by kernel_rfl))
  f300 := Tryz.func103.trans (congrArg some (by kernel_rfl))
  f301 := Tryz.func104.trans (congrArg some (by kernel_rfl))
  f328 := Tryz.func111.trans (congrArg some (by kernel_rfl))
  f329 := Tryz.func112.trans (congrArg some (by kernel_rfl))
  f330 := Tryz.func113.trans (congrArg some (by kernel_rfl))
  f331 := Tryz.func114.trans (congrArg some (by kernel_rfl))
  f332 := Tryz.func115.trans (congrArg some (by kernel_rfl))
  f343 := Tryz.func119.trans (congrArg some (by kernel_rfl))
  t0 := Tryz.underlying0
  a0 := Tryz.isAgg0
  z0 := Tryz.sizeOf0
  v0 := Tryz.zeroValue0
  t3 := Tryz.underlying3
  a3 := Tryz.isAgg3
  z3 := Tryz.sizeOf3
  v3 := Tryz.zeroValue3
  t4 := Tryz.underlying4
  a4 := Tryz.isAgg4
  z4 := Tryz.sizeOf4
  v4 := Tryz.zeroValue4
  t5 := Tryz.underlying5
  a5 := Tryz.isAgg5
  z5 := Tryz.sizeOf5
  v5 := Tryz.zeroValue5
  t9 := Tryz.underlying9
  a9 := Tryz.isAgg9
  z9 := Tryz.sizeOf9
  v9 := Tryz.zeroValue9
  t28 := Tryz.underlying80
  a28 := Tryz.isAgg80
  z28 := Tryz.sizeOf80
  v28 := Tryz.zeroValue80
  t46 := Tryz.underlying115
  a46 := Tryz.isAgg115
  z46 := Tryz.sizeOf115
  v46 := Tryz.zeroValue115
  t51 := Tryz.underlying142
  a51 := Tryz.isAgg142
  z51 := Tryz.sizeOf142
  v51 := Tryz.zeroValue142
  t53 := Tryz.underlying144
  a53 := Tryz.isAgg144
  z53 := Tryz.sizeOf144
  v53 := Tryz.zeroValue144
  t131 := Tryz.underlying139
  a131 := Tryz.isAgg139
  z131 := Tryz.sizeOf139
  v131 := Tryz.zeroValue139
  t182 := Tryz.underlying133
  a182 := Tryz.isAgg133
  z182 := Tryz.sizeOf133
  v182 := Tryz.zeroValue133
  t183 := Tryz.underlying134
  a183 := Tryz.isAgg134
  z183 := Tryz.sizeOf134
  v183 := Tryz.zeroValue134
  t218 := Tryz.underlying150
  a218 := Tryz.isAgg150
  z218 := Tryz.sizeOf150
  v218 := Tryz.zeroValue150
  t222 := Tryz.underlying110
  a222 := Tryz.isAgg110
  z222 := Tryz.sizeOf110
  v222 := Tryz.zeroValue110
  t228 := Tryz.underlying157
  a228 := Tryz.isAgg157
  z228 := Tryz.sizeOf157
  v228 := Tryz.zeroValue157
  t229 := Tryz.underlying158
  a229 := Tryz.isAgg158
  z229 := Tryz.sizeOf158
  v229 := Tryz.zeroValue158 }
open Go.Sort Go.RowKit in
theorem Tryz.slices_Sort_int (blk off cap : Nat) (zs : List Int) (w : World) (hH : Holds (Value.int .i64) w blk off zs.toArray) (hblk : blk < w.heap.size) (hsz : zs.length < 4611686018427387904) :
    Calls Tryz.prog 58 #[.slice (some ⟨blk, off, none⟩) zs.length cap] w fun e w' =>
      e = .returned (.tuple #[]) ∧ ∃ n os, w' = grow (putRow (Value.int .i64) (Sort.ahead w n) blk off (zs.mergeSort fun x y => decide (x ≤ y)).toArray) os := Any.slices_Sort_int Tryz.lays189 blk off cap zs w hH hblk hsz
theorem Tryz.slices_Sort_int_none (p : Option Addr) (cap : Nat) (w : World) :
    Calls Tryz.prog 58 #[.slice p 0 cap] w fun e w' => e = .returned (.tuple #[]) ∧ w' = w := Any.slices_Sort_int_none Tryz.lays189 p cap w
end Go.Proofs

namespace Go.Proofs.YtgblmkpfkcibiaaGreat
open Go.Hb
attribute [local irreducible] LR CW At Ev thn blk finK noG again CallsTo
set_option linter.unusedSimpArgs false
set_option linter.unusedVariables false
set_option maxRecDepth 100000

def sortI (l : List Int) : List Int := l.mergeSort fun x y => decide (x ≤ y)
theorem sortI_len (l : List Int) : (sortI l).length = l.length := List.length_mergeSort ..
theorem compact_len (l : List Int) : (Lib.compact l).length ≤ l.length := by
  unfold Lib.compact Lib.compactUpTo
  rw [List.length_map]
  refine Nat.le_trans (List.length_filter_le _ _) ?_
  simp
theorem callsTo_of {P : Program} {g : FuncId} {args : List Value} {w : World} {R : Ending → World → Prop} {K : Value → World → Prop} (h : Calls P g args.toArray w R) (hk : ∀ e w', R e w' → ∃ v, e = .returned v ∧ K v w') : CallsTo P g args w K :=
  by unfold CallsTo; exact Calls.mono h hk
theorem il_stay {w : World} {a : Option Addr} {c : Nat} {l : List Int} (h : w.ownsRow 0 3 1 (.slice a l.length c) l.length (iv l)) : Step (il a c l) (il a c l) w w :=
  ⟨St.refl w _, h, fun _ hk => .inl hk⟩
theorem t53 (a : Option Addr) (c : Nat) (l : List Int) (w : World) (h : w.ownsRow 0 3 1 (.slice a l.length c) l.length (iv l)) (hm : l.length ≤ 140737488355328) :
    CallsTo Tryz.prog 58 [.slice a l.length c] w fun v w' => v = .tuple #[] ∧ Step (il a c l) (il a c (sortI l)) w w' := by
  by_cases hl : l = []
  · subst hl
    refine callsTo_of (Tryz.slices_Sort_int_none a c w) ?_
    rintro e w' ⟨rfl, rfl⟩
    exact ⟨_, rfl, rfl, by simpa [sortI] using il_stay h⟩
  · rcases h.2 with ⟨he, hn⟩ | ⟨g, cap, cur, he, hb, hg, h1, h2, h3, h4⟩
    · exact absurd (List.eq_nil_of_length_eq_zero hn) hl
    simp only [Value.slice.injEq, true_and] at he
    obtain ⟨rfl, rfl⟩ := he
    rw [Nat.mul_one] at h4
    refine callsTo_of (Tryz.slices_Sort_int g 0 c l w (holds_of_blockI hg h4) ((Array.getElem?_eq_some_iff.1 hg).1) (by omega)) ?_
    rintro e w' ⟨rfl, n, os, rfl⟩
    refine ⟨_, rfl, rfl, keep_of_grown (grownBy_sortedI _) (fun k hk => ?_), ?_, fun k hk => .inl hk⟩
    · cases hk; exact rfl
    · have := ownsRow_sortedI (base := 0) (n := n) (os := os) (sortI_len l) (Nat.zero_le _) hg h1 h2 h3
      show World.ownsRow _ _ _ _ _ _ _
      rw [sortI_len]
      exact this
/-- l[:k:k] -/
theorem Ev.slice_cut {P : Program} {f : Frm} {T T' E : TypeId} {x y z : Operand} {C : World → Prop} {sz by_ k c j : Nat} {a : Option Addr} [h : SliceOf P T E sz by_] (hx : f.ev x = .slice a k c) (hy : f.ev y = .int .i64 (j : Int)) (hz : f.ev z = .int .i64 (j : Int)) (h2 : j ≤ c) :
    Ev P C f (.slice T x none (some y) (some z)) T' (.slice (subA a j 0 sz) j j) := by
  unfold Ev
  intro w _ d p af g
  simp [execOp, hx, hy, hz, Instr.sliceAt, Instr.slice, Instr.sliceBounds, Instr.sliceBound, asIntOf, run_underlying h.und, size_of_slice h, h2, subA]
theorem ownsAt_cut {w : World} {E : TypeId} {sz k c l : Nat} {a : Option Addr} {xs : List Value} (h : ownsAt w E sz (.slice a k c) k xs) (hl : l ≤ k) : ownsAt w E sz (.slice a l l) l (xs.take (l * sz)) := by
  have hm : l * sz ≤ k * sz := Nat.mul_le_mul_right _ hl
  refine ⟨by rw [List.length_take, h.1]; omega, ?_⟩
  rcases h.2 with ⟨he, hn⟩ | ⟨g, o, cap, cur, he, hg, h1, h2, h3, h4⟩
  · simp only [Value.slice.injEq] at he
    obtain ⟨rfl, _, rfl⟩ := he
    have : l = 0 := by omega
    subst this
    exact .inl ⟨rfl, rfl⟩
  · simp only [Value.slice.injEq] at he
    obtain ⟨rfl, _, rfl⟩ := he
    have hm2 : l * sz ≤ c * sz := Nat.mul_le_mul_right _ (by omega)
    refine .inr ⟨g, o, l, cur, rfl, hg, by omega, by omega, by omega, ?_⟩
    rw [← h4, List.take_take, Nat.min_eq_left hm]
theorem ownsAt_sub0 {w : World} {E : TypeId} {sz n c j : Nat} {a : Option Addr} {xs : List Value} (h : ownsAt w E sz (.slice a n c) n xs) : subA a j 0 sz = a := by
  rcases h.2 with ⟨he, hn⟩ | ⟨g, o, cap, cur, he, _⟩
  · simp only [Value.slice.injEq] at he
    obtain ⟨rfl, _, rfl⟩ := he
    simp [subA]
  · simp only [Value.slice.injEq] at he
    obtain ⟨rfl, _, rfl⟩ := he
    exact subA_zero
/-- A new slice that may be a piece of its block. -/
structure NewOd (w w' : World) (v : Value) (E : TypeId) (sz n : Nat) (xs : List Value) : Prop where
  grew : Grew w w'
  own : ownsAt w' E sz v n xs
  new : ∀ k, v.ownBlock = some k → w.heap.size ≤ k ∧ k < w'.heap.size
theorem St.newOd {w0 w w' : World} {F : Nat → Prop} {L : List Asrt} {v : Value} {E : TypeId} {sz n : Nat} {xs : List Value} (h : St w0 F L w) (hn : NewOd w w' v E sz n xs) : St w0 F (odl v E sz n xs :: L) w' :=
  h.push hn.grew hn.own (fun k hk => hn.new k hk) (odl.dep _ _ _ _ _)
end Go.Proofs.YtgblmkpfkcibiaaGreat

namespace Go.Proofs
open Go.Shelf
def Tryz.keysA_ren : Go.Shelf.Ren := ⟨fun | 7 => 44 | 10 => 59 | n => n, fun | 23 => 68 | 26 => 3 | 3 => 45 | 28 => 83 | 0 => 0 | 27 => 82 | 33 => 88 | 4 => 4 | n => n, fun | n => n⟩
theorem Tryz.keysA : Go.Proofs.SlLaysZI.n7 Tryz.prog Tryz.keysA_ren := {
  mixed := by kernel_rfl
  f7 := ⟨Tryz.f44.name, by decide, Tryz.func44.trans (congrArg some (by kernel_rfl))⟩
  f10 := ⟨Tryz.f59.name, by decide, Tryz.func59.trans (congrArg some (by kernel_rfl))⟩
  t0 := Tryz.underlying0
  a0 := Tryz.isAgg0
  z0 := Tryz.sizeOf0
  v0 := Tryz.zeroValue0
  t4 := Tryz.underlying4
  a4 := Tryz.isAgg4
  z4 := Tryz.sizeOf4
  v4 := Tryz.zeroValue4
  t23 := Tryz.underlying68
  a23 := Tryz.isAgg68
  z23 := Tryz.sizeOf68
  v23 := Tryz.zeroValue68
  t26 := Tryz.underlying3
  a26 := Tryz.isAgg3
  z26 := Tryz.sizeOf3
  v26 := Tryz.zeroValue3
  t27 := Tryz.underlying82
  a27 := Tryz.isAgg82
  z27 := Tryz.sizeOf82
  v27 := Tryz.zeroValue82
  t28 := Tryz.underlying83
  a28 := Tryz.isAgg83
  z28 := Tryz.sizeOf83
  v28 := Tryz.zeroValue83
  t33 := Tryz.underlying88
  a33 := Tryz.isAgg88
  z33 := Tryz.sizeOf88
  v33 := Tryz.zeroValue88 }
def Tryz.sortedA_ren : Go.Shelf.Ren := ⟨fun | 6 => 43 | 8 => 57 | 9 => 58 | 11 => 77 | 13 => 79 | 12 => 78 | 23 => 105 | 24 => 106 | 14 => 96 | 15 => 97 | 16 => 98 | 17 => 99 | 18 => 100 | 19 => 101 | 20 => 102 | 21 => 103 | 22 => 104 | 25 => 111 | 26 => 112 | 27 => 113 | 28 => 114 | 29 => 115 | 30 => 116 | 31 => 119 | n => n, fun | 26 => 3 | 28 => 83 | 24 => 80 | 0 => 0 | 3 => 3 | 37 => 115 | 48 => 142 | 50 => 144 | 4 => 4 | 40 => 134 | 39 => 133 | 45 => 139 | 5 => 5 | 9 => 9 | 51 => 150 | 55 => 110 | 57 => 157 | 58 => 158 | 33 => 88 | n => n, fun | n => n⟩
theorem Tryz.sortedA : Go.Proofs.SlLaysZI.n6 Tryz.prog Tryz.sortedA_ren := {
  mixed := by kernel_rfl
  f6 := ⟨Tryz.f43.name, by decide, Tryz.func43.trans (congrArg some (by kernel_rfl))⟩
  f8 := ⟨Tryz.f57.name, by decide, Tryz.func57.trans (congrArg some (by kernel_rfl))⟩
  f11 := ⟨Tryz.f77.name, by decide, Tryz.func77.trans (congrArg some (by kernel_rfl))⟩
  t0 := Tryz.underlying0
  a0 := Tryz.isAgg0
  z0 := Tryz.sizeOf0
  v0 := Tryz.zeroValue0
  t24 := Tryz.underlying80
  a24 := Tryz.isAgg80
  z24 := Tryz.sizeOf80
  v24 := Tryz.zeroValue80
  t26 := Tryz.underlying3
  a26 := Tryz.isAgg3
  z26 := Tryz.sizeOf3
  v26 := Tryz.zeroValue3
  t28 := Tryz.underlying83
  a28 := Tryz.isAgg83
  z28 := Tryz.sizeOf83
  v28 := Tryz.zeroValue83
  i26 := by kernel_rfl }
end Go.Proofs

namespace Go.Proofs.YtgblmkpfkcibiaaGreat
open Go.Hb Go.Maps Go.Sort Go.Shelf Go.RowKit
set_option linter.unusedSimpArgs false
set_option linter.unusedVariables false
set_option maxRecDepth 100000

abbrev rU : Value → Option (DataW Unit × List MemPlace) := fun _ => some (.nil, [])
theorem sortsA (m : Nat) : AnyZI.SortsIn Tryz.prog Tryz.sortedA_ren Fence.wide m :=
  ⟨fun blk off cap ss W hH hblk hsz => callsIn_wide.2 (Tryz.slices_Sort_int blk off cap ss W hH hblk hsz), fun p cap W => callsIn_wide.2 (Tryz.slices_Sort_int_none p cap W)⟩
theorem ents_list (q : IntKind) : ∀ (l : List (Int × Value)) (n : Nat), (ents q n l).map (·.key) = l.map (fun x => Value.int q x.1) ∧ (ents q n l).map (·.born) = List.range' n l.length
  | [], n => ⟨rfl, rfl⟩
  | x :: r, n => by
    obtain ⟨h1, h2⟩ := ents_list q r (n + 1)
    simp [ents, h1, h2, List.range'_succ]
theorem key_i64 {x : Int} (h : -9223372036854775808 ≤ x ∧ x ≤ 9223372036854775807) : keyOf Tryz.prog 3 (.int .i64 x) = some (.int .i64 x) := by
  have e1 : IntKind.i64.min = -9223372036854775808 := rfl
  have e2 : IntKind.i64.max = 9223372036854775807 := rfl
  have hw : (Lit.int .i64 x).wf = true := by
    simp only [Lit.wf, e1, e2, Bool.and_eq_true, decide_eq_true_eq]
    omega
  simp [keyOf, Tryz.underlying3, mapKey, hw]
theorem keys_own {w : World} {bm : Nat} {es : List DaA} (hb : w.heap[bm]? = some (mapObj .i64 (es.map entD))) (hD : WOk (dats es)) (hl : es.length ≤ 100000) :
    ∃ D0 : DataW Unit, w.ownsMap Tryz.prog 3 rU bm es.length D0 ∧ (intKeys D0).Perm ((dats es).map Dat.seq) ∧ Maps.size D0 = es.length := by
  obtain ⟨hk, hbn⟩ := ents_list .i64 (es.map entD) 0
  have hlen : (ents .i64 0 (es.map entD)).length = es.length := by
    have := congrArg List.length hk
    simpa using this
  have hk2 : (ents .i64 0 (es.map entD)).map (·.key) = (dats es).map fun d => Value.int .i64 d.seq := by
    rw [hk]
    simp [dats, entD, Function.comp_def]
  have hrd : ∀ x ∈ ents .i64 0 (es.map entD), ∃ d ∈ dats es, x.key = .int .i64 d.seq ∧ WideElems.rd Tryz.prog 3 rU x = some (.int .i64 d.seq, .nil) := by
    intro x hx
    have : x.key ∈ (dats es).map fun d => Value.int .i64 d.seq := by rw [← hk2]; exact List.mem_map_of_mem hx
    obtain ⟨d, hd, he⟩ := List.mem_map.1 this
    have hr := hD.rng d hd
    refine ⟨d, hd, he.symm, ?_⟩
    unfold WideElems.rd
    rw [← he, key_i64 (by omega)]
    rfl
  have hfit : WideElems.Fit Tryz.prog 3 rU (ents .i64 0 (es.map entD)).toArray (es.map entD).length := by
    refine ⟨by simp [hlen]; unfold maxLen; omega, ⟨fun x hx => ?_, ?_, ?_⟩, fun x hx => ?_⟩
    · have hx : x ∈ ents .i64 0 (es.map entD) := by simpa using hx
      have : x.born ∈ List.range' 0 (es.map entD).length := by rw [← hbn]; exact List.mem_map_of_mem hx
      have := List.mem_range'_1.1 this
      omega
    · show ((ents .i64 0 (es.map entD)).map (·.born)).Nodup
      rw [hbn]
      exact List.nodup_range'
    · show ((ents .i64 0 (es.map entD)).map (·.key)).Nodup
      rw [hk2]
      have h2 : ((dats es).map fun d => Value.int .i64 d.seq) = ((dats es).map Dat.seq).map (Value.int .i64) := by simp
      rw [h2]
      exact List.Pairwise.map _ (fun a b hab e => hab (by simpa using e)) hD.nodup
    · obtain ⟨d, _, _, hr⟩ := hrd x (by simpa using hx)
      exact ⟨_, hr⟩
  have hrg : (ents .i64 0 (es.map entD)).map (WideElems.rg Tryz.prog 3 rU) = (dats es).map fun d => ((Lit.int .i64 d.seq, .nil) : Lit × DataW Unit) := by
    have h3 : ∀ x ∈ ents .i64 0 (es.map entD), WideElems.rg Tryz.prog 3 rU x = (match x.key with | .int _ s => (Lit.int .i64 s, .nil) | _ => (Lit.bool false, .nil)) := by
      intro x hx
      obtain ⟨d, _, he, hr⟩ := hrd x hx
      unfold WideElems.rg
      rw [hr, he]
      rfl
    rw [List.map_congr_left h3]
    have h4 : (ents .i64 0 (es.map entD)).map (fun x => (match x.key with | .int _ s => (Lit.int .i64 s, .nil) | _ => (Lit.bool false, .nil) : Lit × DataW Unit)) = ((ents .i64 0 (es.map entD)).map (·.key)).map (fun v => (match v with | .int _ s => (Lit.int .i64 s, .nil) | _ => (Lit.bool false, .nil) : Lit × DataW Unit)) := by rw [List.map_map]; rfl
    rw [h4, hk2, List.map_map]
    rfl
  have hperm := WideShapes.sorted_perm ((ents .i64 0 (es.map entD)).map (WideElems.rg Tryz.prog 3 rU))
  refine ⟨_, ⟨_, _, hb, hfit, by simp [hlen], rfl⟩, ?_, ?_⟩
  · show (List.map (fun p : Lit × DataW Unit => Go.intOf p.1) _).Perm _
    refine (hperm.map _).trans ?_
    rw [hrg, List.map_map]
    exact List.Perm.refl _
  · show List.length _ = _
    rw [hperm.length_eq]
    simp [hlen]
theorem below_grew {w w' : World} (h : Go.RowKit.Below w.heap.size w w') : Grew w w' :=
  ⟨h.os, h.tape, h.output, h.size, fun k hk _ => h.block k hk, fun _ h => (by cases h), fun _ h => (by cases h), fun _ h => (by cases h), List.Pairwise.nil, fun _ h => (by cases h)⟩
theorem t65 (mb : Option Nat) (w : World) : CallsTo Tryz.prog 44 [.map mb] w fun v w' => v = .func (.func 59) #[] [.pointer (some ⟨w.heap.size, 0, none⟩)].toArray ∧ w' = w.alloc (.cells #[.map mb] 68) := by
  have h := callsIn_wide.1 (AnyZI.keys_in Tryz.keysA Fence.wide 5 trivial rfl mb w)
  refine callsTo_of (g := 44) h ?_
  rintro e w' ⟨rfl, rfl⟩
  exact ⟨_, rfl, rfl, rfl⟩
theorem t64 (bm bk : Nat) (es : List DaA) (w : World) (hb : w.heap[bm]? = some (mapObj .i64 (es.map entD))) (hk : w.heap[bk]? = some (.cells #[.map (some bm)] 68 (0, 0))) (hD : WOk (dats es)) (hl : es.length ≤ 100000) :
    CallsTo Tryz.prog 43 [.func (.func 59) #[] [.pointer (some ⟨bk, 0, none⟩)].toArray] w fun v w' => ∃ a c, v = .slice a es.length c ∧ NewSl w w' (.slice a es.length c) 3 1 es.length (iv (sortI ((dats es).map Dat.seq))) := by
  obtain ⟨D0, hown, hperm, hsize⟩ := keys_own hb hD hl
  have hseq : SeqGives Fence.wide 2 Tryz.prog 59 #[.pointer (some ⟨bk, 0, none⟩)] encZ (fun ss => ss.Perm (intKeys D0)) (Maps.size D0) w :=
    AnyZI.keys_gives (ρ := Tryz.keysA_ren) { Tryz.keysA with } Fence.wide _ trivial rfl (by omega) bk bm es.length D0 _ (Array.getElem?_eq_some_iff.1 hk).1 (by rw [cell_own hk]; rfl) hown
  have cS := AnyZI.sorted_in Tryz.sortedA Fence.wide 5 trivial trivial trivial trivial rfl (by omega) (sortsA _) (enters_of Tryz.func58 (by kernel_rfl) rfl) 59 #[.pointer (some ⟨bk, 0, none⟩)] trivial (enters_of Tryz.func59 (by kernel_rfl) rfl) _ _ (by rw [hsize]; unfold maxLen; omega) (by rw [hsize]; omega) w hseq
  change CallsIn _ _ Tryz.prog 43 _ _ _ at cS
  refine callsTo_of (g := 43) (callsIn_wide.1 cS) ?_
  rintro e w' ⟨v, ss, rfl, hS, hrow, _, hbel⟩
  have hss : ss.length = es.length := by
    rw [hS.length_eq, hperm.length_eq]
    simp [dats]
  have hso : (ss.mergeSort fun x y => decide (x ≤ y)) = sortI ((dats es).map Dat.seq) := mergeSort_of_perm_i (hS.trans hperm)
  rw [hso, hss] at hrow
  obtain ⟨a, c, rfl⟩ := slice_form hrow
  exact ⟨_, rfl, a, c, rfl, below_grew hbel, hrow⟩
end Go.Proofs.YtgblmkpfkcibiaaGreat

namespace Go.Proofs.YtgblmkpfkcibiaaGreat
open Go.Hb
attribute [local irreducible] LR CW At Ev thn blk finK noG again CallsTo DW QL dnext TW DP
set_option linter.unusedSimpArgs false
set_option linter.unusedVariables false
set_option maxRecDepth 100000

def sqs (D : List Dat) : List Int := sortI (D.map Dat.seq)
def abvS (D : List Dat) (q : Int) (S : List Int) : List Dat := (S.filter fun s => decide (q < s)).map (getT D)
def abvT (D : List Dat) (q : Int) : List Dat := abvS D q (sqs D)
theorem abvS_snoc (D : List Dat) (q : Int) (S : List Int) (s : Int) : abvS D q (S ++ [s]) = abvS D q S ++ if q < s then [getT D s] else [] := by
  unfold abvS
  rw [List.filter_append, List.map_append]
  congr 1
  by_cases h : q < s <;> simp [h]
theorem sqs_len (D : List Dat) : (sqs D).length = D.length := by unfold sqs; rw [sortI_len, List.length_map]
theorem mem_sqs {D : List Dat} {s : Int} : s ∈ sqs D ↔ hasD D s = true := by
  unfold sqs sortI
  rw [List.mem_mergeSort, has_iff, List.mem_map]
theorem abvS_len (D : List Dat) (q : Int) (S : List Int) : (abvS D q S).length ≤ S.length := by
  unfold abvS
  rw [List.length_map]
  exact List.length_filter_le _ _
theorem take_snocI {L : List Int} {k : Nat} (h : k < L.length) : L.take (k + 1) = L.take k ++ [L[k]] := by
  rw [List.take_add_one, List.getElem?_eq_getElem h]
  rfl
/-- A row of data that is one's own. -/
abbrev dS (a : Option Addr) (c : Nat) (o : List DaA) : Asrt := osl (.slice a o.length c) 45 18 o.length (o.flatMap DaA.row)
def dO (a : Option Addr) (c : Nat) (o : List DaA) : Asrt := both (dS a c o) (bunD o)
theorem dO_dep (a : Option Addr) (c : Nat) (o : List DaA) : (dO a c o).dep := both_dep (osl.dep _ _ _ _ _) (bun_dep DaA.dep o)
theorem dS_snoc (a : Option Addr) (c : Nat) (o : List DaA) (x : DaA) : osl (.slice a (o.length + 1) c) 45 18 (o.length + 1) (o.flatMap DaA.row ++ x.row) = dS a c (o ++ [x]) := by simp [dS]
theorem dats_snoc (o : List DaA) (x : DaA) : dats (o ++ [x]) = dats o ++ [x.d] := by simp [dats]
theorem t65n (mb : Option Nat) (w : World) : CallsTo Tryz.prog 44 [.map mb] w fun v w' => ∃ bk, v = .func (.func 59) #[] [.pointer (some ⟨bk, 0, none⟩)].toArray ∧ New1 (.own bk (.cells [.map mb].toArray 68 (0, 0))) w w' := by
  refine (t65 mb w).mono ?_
  rintro v w2 ⟨rfl, rfl⟩
  exact ⟨_, rfl, St.new1 ((St.refl w NoF).alloc (.cells [.map mb].toArray 68 (0, 0))) rfl⟩
theorem win_get {C : World → Prop} {f : Frm} {x y : Operand} {T' : TypeId} {bm : Nat} {es : List DaA} {s : Int} {e : DaA} (hx : f.ev x = .map (some bm)) (hy : f.ev y = .int .i64 s) (hn : fnd es s = some e) (hC : ∀ w, C w → w.heap[bm]? = some (mapObj .i64 (es.map entD))) :
    Ev Tryz.prog C f (.lookup 68 x y false) T' (e.d.val e.a e.c) := by
  have := Ev.lookup1C (P := Tryz.prog) (C := C) (T := 68) (T' := T') (l := es.map entD) (r := findI s (es.map entD) 0) hx hy hC rfl
  rw [findI_fnd, hn] at this
  exact this
theorem d_push {w0 w : World} {F : Nat → Prop} {R : List Asrt} {a : Option Addr} {c : Nat} {o : List DaA} {x : DaA} (h : St w0 F (x.body :: osl (.slice a (o.length + 1) c) 45 18 (o.length + 1) (o.flatMap DaA.row ++ x.row) :: bunD o :: R) w) : St w0 F (dS a c (o ++ [x]) :: bunD (o ++ [x]) :: R) w := by
  have h1 : St w0 F (bunD o :: x.body :: osl (.slice a (o.length + 1) c) 45 18 (o.length + 1) (o.flatMap DaA.row ++ x.row) :: R) w := front h 2 rfl rfl
  have h2 : St w0 F (x.body :: bunD o :: osl (.slice a (o.length + 1) c) 45 18 (o.length + 1) (o.flatMap DaA.row ++ x.row) :: R) w := front h1 1 rfl rfl
  have h3 := h2.bun_snoc DaA.dep DaA.ex
  rw [dS_snoc] at h3
  exact front h3 1 rfl rfl
structure Ast where
  k : Nat
  o : List DaA
  a : Option Addr
  c : Nat
set_option maxHeartbeats 2000000 in
theorem t34 (bw bm : Nat) (es : List DaA) (aru high q : Int) (w : World) (h : (wO bw bm es aru high).holds w) (hD : WOk (dats es)) (hl : es.length ≤ 100000) :
    CallsTo Tryz.prog 22 [.pointer (some ⟨bw, 0, none⟩), .int .i64 q] w fun v w' => ∃ a' c' o, v = .slice a' o.length c' ∧ dats o = abvT (dats es) q ∧ New1 (dO a' c' o) w w' := by
  refine go_in (n := 36) (wO_in h) Tryz.func22 rfl rfl ?_
  repeat'(first|refine kv' ?_|apply jJ|refine jE' ?_|refine jp' ?_|(apply jc;kernel_rfl)|refine kg' ?_|refine kG' ?_|refine kB' fun _=>?_|refine kA' fun _=>?_|refine kK' fun _=>?_|refine kU' ?_|(apply kq; (· exact rfl); (· intro w1 h1; exact CallsTo.q (t58 bw bm es aru high w1 (w_out h1 (by (repeat (first | exact mH _ _ | apply mT))))) h1))|(apply LR.ev; (· apply Ev.load; (· exact rfl); (· exact fun w' hw' => w_cell hw' (by (repeat (first | exact mH _ _ | apply mT))) rfl)); (· exact rfl))|((first|refine kR' ?_ ?_|refine kQ' ?_ ?_);all_goals(intro hc;try simp only[hcs]at hc;try(exfalso;first|contradiction|omega))))
  apply LR.call
  · exact rfl
  intro w1 h1
  refine (t65n (some bm) w1).mono ?_
  rintro v w2 ⟨bk, rfl, hn⟩
  refine LR.back (h1.got hn (Asrt.dep_own _ _)) ?_
  clear hn h1
  apply LR.call
  · exact rfl
  intro w1 h1
  refine (t64 bm bk es w1 (wO_m (w_out h1 (by (repeat (first | exact mH _ _ | apply mT))))) (h1.own_at (by (repeat (first | exact mH _ _ | apply mT)))) hD hl).mono ?_
  rintro v w2 ⟨ak, ck, rfl, hn⟩
  have hrk : Rd w2 ak (iv (sqs (dats es))) := ownsRow_rd hn.own
  refine LR.back (h1.newSl hn) ?_
  clear hn h1
  have hSl : (sqs (dats es)).length = es.length := by rw [sqs_len]; simp [dats]
  have hSm : ∀ s, s ∈ sqs (dats es) → hasD (dats es) s = true := fun s hs => mem_sqs.1 hs
  have hab : abvT (dats es) q = abvS (dats es) q (sqs (dats es)) := rfl
  rw [hab]
  change LR _ _ _ _ _ _ _ (St w NoF (osl (.slice ak es.length ck) 3 1 es.length (iv (sqs (dats es))) :: _))
  generalize hSS : sqs (dats es) = S at hSl hSm hrk ⊢
  rw [← hSl] at hl ⊢
  repeat'(first|refine kv' ?_|apply jJ|refine jE' ?_|refine jp' ?_|(apply jc;kernel_rfl)|refine kg' ?_|refine kG' ?_|refine kB' fun _=>?_|refine kA' fun _=>?_|refine kK' fun _=>?_|refine kU' ?_|((first|refine kR' ?_ ?_|refine kQ' ?_ ?_);all_goals(intro hc;try simp only[hcs]at hc;try(exfalso;first|contradiction|omega))))
  apply CW.loop [5, 7, 17, 18, 19, 20, 21, 22, 23, 24, 25, 26, 27, 28, 29, 30, 31, 32, 33, 34] (fun s : Ast => s.k ≤ S.length ∧ s.o.length ≤ s.k ∧ dats s.o = abvS (dats es) q (S.take s.k)) (fun s => [(5, .slice s.a s.o.length s.c), (17, .int .i64 (s.k : Int))])
    (fun s => St w NoF [dS s.a s.c s.o, bunD s.o, il ak ck S, wR bw bm es aru high]) (fun s => S.length - s.k)
  · intro w' hw'
    refine ⟨⟨0, [], none, 0⟩, ⟨by simp, by simp, rfl⟩, ⟨rfl, rfl, trivial⟩, ?_⟩
    have h1 := (hw'.bun_nil DaA.dep).nilsl 45 18
    exact h1.sub (by (repeat (first | exact List.Sublist.refl _ | apply List.Sublist.cons_cons | apply List.Sublist.cons)))
  rintro ⟨k, o, a, c⟩ g' ⟨hk, hok, ho⟩
  simp only at hk hok ho ⊢
  by_cases hlt : k < S.length
  · obtain ⟨x, hx⟩ : ∃ x, fnd es S[k] = some x := by
      have h1 := fnd_has (dats es) S[k]
      rw [hSm _ (List.getElem_mem hlt), ← fnd_d, Option.isSome_map] at h1
      exact Option.isSome_iff_exists.1 h1
    have hxm := (fnd_mem hx).1
    have hxd : getT (dats es) S[k] = x.d := by unfold getT; rw [← fnd_d, hx]; rfl
    have hxl : x.d.msg.body.length ≤ 140737488351232 := hD.len _ (List.mem_map_of_mem hxm)
    obtain ⟨bg, og, rfl⟩ := hrk.form (fun e => by have h2 := congrArg List.length e; simp only [iv_length, List.length_nil] at h2; omega)
    have hsn := abvS_snoc (dats es) q (S.take k) S[k]
    rw [← take_snocI hlt, hxd, ← ho] at hsn
    repeat'(first|refine kv' ?_|apply jJ|refine jE' ?_|refine jp' ?_|(apply jc;kernel_rfl)|refine kg' ?_|refine kG' ?_|refine kB' fun _=>?_|refine kA' fun _=>?_|refine kK' fun _=>?_|refine kU' ?_|(apply idxX;(iterate 2 exact rfl);(iterate 2(first|omega|(dsimp only;omega)));exact rfl)|(apply LR.ev; (· first | (apply Ev.load_osl; (· exact rfl); (· (repeat (first | exact mH _ _ | apply mT))); (· exact iv_at (i := k) (by simp) (by omega))) | (apply Ev.load; (· exact rfl); (· exact fun w' hw' => w_cell hw' (by (repeat (first | exact mH _ _ | apply mT))) rfl)) | (apply win_get; (· exact rfl); (· exact rfl); (· exact hx); (· exact fun w' hw' => wO_m (w_out hw' (by (repeat (first | exact mH _ _ | apply mT))))))); (· exact rfl))|(apply addX;(iterate 2 exact rfl);(iterate 2(first|omega|(dsimp only;omega)));exact rfl)|(apply LR.call; (· exact rfl); (intro w1 h1; refine (t61 x.d x.a x.c w1 (wO_b (w_out h1 (by (repeat (first | exact mH _ _ | apply mT)))) hxm) (body_nz ((w_out h1 (by (repeat (first | exact mH _ _ | apply mT)))).2.1.1 x hxm)) (by omega)).mono ?_; rintro v w2 ⟨a2, c2, rfl, hn⟩; refine LR.back (h1.newSl hn) ?_; clear hn h1))|(apply LR.append (xs := o.flatMap DaA.row) (news := DaA.row ⟨x.d, a2, c2⟩) (m := 1); (· exact rfl); (· exact rfl); (· intro a' c'; (repeat (first | exact sH _ _ _ | apply sT))); (· exact fun w' hw' => hw'.rd_of_blk (mH _ _)); (· exact fun hx => by cases hx); (· exact rfl); (· simp [DaA.row, Dat.cells, Msg.cells, Value.oneCell']); (· omega); (· unfold maxLen; omega); (· exact rfl); (intro a3 c3))|((first|refine kR' ?_ ?_|refine kQ' ?_ ?_);all_goals(intro hc;try simp only[hcs]at hc;try(exfalso;first|contradiction|omega))))
    · rw [if_pos (by omega)] at hsn
      refine At.again (⟨k + 1, o ++ [⟨x.d, a2, c2⟩], a3, c3⟩ : Ast) ⟨by simp only; omega, by simp; omega, by rw [dats_snoc, hsn]⟩ ?_ ⟨?_, rfl, trivial⟩ ?_ (by simp only; omega)
      · (repeat (first | exact Out.refl _ _ | exact Out.mix | (apply Out.upd; (· exact rfl)) | (apply Out.updL; (· exact rfl)) | (apply Out.mixs; (· exact rfl))))
      · show Value.slice a3 (o.length + 1) c3 = .slice a3 (o ++ [(⟨x.d, a2, c2⟩ : DaA)]).length c3
        simp
      · intro w' hw'
        exact (d_push (x := ⟨x.d, a2, c2⟩) hw'.tail1).sub (by (repeat (first | exact List.Sublist.refl _ | apply List.Sublist.cons_cons | apply List.Sublist.cons)))
    · rw [if_neg (by omega), List.append_nil] at hsn
      refine At.again (⟨k + 1, o, a, c⟩ : Ast) ⟨by simp only; omega, by simp only; omega, hsn.symm⟩ ?_ ⟨rfl, rfl, trivial⟩ (fun w' hw' => hw'.sub (by (repeat (first | exact List.Sublist.refl _ | apply List.Sublist.cons_cons | apply List.Sublist.cons)))) (by simp only; omega)
      (repeat (first | exact Out.refl _ _ | exact Out.mix | (apply Out.upd; (· exact rfl)) | (apply Out.updL; (· exact rfl)) | (apply Out.mixs; (· exact rfl))))
  · have hke : k = S.length := by omega
    subst hke
    rw [List.take_length] at ho
    repeat'(first|refine kv' ?_|apply jJ|refine jE' ?_|refine jp' ?_|(apply jc;kernel_rfl)|refine kg' ?_|refine kG' ?_|refine kB' fun _=>?_|refine kA' fun _=>?_|refine kK' fun _=>?_|refine kU' ?_|((first|refine kR' ?_ ?_|refine kQ' ?_ ?_);all_goals(intro hc;try simp only[hcs]at hc;try(exfalso;first|contradiction|omega))))
    (apply ret1; (· exact rfl); intro w' hS)
    refine ⟨a, c, o, rfl, ho, ?_⟩
    have h1 : St w NoF (dO a c o :: il ak ck S :: wR bw bm es aru high :: []) w' := St.join hS rfl rfl
    exact St.new1 h1 rfl
end Go.Proofs.YtgblmkpfkcibiaaGreat

namespace Go.Proofs.YtgblmkpfkcibiaaGreat
open Go.Hb
attribute [local irreducible] LR CW At Ev thn blk finK noG again CallsTo DW QL dnext TW DP
set_option linter.unusedSimpArgs false
set_option linter.unusedVariables false
set_option maxRecDepth 100000

structure MsA where
  m : Msg
  a : Option Addr
  c : Nat
def MsA.row (x : MsA) : List Value := x.m.cells x.a x.c
theorem MsA.row_len (x : MsA) : x.row.length = 13 := rfl
def MsA.body (x : MsA) : Asrt := osl (.slice x.a x.m.body.length x.c) 5 1 x.m.body.length (bv x.m.body)
theorem MsA.dep (x : MsA) : x.body.dep := osl.dep _ _ _ _ _
theorem MsA.ex (x : MsA) : x.body.excl = true := rfl
abbrev bunM : List MsA → Asrt := bun MsA.body
abbrev gB (b : Nat) (a : Option Addr) (c n : Nat) : Asrt := .own b (.cells [.bool true, .slice a n c].toArray 53 (0, 0))
abbrev odM (a : Option Addr) (c : Nat) (l : List MsA) : Asrt := odl (.slice a l.length c) 43 13 l.length (l.flatMap MsA.row)
theorem odM_snoc (a : Option Addr) (c : Nat) (l : List MsA) (x : MsA) : odl (.slice a (l.length + 1) c) 43 13 (l.length + 1) (l.flatMap MsA.row ++ x.row) = odM a c (l ++ [x]) := by simp [odM]
def gsO (a : Option Addr) (c : Nat) (l : List MsA) : Asrt := both (odM a c l) (bunM l)
theorem gsO_dep (a : Option Addr) (c : Nat) (l : List MsA) : (gsO a c l).dep := both_dep (odl.dep _ _ _ _ _) (bun_dep MsA.dep l)
def gO (b : Nat) (a : Option Addr) (c : Nat) (L : List MsA) : Asrt := both (gB b a c L.length) (gsO a c L)
theorem gO_dep (b : Nat) (a : Option Addr) (c : Nat) (L : List MsA) : (gO b a c L).dep := both_dep (Asrt.dep_own _ _) (gsO_dep a c L)
section
variable {w0 w : World} {F : Nat → Prop} {R : List Asrt} {b : Nat} {a : Option Addr} {c : Nat} {L : List MsA}
theorem gsO_open (h : St w0 F (gsO a c L :: R) w) : St w0 F (odM a c L :: bunM L :: R) w := h.part (odl.dep _ _ _ _ _) (bun_dep MsA.dep L)
theorem gsO_shut (h : St w0 F (odM a c L :: bunM L :: R) w) : St w0 F (gsO a c L :: R) w := h.join rfl rfl
theorem gO_open (h : St w0 F (gO b a c L :: R) w) : St w0 F (gB b a c L.length :: odM a c L :: bunM L :: R) w := by
  have h1 := h.part (Asrt.dep_own _ _) (gsO_dep a c L)
  have h2 := gsO_open h1.swap
  exact h2.perm (((List.Perm.swap (gB b a c L.length) (bunM L) R).cons (odM a c L)).trans (List.Perm.swap (gB b a c L.length) (odM a c L) (bunM L :: R)))
theorem gO_shut (h : St w0 F (gB b a c L.length :: odM a c L :: bunM L :: R) w) : St w0 F (gO b a c L :: R) w := by
  have h1 : St w0 F (odM a c L :: bunM L :: gB b a c L.length :: R) w := h.perm ((List.Perm.swap (odM a c L) (gB b a c L.length) (bunM L :: R)).trans ((List.Perm.swap (bunM L) (gB b a c L.length) R).cons (odM a c L)))
  exact (gsO_shut h1).swap.join rfl rfl
end
/-! ### data above a number -/
theorem getT_mem {D : List Dat} {s : Int} (h : hasD D s = true) : getT D s ∈ D := by
  rw [← fnd_has] at h
  obtain ⟨d, hd⟩ := Option.isSome_iff_exists.1 h
  unfold getT
  rw [hd]
  unfold fndD at hd
  exact List.mem_of_find?_eq_some hd
theorem abv_mem {D : List Dat} {q : Int} {d : Dat} (h : d ∈ abvT D q) : d ∈ D := by
  unfold abvT abvS at h
  obtain ⟨s, hs, rfl⟩ := List.mem_map.1 h
  exact getT_mem (mem_sqs.1 (List.mem_filter.1 hs).1)
def sendL (ds : List Dat) : List Msg := ds.filterMap fun d => if (old d).2 = 0 then some (old d).1 else none
theorem sendL_snoc (ds : List Dat) (d : Dat) : sendL (ds ++ [d]) = sendL ds ++ if (old d).2 = 0 then [(old d).1] else [] := by
  unfold sendL
  rw [List.filterMap_append]
  congr 1
  by_cases h : (old d).2 = 0 <;> simp [h]
def BytD (D : List Dat) : Prop := ∀ d ∈ D, Byt d.msg.body
/-! ### the walk -/
theorem g40 (b : Nat) (a : Option Addr) (c n : Nat) (w : World) (h : Rd w (some ⟨b, 0, none⟩) [.bool true, .slice a n c]) : CallsTo Tryz.prog 8 [.pointer (some ⟨b, 0, none⟩)] w fun v w' => v = .int .i64 (n : Int) ∧ Grew w w' := by
  refine go_in (n := 10) (St.rd1 h) Tryz.func8 rfl rfl ?_
  repeat'(first|refine kv' ?_|apply jJ|refine jE' ?_|refine jp' ?_|(apply jc;kernel_rfl)|refine kg' ?_|refine kG' ?_|refine kB' fun _=>?_|refine kA' fun _=>?_|refine kK' fun _=>?_|refine kU' ?_|((first|refine kR' ?_ ?_|refine kQ' ?_ ?_);all_goals(intro hc;try simp only[hcs]at hc;try(exfalso;first|contradiction|omega))))
  (apply ret1; (· exact rfl); intro w' hS)
  exact ⟨rfl, hS.toKeep⟩
structure Rgs where
  k : Nat
  a : Option Addr
  c : Nat
  ms : List MsA
set_option maxHeartbeats 4000000 in
theorem g39 (bw bm : Nat) (es : List DaA) (aru high low : Int) (w : World) (h : (wO bw bm es aru high).holds w) (hD : WOk (dats es)) (hl : es.length ≤ 100000) (hB : BytD (dats es)) :
    CallsTo Tryz.prog 6 [.pointer (some ⟨bw, 0, none⟩), .int .i64 low] w fun v w' => ∃ b a c ms, v = .tuple [.pointer (some ⟨b, 0, none⟩), .int .i64 0].toArray ∧ ms.map MsA.m = sendL (abvT (dats es) low) ∧ New1 (gO b a c ms) w w' := by
  refine go_in (n := 42) (wO_in h) Tryz.func6 rfl rfl ?_
  repeat'(first|(apply kB;(iterate 2 exact rfl);intro b)|refine kv' ?_|apply jJ|refine jE' ?_|refine jp' ?_|(apply jc;kernel_rfl)|refine kg' ?_|refine kG' ?_|refine kB' fun _=>?_|refine kA' fun _=>?_|refine kK' fun _=>?_|refine kU' ?_|((first|refine kR' ?_ ?_|refine kQ' ?_ ?_);all_goals(intro hc;try simp only[hcs]at hc;try(exfalso;first|contradiction|omega))))
  apply LR.call
  · exact rfl
  intro w1 h1
  refine (t34 bw bm es aru high low w1 (w_out h1 (by (repeat (first | exact mH _ _ | apply mT)))) hD hl).mono ?_
  rintro v w2 ⟨a1, c1, o, rfl, ho, hn⟩
  have hr1 : Rd w2 a1 (o.flatMap DaA.row) := ownsRow_rd hn.holds.1
  refine LR.back ((h1.got hn (dO_dep _ _ _)).part (osl.dep _ _ _ _ _) (bun_dep DaA.dep o)) ?_
  clear hn h1
  repeat'(first|refine kv' ?_|apply jJ|refine jE' ?_|refine jp' ?_|(apply jc;kernel_rfl)|refine kg' ?_|refine kG' ?_|refine kB' fun _=>?_|refine kA' fun _=>?_|refine kK' fun _=>?_|refine kU' ?_|((first|refine kR' ?_ ?_|refine kQ' ?_ ?_);all_goals(intro hc;try simp only[hcs]at hc;try(exfalso;first|contradiction|omega))))
  have hBo : BytD (dats o) := fun d hd => by rw [ho] at hd; exact hB d (abv_mem hd)
  have hLo : ∀ x ∈ o, x.d.msg.body.length ≤ 140737488351232 := fun x hx => hD.len _ (abv_mem (q := low) (by rw [← ho]; exact List.mem_map_of_mem hx))
  have hlo : o.length ≤ 100000 := by
    have h1 : (dats o).length ≤ (dats es).length := by rw [ho]; exact Nat.le_trans (abvS_len _ _ _) (by rw [sqs_len]; exact Nat.le_refl _)
    simp only [dats, List.length_map] at h1
    omega
  rw [← ho]
  apply CW.loop [8, 9, 10, 19, 20, 21, 22, 23, 24, 25, 26, 27, 28, 29, 30, 31, 32, 33, 34, 35, 36, 37, 38, 39, 40] (fun s : Rgs => s.k ≤ o.length ∧ s.ms.length ≤ s.k ∧ s.ms.map MsA.m = sendL ((dats o).take s.k)) (fun s => [(19, .int .i64 (s.k : Int))])
    (fun s => St w NoF [gB b s.a s.c s.ms.length, odM s.a s.c s.ms, bunM s.ms, dS a1 c1 o, bunD o, wR bw bm es aru high]) (fun s => o.length - s.k)
  · intro w' hw'
    refine ⟨⟨0, none, 0, []⟩, ⟨by simp, by simp, rfl⟩, ⟨rfl, trivial⟩, ?_⟩
    have h1 := ((hw'.bun_nil MsA.dep).nilsl 43 13).osl_odl (sH _ _ _)
    exact front (L' := [gB b none 0 0, odM none 0 [], bunM [], dS a1 c1 o, bunD o, wR bw bm es aru high]) h1 4 rfl rfl
  rintro ⟨k, a, c, ms⟩ g' ⟨hk, hmk, hms⟩
  simp only at hk hmk hms ⊢
  by_cases hlt : k < o.length
  · obtain ⟨x, hx⟩ : ∃ x, x = o[k] := ⟨_, rfl⟩
    have hxo : x ∈ o := by rw [hx]; exact List.getElem_mem hlt
    have hxl := hLo x hxo
    have hxb : Byt x.d.msg.body := hBo x.d (List.mem_map_of_mem hxo)
    have hsn := sendL_snoc ((dats o).take k) x.d
    have htk : (dats o).take (k + 1) = (dats o).take k ++ [x.d] := by
      rw [List.take_succ_eq_append_getElem (by simpa [dats] using hlt)]
      simp [dats, hx]
    rw [← htk, ← hms] at hsn
    have hof : (o.flatMap DaA.row) ≠ [] := rows_ne DaA.row_len (by omega) hlt
    obtain ⟨ba, oa, rfl⟩ := hr1.form hof
    repeat'(first|(apply kA; (· exact rfl); intro b9)|refine kv' ?_|apply jJ|refine jE' ?_|refine jp' ?_|refine kg' ?_|refine kG' ?_|refine kB' fun _=>?_|refine kA' fun _=>?_|refine kK' fun _=>?_|refine kU' ?_|(apply idxX;(iterate 2 exact rfl);(iterate 2(first|omega|(dsimp only;omega)));exact rfl)|(apply addX;(iterate 2 exact rfl);(iterate 2(first|omega|(dsimp only;omega)));exact rfl)|(apply LR.ev; (· apply Ev.load_agg_at (cs := x.row); (· exact rfl); (· exact rfl); (· intro w' hw'; rw [hx]; exact rd_row DaA.row_len (ownsRow_rd (hw'.holds (dS (some ⟨ba, oa, none⟩) c1 o) (by (repeat (first | exact mH _ _ | apply mT))))) hlt (by simp))); (· exact rfl))|(apply LR.call; (· exact rfl); (intro w1 h1; refine CallsTo.mono (show CallsTo Tryz.prog 23 [x.d.val x.a x.c] w1 _ from c32 x.d x.a x.c w1 (ownsRow_rd (h1.holds (bunD o) (by (repeat (first | exact mH _ _ | apply mT))) |>.1 x hxo)) (body_nz (h1.holds (bunD o) (by (repeat (first | exact mH _ _ | apply mT))) |>.1 x hxo)) (by omega) hxb) ?_; rintro v w2 ⟨a2, c2, rfl, hn⟩; refine LR.back (h1.newSl hn) ?_; clear hn h1))|((first|refine kR' ?_ ?_|refine kQ' ?_ ?_);all_goals(intro hc;try simp only[hcs]at hc;try(exfalso;first|contradiction|omega))))
    · apply CW.reg_sink 10 (St w NoF [.own b9 (.cells ((old x.d).1.cells a2 c2).toArray 43 (0, 0)), gB b a c ms.length])
      · exact rfl
      · decide +kernel
      all_goals (
        apply DW.quiet [0, 1, 2, 3, 4, 5]
        · decide +kernel
        · first | exact fun _ h => h | exact fun _ h => St.sub h (by repeat (first | exact List.Sublist.refl _ | apply List.Sublist.cons_cons | apply List.Sublist.cons))
        repeat'(first|refine yv' ?_|refine uv' ?_|refine un' ?_|(refine us' ?_ ?_;all_goals(intro hc;try simp only[hcs]at hc;try(exfalso;first|contradiction|omega)))|apply QL.nil)
        all_goals (show DW _ _ _ _ _ _ _ _))
      all_goals (
        apply DW.loud 6
        · exact rfl
        · decide +kernel
        repeat'(first|refine kg' ?_|refine kG' ?_|apply kM|refine kv' ?_|refine kK' fun _=>?_|refine kU' ?_|refine kB' fun _=>?_|refine kA' fun _=>?_|(apply LR.append_odl (a := a) (k := ms.length) (c := c) (xs := ms.flatMap MsA.row) (news := MsA.row ⟨(old x.d).1, a2, c2⟩) (m := 1); (· exact rfl); (· exact rfl); (· intro a' c'; (repeat (first | exact sH _ _ _ | apply sT))); (· intro w' hw'; exact hw'.rd_of_blk (mH _ _)); (· intro hx; cases hx); (· exact rfl); (· simp [MsA.row, Msg.cells, Value.oneCell']); (· omega); (· unfold maxLen; omega); (· exact rfl); (intro ay cy; apply kM)))
        all_goals (refine At.stage_same (fun _ h => St.sub h (by repeat (first | exact List.Sublist.refl _ | apply List.Sublist.cons_cons | apply List.Sublist.cons))) ?_))
      all_goals (
        apply DW.loud 7
        · exact rfl
        · decide +kernel
        repeat'(first|refine kg' ?_|refine kG' ?_|apply kM|refine kv' ?_|refine kK' fun _=>?_|refine kU' ?_|refine kB' fun _=>?_|refine kA' fun _=>?_|(apply LR.append_odl (a := a) (k := ms.length) (c := c) (xs := ms.flatMap MsA.row) (news := MsA.row ⟨(old x.d).1, a2, c2⟩) (m := 1); (· exact rfl); (· exact rfl); (· intro a' c'; (repeat (first | exact sH _ _ _ | apply sT))); (· intro w' hw'; exact hw'.rd_of_blk (mH _ _)); (· intro hx; cases hx); (· exact rfl); (· simp [MsA.row, Msg.cells, Value.oneCell']); (· omega); (· unfold maxLen; omega); (· exact rfl); (intro ay cy; apply kM)))
        all_goals (refine At.stage_same (fun _ h => St.sub h (by repeat (first | exact List.Sublist.refl _ | apply List.Sublist.cons_cons | apply List.Sublist.cons))) ?_))
      all_goals (
        apply DW.quiet [8, 9]
        · decide +kernel
        · first | exact fun _ h => h | exact fun _ h => St.sub h (by repeat (first | exact List.Sublist.refl _ | apply List.Sublist.cons_cons | apply List.Sublist.cons))
        repeat'(first|refine yv' ?_|refine uv' ?_|refine un' ?_|(refine us' ?_ ?_;all_goals(intro hc;try simp only[hcs]at hc;try(exfalso;first|contradiction|omega)))|apply QL.nil)
        all_goals (show DW _ _ _ _ _ _ _ _))
      all_goals (apply DW.done; (· decide +kernel))
      all_goals apply At.sink
      repeat'(first|refine kv' ?_|apply jJ|refine jE' ?_|refine jp' ?_|(apply jc;kernel_rfl)|refine kg' ?_|refine kG' ?_|refine kB' fun _=>?_|refine kA' fun _=>?_|refine kK' fun _=>?_|refine kU' ?_|(apply addX;(iterate 2 exact rfl);(iterate 2(first|omega|(dsimp only;omega)));exact rfl)|((first|refine kR' ?_ ?_|refine kQ' ?_ ?_);all_goals(intro hc;try simp only[hcs]at hc;try(exfalso;first|contradiction|omega))))
      rw [if_pos (by assumption)] at hsn
      refine At.again (⟨k + 1, ay, cy, ms ++ [⟨(old x.d).1, a2, c2⟩]⟩ : Rgs) ⟨by simp only; omega, by simp; omega, by rw [hsn, List.map_append]; rfl⟩ ?_ ⟨rfl, trivial⟩ ?_ (by simp only; omega)
      · (repeat (first | exact Out.refl _ _ | exact Out.mix | (apply Out.upd; (· exact rfl)) | (apply Out.updL; (· exact rfl)) | (apply Out.mixs; (· exact rfl))))
      · intro w' hw'
        obtain ⟨y, hy⟩ : ∃ y : MsA, y = ⟨(old x.d).1, a2, c2⟩ := ⟨_, rfl⟩
        have h1 : St w NoF [y.body, gB b ay cy (ms.length + 1), odl (.slice ay (ms.length + 1) cy) 43 13 (ms.length + 1) (ms.flatMap MsA.row ++ y.row), bunM ms, dS (some ⟨ba, oa, none⟩) c1 o, bunD o, wR bw bm es aru high] w' := by
          rw [hy]; exact hw'.sub (by (repeat (first | exact List.Sublist.refl _ | apply List.Sublist.cons_cons | apply List.Sublist.cons)))
        have h2 : St w NoF [bunM ms, y.body, gB b ay cy (ms.length + 1), odl (.slice ay (ms.length + 1) cy) 43 13 (ms.length + 1) (ms.flatMap MsA.row ++ y.row), dS (some ⟨ba, oa, none⟩) c1 o, bunD o, wR bw bm es aru high] w' := front h1 3 rfl rfl
        have h3 : St w NoF [bunM (ms ++ [y]), gB b ay cy (ms.length + 1), odl (.slice ay (ms.length + 1) cy) 43 13 (ms.length + 1) (ms.flatMap MsA.row ++ y.row), dS (some ⟨ba, oa, none⟩) c1 o, bunD o, wR bw bm es aru high] w' := h2.swap.bun_snoc MsA.dep MsA.ex
        have h4 : St w NoF [odl (.slice ay (ms.length + 1) cy) 43 13 (ms.length + 1) (ms.flatMap MsA.row ++ y.row), bunM (ms ++ [y]), gB b ay cy (ms.length + 1), dS (some ⟨ba, oa, none⟩) c1 o, bunD o, wR bw bm es aru high] w' := front h3 2 rfl rfl
        have h5 : St w NoF [gB b ay cy (ms.length + 1), odl (.slice ay (ms.length + 1) cy) 43 13 (ms.length + 1) (ms.flatMap MsA.row ++ y.row), bunM (ms ++ [y]), dS (some ⟨ba, oa, none⟩) c1 o, bunD o, wR bw bm es aru high] w' := front h4 2 rfl rfl
        rw [odM_snoc, show gB b ay cy (ms.length + 1) = gB b ay cy (ms ++ [y]).length by simp] at h5
        rw [← hy]
        exact h5
    · rw [if_neg (by assumption), List.append_nil] at hsn
      refine At.again (⟨k + 1, a, c, ms⟩ : Rgs) ⟨by simp only; omega, by simp only; omega, hsn.symm⟩ ?_ ⟨rfl, trivial⟩ (fun w' hw' => hw'.sub (by (repeat (first | exact List.Sublist.refl _ | apply List.Sublist.cons_cons | apply List.Sublist.cons)))) (by simp only; omega)
      (repeat (first | exact Out.refl _ _ | exact Out.mix | (apply Out.upd; (· exact rfl)) | (apply Out.updL; (· exact rfl)) | (apply Out.mixs; (· exact rfl))))
  · have hke : k = o.length := by omega
    subst hke
    rw [List.take_of_length_le (by simp [dats])] at hms
    repeat'(first|refine kv' ?_|apply jJ|refine jE' ?_|refine jp' ?_|(apply jc;kernel_rfl)|refine kg' ?_|refine kG' ?_|refine kB' fun _=>?_|refine kA' fun _=>?_|refine kK' fun _=>?_|refine kU' ?_|((first|refine kR' ?_ ?_|refine kQ' ?_ ?_);all_goals(intro hc;try simp only[hcs]at hc;try(exfalso;first|contradiction|omega))))
    (apply ret2; (· exact rfl); intro w' hS)
    refine ⟨b, a, c, ms, rfl, hms, St.new1 (gO_shut hS) rfl⟩
end Go.Proofs.YtgblmkpfkcibiaaGreat

namespace Go.Proofs.YtgblmkpfkcibiaaGreat
open Go.Hb
attribute [local irreducible] LR CW At Ev thn blk finK noG again CallsTo DW QL dnext TW DP
set_option linter.unusedSimpArgs false
set_option linter.unusedVariables false
set_option maxRecDepth 100000

theorem body_nzM {x : MsA} {w : World} (h : x.body.holds w) (e : x.a = none) : x.c = 0 := by
  have h : w.ownsRow 0 5 1 (.slice x.a x.m.body.length x.c) x.m.body.length (bv x.m.body) := h
  rcases h.2 with ⟨he, _⟩ | ⟨g, cap, cur, he, _⟩
  · simp only [Value.slice.injEq] at he
    exact he.2.2
  · simp only [Value.slice.injEq] at he
    rw [he.1] at e
    cases e
theorem g41e (b : Nat) (a : Option Addr) (c : Nat) (w : World) (h : Rd w (some ⟨b, 0, none⟩) [.bool true, .slice a 0 c]) : CallsTo Tryz.prog 11 [.pointer (some ⟨b, 0, none⟩)] w fun v w' => v = .tuple [zeroMsg.val none 0, .int .i64 8].toArray ∧ Grew w w' := by
  refine go_in (n := 43) (St.rd1 h) Tryz.func11 rfl rfl ?_
  repeat'(first|refine kv' ?_|apply jJ|refine jE' ?_|refine jp' ?_|(apply jc;kernel_rfl)|refine kg' ?_|refine kG' ?_|refine kB' fun _=>?_|refine kA' fun _=>?_|refine kK' fun _=>?_|refine kU' ?_|((first|refine kR' ?_ ?_|refine kQ' ?_ ?_);all_goals(intro hc;try simp only[hcs]at hc;try(exfalso;first|contradiction|omega))))
  (apply ret2c; (· exact rfl); (· exact inferInstance); (· exact rfl); (· (repeat (first | exact List.Mem.head _ | apply List.Mem.tail))); (· exact rfl); intro w' hS)
  exact ⟨rfl, hS.toKeep⟩
set_option maxHeartbeats 1000000 in
theorem g41 (b : Nat) (a : Option Addr) (c : Nat) (x : MsA) (L : List MsA) (w : World) (h : (gO b a c (x :: L)).holds w) (hm : x.m.body.length ≤ 140737488355328) :
    CallsTo Tryz.prog 11 [.pointer (some ⟨b, 0, none⟩)] w fun v w' => ∃ a1 c1 a2 c2, v = .tuple [x.m.val a2 c2, .int .i64 0].toArray ∧ St w (gO b a c (x :: L)).foot [gO b a1 c1 L, MsA.body ⟨x.m, a2, c2⟩] w' := by
  have hS1 := gO_open (St.one h (both_live h) (gO_dep b a c (x :: L)))
  generalize hF : (gO b a c (x :: L)).foot = F at *
  obtain ⟨by_, oy, rfl⟩ := (ownsAt_rd hS1.g1).form (by simp [MsA.row, Msg.cells])
  have hl : (x :: L).length = L.length + 1 := rfl
  refine go_in (n := 43) hS1 Tryz.func11 rfl rfl ?_
  repeat'(first|refine kv' ?_|apply jJ|refine jE' ?_|refine jp' ?_|(apply jc;kernel_rfl)|refine kg' ?_|refine kG' ?_|refine kB' fun _=>?_|refine kA' fun _=>?_|refine kK' fun _=>?_|refine kU' ?_|(apply idxX;(iterate 2 exact rfl);(iterate 2(first|omega|(dsimp only;omega)));exact rfl)|(apply LR.ev; (· apply Ev.slice_lo; (· exact rfl); (· exact rfl); (· first | omega | (dsimp only; omega)); (· first | omega | (dsimp only; omega))); (· exact rfl))|(apply LR.ev; (· apply Ev.load_agg_at (cs := x.row); (· exact rfl); (· exact rfl); (· intro w' hw'; exact rd_row (l := x :: L) (i := 0) MsA.row_len (ownsAt_rd (hw'.holds (odM (some ⟨by_, oy, none⟩) c (x :: L)) (by (repeat (first | exact mH _ _ | apply mT))))) (by simp) (by simp))); (· exact rfl))|((first|refine kR' ?_ ?_|refine kQ' ?_ ?_);all_goals(intro hc;try simp only[hcs]at hc;try(exfalso;first|contradiction|omega))))
  apply LR.call
  · exact rfl
  intro w1 h1
  have hb1 : (x.body).holds w1 := (h1.holds (bunM (x :: L)) (by (repeat (first | exact mH _ _ | apply mT)))).1 x List.mem_cons_self
  refine (c86 x.a x.c x.m.body w1 (ownsRow_rd hb1) (body_nzM hb1) hm).mono ?_
  rintro v w2 ⟨a2, c2, rfl, hn⟩
  refine LR.back (h1.newSl hn) ?_
  clear hn h1
  repeat'(first|refine kv' ?_|apply jJ|refine jE' ?_|refine jp' ?_|(apply jc;kernel_rfl)|refine kg' ?_|refine kG' ?_|refine kB' fun _=>?_|refine kA' fun _=>?_|refine kK' fun _=>?_|refine kU' ?_|((first|refine kR' ?_ ?_|refine kQ' ?_ ?_);all_goals(intro hc;try simp only[hcs]at hc;try(exfalso;first|contradiction|omega))))
  (apply ret2c; (· exact rfl); (· exact inferInstance); (· exact rfl); (· (repeat (first | exact List.Mem.head _ | apply List.Mem.tail))); (· exact rfl); intro w' hS)
  refine ⟨subA (some ⟨by_, oy, none⟩) c 1 13, c - 1, a2, c2, rfl, ?_⟩
  obtain ⟨y, hy⟩ : ∃ y : MsA, y = ⟨x.m, a2, c2⟩ := ⟨_, rfl⟩
  have h1 : St w F [y.body, gB b (subA (some ⟨by_, oy, none⟩) c 1 13) (c - 1) L.length, odM (some ⟨by_, oy, none⟩) c (x :: L), bunM (x :: L)] w' := by
    rw [hy]; exact hS.sub (by (repeat (first | exact List.Sublist.refl _ | apply List.Sublist.cons_cons | apply List.Sublist.cons)))
  have h2 := h1.odl_drop (l := 1) (E := 43) (sz := 13) (xs := (x :: L).flatMap MsA.row) (a := some ⟨by_, oy, none⟩) (c := c) (k := (x :: L).length) (by (repeat (first | exact sH _ _ _ | apply sT))) (by simp)
  have h3 : St w F [y.body, gB b (subA (some ⟨by_, oy, none⟩) c 1 13) (c - 1) L.length, odM (subA (some ⟨by_, oy, none⟩) c 1 13) (c - 1) L, bunM (x :: L)] w' := h2
  have h4 : St w F [bunM (x :: L), y.body, gB b (subA (some ⟨by_, oy, none⟩) c 1 13) (c - 1) L.length, odM (subA (some ⟨by_, oy, none⟩) c 1 13) (c - 1) L] w' := front h3 3 rfl rfl
  have h5 := (St.bun_head MsA.dep h4).tail1
  have h6 : St w F [odM (subA (some ⟨by_, oy, none⟩) c 1 13) (c - 1) L, bunM L, y.body, gB b (subA (some ⟨by_, oy, none⟩) c 1 13) (c - 1) L.length] w' := front h5 3 rfl rfl
  have h7 : St w F [gB b (subA (some ⟨by_, oy, none⟩) c 1 13) (c - 1) L.length, odM (subA (some ⟨by_, oy, none⟩) c 1 13) (c - 1) L, bunM L, y.body] w' := front h6 3 rfl rfl
  rw [← hy]
  exact gO_shut h7
def tkB (R1 R2 : Int) (D : List Dat) (m : Msg) : Bool := decide ((inner m).2 = 0 ∧ (inner m).1.rseq = R1 ∧ (inner m).1.rrep = R2)
def tkNew (R1 R2 : Int) (D : List Dat) (m : Msg) : Bool := tkB R1 R2 D m && wpNew D (inner m).1
def tkE (R1 R2 : Int) (D : List Dat) (m : Msg) : Int := if tkB R1 R2 D m then wpE (inner m).1 else (inner m).2
def tkD (R1 R2 : Int) (D : List Dat) (m : Msg) : List Dat := if tkB R1 R2 D m then wpD D (inner m).1 else D
def tkH (R1 R2 : Int) (D : List Dat) (high : Int) (m : Msg) : Int := if tkB R1 R2 D m then wpH D high (inner m).1 else high
set_option maxHeartbeats 1000000 in
theorem g42 (bw bm : Nat) (es : List DaA) (aru high R1 R2 : Int) (m : Msg) (a : Option Addr) (c : Nat) (w : World) (h : (wO bw bm es aru high).holds w) (hD : WOk (dats es)) (hA : IsAru (dats es) aru)
    (hr : Rd w a (bv m.body)) (hz : a = none → c = 0) (hd : ∀ k, rdFoot a (bv m.body) k → ¬ (wO bw bm es aru high).foot k) (hl : m.body.length ≤ 140737488355328) (hb : Byt m.body) (hi : (inner m).1.msg.body.length ≤ 140737488351232) :
    CallsTo Tryz.prog 15 [.pointer (some ⟨bw, 0, none⟩), .agg [.int .i64 R1, .int .i64 R2].toArray, m.val a c] w fun v w' => ∃ es' aru', v = .tuple [.bool (tkNew R1 R2 (dats es) m), .int .i64 (tkE R1 R2 (dats es) m)].toArray ∧ dats es' = tkD R1 R2 (dats es) m ∧ IsAru (tkD R1 R2 (dats es) m) aru' ∧ Step (wO bw bm es aru high) (wO bw bm es' aru' (tkH R1 R2 (dats es) high m)) w w' := by
  refine go_in (n := 31) ((St.one h (both_live h) (wO_dep _ _ _ _ _)).addRd hr hd) Tryz.func15 rfl rfl ?_
  repeat'(first|refine kv' ?_|apply jJ|refine jE' ?_|refine jp' ?_|(apply jc;kernel_rfl)|refine kg' ?_|refine kG' ?_|refine kB' fun _=>?_|refine kA' fun _=>?_|refine kK' fun _=>?_|refine kU' ?_|(apply LR.call; (· exact rfl); (intro w1 h1; refine CallsTo.mono (show CallsTo Tryz.prog 34 [m.val a c] w1 _ from c33 m a c w1 (h1.rd_of (by (repeat (first | exact mH _ _ | apply mT)))) hz hl hb) ?_; rintro v w2 ⟨a2, c2, rfl, hn⟩; refine LR.back (h1.newSl hn) ?_; clear hn h1))|((first|refine kR' ?_ ?_|refine kQ' ?_ ?_);all_goals(intro hc;try simp only[hcs]at hc;try(exfalso;first|contradiction|omega))))
  · have e : tkB R1 R2 (dats es) m = false := by unfold tkB; exact decide_eq_false (fun h => hc h.1)
    (apply ret2; (· exact rfl); intro w' hS)
    unfold tkNew tkE tkD tkH
    rw [e]
    exact ⟨es, aru, rfl, rfl, hA, (hS.sub (L' := [wO bw bm es aru high]) (by (repeat (first | exact List.Sublist.refl _ | apply List.Sublist.cons_cons | apply List.Sublist.cons)))).step rfl⟩
  · rename (inner m).2 = 0 => h0
    have e : tkB R1 R2 (dats es) m = false := by unfold tkB; exact decide_eq_false (fun h => by first | exact hc h.2 | exact hc (by simp [h.2]) | simp_all)
    (apply ret2; (· exact rfl); intro w' hS)
    unfold tkNew tkE tkD tkH
    rw [e]
    refine ⟨es, aru, ?_, rfl, hA, (hS.sub (L' := [wO bw bm es aru high]) (by (repeat (first | exact List.Sublist.refl _ | apply List.Sublist.cons_cons | apply List.Sublist.cons)))).step rfl⟩
    show Value.tuple [.bool false, .int .i64 0].toArray = .tuple [.bool false, .int .i64 (inner m).2].toArray
    rw [h0]
  · have e : tkB R1 R2 (dats es) m = true := by unfold tkB; exact decide_eq_true ⟨by assumption, hc⟩
    unfold tkNew tkE tkD tkH
    rw [e]
    apply LR.call
    · exact rfl
    intro w1 h1
    have hz2 : a2 = none → c2 = 0 := body_nz (x := ⟨(inner m).1, a2, c2⟩) (h1.holds _ (by (repeat (first | exact mH _ _ | apply mT))))
    refine CallsTo.mono (show CallsTo Tryz.prog 10 [.pointer (some ⟨bw, 0, none⟩), (inner m).1.val a2 c2] w1 _ from t29 bw bm es aru high (inner m).1 a2 c2 w1 (h1.holds _ (by (repeat (first | exact mH _ _ | apply mT)))) hD hA (h1.rd_of_own (by (repeat (first | exact mH _ _ | apply mT)))) hz2 (fun k hk => St.apart (x := osl (.slice a2 (inner m).1.msg.body.length c2) 5 1 (inner m).1.msg.body.length (bv (inner m).1.msg.body)) (h1.sub (L' := [osl (.slice a2 (inner m).1.msg.body.length c2) 5 1 (inner m).1.msg.body.length (bv (inner m).1.msg.body), wO bw bm es aru high]) (by (repeat (first | exact List.Sublist.refl _ | apply List.Sublist.cons_cons | apply List.Sublist.cons)))) (by (repeat (first | exact mH _ _ | apply mT))) rfl k (St.osl_foot hk)) hi) ?_
    rintro v w2 ⟨es1, ar1, rfl, he1, ha1, hst⟩
    refine LR.back (h1.did (by (repeat (first | exact sH _ _ _ | apply sT))) rfl hst (wO_dep _ _ _ _ _)) ?_
    clear hst h1
    repeat'(first|refine kv' ?_|apply jJ|refine jE' ?_|refine jp' ?_|(apply jc;kernel_rfl)|refine kg' ?_|refine kG' ?_|refine kB' fun _=>?_|refine kA' fun _=>?_|refine kK' fun _=>?_|refine kU' ?_|((first|refine kR' ?_ ?_|refine kQ' ?_ ?_);all_goals(intro hc;try simp only[hcs]at hc;try(exfalso;first|contradiction|omega))))
    (apply ret2; (· exact rfl); intro w' hS)
    exact ⟨es1, ar1, rfl, he1, ha1, (hS.sub (L' := [wO bw bm es1 ar1 (wpH (dats es) high (inner m).1)]) (by (repeat (first | exact List.Sublist.refl _ | apply List.Sublist.cons_cons | apply List.Sublist.cons)))).step rfl⟩
end Go.Proofs.YtgblmkpfkcibiaaGreat

namespace Go.Proofs.YtgblmkpfkcibiaaGreat
open Go.Hb
attribute [local irreducible] LR CW At Ev thn blk finK noG again CallsTo DW QL dnext TW DP
set_option linter.unusedSimpArgs false
set_option linter.unusedVariables false
set_option maxRecDepth 100000

def oneR (r1 r2 n : Int) : Dat := ⟨r1, r2, n, 1 + n.tmod 8, n, ⟨1, 1 + n.tmod 8, 1, n, 0, 1, 1, false, 0, 0, 0, 0, [IntKind.wrap .u8 n]⟩⟩
/-- Data that may be sent again. -/
structure OkR (d : Dat) : Prop where
  may : mayOld d = true
  ck : check d.msg = 0
  kind : d.msg.kind ≠ 5
  byt : Byt d.msg.body
  wp : wpOk d = true
theorem OkR.old {d : Dat} (h : OkR d) : old d = (oldM d, 0) := by
  unfold Go.Proofs.YtgblmkpfkcibiaaGreat.old
  rw [if_pos ⟨h.may, h.ck, h.kind⟩]
theorem OkR.inner {d : Dat} (h : OkR d) : inner (oldM d) = (d, 0) := inner_old h.may h.byt h.ck h.kind
theorem OkR.check {d : Dat} (h : OkR d) : check (oldM d) = 0 := check_oldM h.may h.byt h.ck h.kind
theorem OkR.len {d : Dat} (h : OkR d) : (oldM d).body.length ≤ 160 := (check_ok h.check).1
theorem OkR.bytM {d : Dat} (h : OkR d) : Byt (oldM d).body := h.byt.bytes h.ck
theorem OkR.lenD {d : Dat} (h : OkR d) : d.msg.body.length ≤ 160 := (check_ok h.ck).1
theorem one_ck : ∀ n : Nat, n < 51 → check (oneR 2 1 (n : Int)).msg = 0 := by decide +kernel
theorem one_may : ∀ i : Nat, i < 3 → ∀ j : Nat, j < 2 → ∀ n : Nat, n < 50 → mayOld (oneR (1 + i) (1 + j) (1 + n)) = true ∧ wpOk (oneR (1 + i) (1 + j) (1 + n)) = true := by decide +kernel
theorem one_byt : ∀ n : Nat, n < 51 → (IntKind.wrap .u8 (n : Int)) = n := by decide +kernel
theorem one_ok {r1 r2 n : Int} (h1 : 1 ≤ r1 ∧ r1 ≤ 3) (h2 : 1 ≤ r2 ∧ r2 ≤ 2) (h3 : 1 ≤ n ∧ n ≤ 50) : OkR (oneR r1 r2 n) := by
  obtain ⟨i, rfl⟩ : ∃ i : Nat, r1 = 1 + (i : Int) := ⟨(r1 - 1).toNat, by omega⟩
  obtain ⟨j, rfl⟩ : ∃ j : Nat, r2 = 1 + (j : Int) := ⟨(r2 - 1).toNat, by omega⟩
  obtain ⟨k, rfl⟩ : ∃ k : Nat, n = 1 + (k : Int) := ⟨(n - 1).toNat, by omega⟩
  have hm := one_may i (by omega) j (by omega) k (by omega)
  have hc := one_ck (1 + k) (by omega)
  have hb := one_byt (1 + k) (by omega)
  have e : ((1 + k : Nat) : Int) = 1 + (k : Int) := by omega
  rw [e] at hc hb
  refine ⟨hm.1, hc, ?_, ?_, hm.2⟩
  · show (1 : Int) ≠ 5
    omega
  · intro x hx
    have hx : x ∈ [IntKind.wrap .u8 (1 + (k : Int))] := hx
    rw [List.mem_singleton] at hx
    rw [hx, hb]
    omega
theorem wp_new {D : List Dat} {d : Dat} (h : OkR d) : wpNew D d = !hasD D d.seq := by unfold wpNew; rw [h.wp]; rfl
theorem wp_e {d : Dat} (h : OkR d) : wpE d = 0 := by unfold wpE; rw [h.wp]; rfl
theorem sendL_ok {ds : List Dat} (h : ∀ d ∈ ds, OkR d) : sendL ds = ds.map oldM := by
  induction ds with
  | nil => rfl
  | cons d r ih =>
    have h1 := (h d List.mem_cons_self).old
    have h2 := ih fun x hx => h x (List.mem_cons_of_mem _ hx)
    unfold sendL at h2 ⊢
    rw [List.filterMap_cons, h2, h1]
    rfl
/-! ### numbers in order -/
theorem sqs_ascG {D : List Dat} (h : WOk D) : (sqs D).Pairwise (· < ·) := by
  have h1 : (sqs D).Pairwise (· ≤ ·) := by
    have := List.pairwise_mergeSort (le := fun x y : Int => decide (x ≤ y)) (fun a b c h1 h2 => by simp only [decide_eq_true_eq] at *; omega) (fun a b => by simp only [Bool.or_eq_true, decide_eq_true_eq]; omega) (D.map Dat.seq)
    exact this.imp (fun hab => by simpa using hab)
  have h2 : (sqs D).Nodup := (List.mergeSort_perm _ _).nodup_iff.2 h.nodup
  exact (h1.and h2).imp (fun ⟨ha, hb⟩ => by omega)
theorem asc_extG {l r : List Int} (hl : l.Pairwise (· < ·)) (hr : r.Pairwise (· < ·)) (h : ∀ x, x ∈ l ↔ x ∈ r) : l = r := by
  have n1 : l.Nodup := hl.imp (fun hab => by omega)
  have n2 : r.Nodup := hr.imp (fun hab => by omega)
  refine List.Perm.eq_of_pairwise (le := fun a b => a < b) (fun a b _ _ h1 h2 => by omega) hl hr ((List.perm_ext_iff_of_nodup n1 n2).2 h)
theorem getT_seqG {D : List Dat} {s : Int} (h : hasD D s = true) : (getT D s).seq = s := by
  rw [← fnd_has] at h
  obtain ⟨d, hd⟩ := Option.isSome_iff_exists.1 h
  unfold getT
  rw [hd]
  unfold fndD at hd
  simpa using List.find?_some hd
theorem nodup_inj {D : List Dat} (h : (D.map Dat.seq).Nodup) {x y : Dat} (hx : x ∈ D) (hy : y ∈ D) (e : x.seq = y.seq) : x = y := by
  induction D with
  | nil => cases hx
  | cons d r ih =>
    rw [List.map_cons, List.nodup_cons] at h
    rcases List.mem_cons.1 hx with h1 | h1
    · rcases List.mem_cons.1 hy with h2 | h2
      · rw [h1, h2]
      · exact absurd (by rw [← h1, e]; exact List.mem_map_of_mem h2) h.1
    · rcases List.mem_cons.1 hy with h2 | h2
      · exact absurd (by rw [← h2, ← e]; exact List.mem_map_of_mem h1) h.1
      · exact ih h.2 h1 h2
theorem getT_ofG {D : List Dat} (h : (D.map Dat.seq).Nodup) {d : Dat} (hd : d ∈ D) : getT D d.seq = d := by
  have h1 := getT_seqG (has_iff.2 ⟨d, hd, rfl⟩)
  have h2 := getT_mem (D := D) (s := d.seq) (has_iff.2 ⟨d, hd, rfl⟩)
  exact nodup_inj h h2 hd h1
theorem abv_seqG (D : List Dat) (q : Int) : (abvT D q).map Dat.seq = (sqs D).filter fun s => decide (q < s) := by
  unfold abvT abvS
  rw [List.map_map]
  refine (List.map_congr_left (g := id) fun s hs => ?_).trans (List.map_id _)
  exact getT_seqG (mem_sqs.1 (List.mem_filter.1 hs).1)
theorem mem_abv {D : List Dat} (h : WOk D) {q : Int} {d : Dat} : d ∈ abvT D q ↔ d ∈ D ∧ q < d.seq := by
  constructor
  · intro hd
    refine ⟨abv_mem hd, ?_⟩
    have h1 : d.seq ∈ (abvT D q).map Dat.seq := List.mem_map_of_mem hd
    rw [abv_seqG, List.mem_filter] at h1
    simpa using h1.2
  · rintro ⟨h1, h2⟩
    unfold abvT abvS
    rw [List.mem_map]
    exact ⟨d.seq, List.mem_filter.2 ⟨mem_sqs.2 (has_iff.2 ⟨d, h1, rfl⟩), by simpa using h2⟩, getT_ofG h.nodup h1⟩
theorem abv_asc {D : List Dat} (h : WOk D) (ha : (D.map Dat.seq).Pairwise (· < ·)) (q : Int) : abvT D q = D.filter fun d => decide (q < d.seq) := by
  have e : sqs D = D.map Dat.seq := asc_extG (sqs_ascG h) ha fun x => by rw [mem_sqs, has_iff, List.mem_map]
  unfold abvT abvS
  rw [e, List.filter_map, List.map_map]
  refine (List.map_congr_left (g := id) fun d hd => ?_).trans (List.map_id _)
  exact getT_ofG h.nodup (List.mem_filter.1 hd).1
/-! ### the statements' small functions -/
theorem g43 (w : World) : CallsTo Tryz.prog 16 [] w fun v w' => v = .agg [.int .i64 2, .int .i64 1].toArray ∧ Grew w w' := by
  refine go_in (n := 2) (St.refl _ NoF) Tryz.func16 rfl rfl ?_
  repeat'(first|refine kv' ?_|apply jJ|refine jE' ?_|refine jp' ?_|(apply jc;kernel_rfl)|refine kg' ?_|refine kG' ?_|refine kB' fun _=>?_|refine kA' fun _=>?_|refine kK' fun _=>?_|refine kU' ?_|((first|refine kR' ?_ ?_|refine kQ' ?_ ?_);all_goals(intro hc;try simp only[hcs]at hc;try(exfalso;first|contradiction|omega))))
  (apply ret1c; (· exact rfl); (· exact inferInstance); (· exact rfl); (· (repeat (first | exact List.Mem.head _ | apply List.Mem.tail))); (· exact rfl); intro w' hS)
  exact ⟨rfl, hS.toKeep⟩
theorem g38 (n : Int) (h0 : 0 ≤ n) (h1 : n ≤ 1000) (w : World) : CallsTo Tryz.prog 18 [.int .i64 n] w fun v w' => ∃ a c, v = (oneR 2 1 n).val a c ∧ NewSl w w' (.slice a 1 c) 5 1 1 (bv (oneR 2 1 n).msg.body) := by
  have hb := tmod_bd n 8 (by omega)
  refine go_in (n := 18) (St.refl _ NoF) Tryz.func18 rfl rfl ?_
  repeat'(first|refine kv' ?_|apply jJ|refine jE' ?_|refine jp' ?_|(apply jc;kernel_rfl)|refine kg' ?_|refine kG' ?_|refine kB' fun _=>?_|refine kA' fun _=>?_|refine kK' fun _=>?_|refine kU' ?_|(apply LR.ev; (· apply Ev.rem; (· exact rfl); (· exact rfl); (· first | decide | omega)); (· exact rfl))|(apply addX;(iterate 2 exact rfl);(iterate 2(first|omega|(dsimp only;omega)));exact rfl)|(apply kq; (· exact rfl); (· intro w1 h1; exact CallsTo.q (g43 w1) h1))|((first|refine kR' ?_ ?_|refine kQ' ?_ ?_);all_goals(intro hc;try simp only[hcs]at hc;try(exfalso;first|contradiction|omega))))
  (apply ret1c; (· exact rfl); (· exact inferInstance); (· exact rfl); (· (repeat (first | exact List.Mem.head _ | apply List.Mem.tail))); (· exact rfl); intro w' hS)
  exact ⟨_, 1, rfl, (hS.own_osl (k := 1) (sz := 1) (E := 5) (cs := [.int .u8 (IntKind.wrap .u8 n)]) (by (repeat (first | exact sH _ _ _ | apply sT))) rfl (by unfold maxLen; omega)).toNew (by (repeat (first | exact mH _ _ | apply mT)))⟩
end Go.Proofs.YtgblmkpfkcibiaaGreat

namespace Go.Proofs.YtgblmkpfkcibiaaGreat
open Go.Hb
attribute [local irreducible] LR CW At Ev thn blk finK noG again CallsTo DW QL dnext TW DP
set_option linter.unusedSimpArgs false
set_option linter.unusedVariables false
set_option maxRecDepth 100000

structure GWin (D : List Dat) (es : List DaA) (aru : Int) : Prop where
  e : dats es = D
  ok : WOk D
  aru : IsAru D aru
  good : ∀ d ∈ D, OkR d
theorem wpD_new {D : List Dat} {d : Dat} (h : OkR d) (hn : hasD D d.seq = false) : wpD D d = D ++ [d] := by unfold wpD; rw [wp_new h, hn]; rfl
theorem wpD_old {D : List Dat} {d : Dat} (h : OkR d) (hn : hasD D d.seq = true) : wpD D d = D := by unfold wpD; rw [wp_new h, hn]; rfl
theorem wpH_new {D : List Dat} {d : Dat} {hi : Int} (h : OkR d) (hn : hasD D d.seq = false) : wpH D hi d = max hi d.seq := by unfold wpH; rw [wp_new h, hn]; rfl
theorem GWin.nil : GWin [] [] 0 := ⟨rfl, ⟨by simp, fun d hd => by simp at hd, fun d hd => by simp at hd⟩, ⟨⟨by omega, fun s h1 h2 => by omega⟩, rfl⟩, fun d hd => by simp at hd⟩
theorem GWin.put {D : List Dat} {es : List DaA} {ar : Int} (g : GWin D es ar) {d : Dat} (hd : OkR d) {es' : List DaA} {ar' : Int} (he : dats es' = wpD D d) (ha : IsAru (wpD D d) ar') : GWin (wpD D d) es' ar' := by
  refine ⟨he, wpD_ok g.ok (by have := hd.lenD; omega), ha, fun x hx => ?_⟩
  unfold wpD at hx
  split at hx
  · rcases List.mem_append.1 hx with hx | hx
    · exact g.good x hx
    · rw [List.mem_singleton] at hx; rw [hx]; exact hd
  · exact g.good x hx
theorem g37 (bw bm : Nat) (es : List DaA) (ar hi : Int) (D : List Dat) (d : Dat) (a : Option Addr) (c : Nat) (w : World) (h : (wO bw bm es ar hi).holds w) (g : GWin D es ar) (hd : OkR d)
    (hr : Rd w a (bv d.msg.body)) (hz : a = none → c = 0) (hx : ∀ k, rdFoot a (bv d.msg.body) k → ¬ (wO bw bm es ar hi).foot k) :
    CallsTo Tryz.prog 10 [.pointer (some ⟨bw, 0, none⟩), d.val a c] w fun v w' => ∃ es' ar', v = .tuple [.bool (!hasD D d.seq), .int .i64 0].toArray ∧ GWin (wpD D d) es' ar' ∧ Step (wO bw bm es ar hi) (wO bw bm es' ar' (wpH D hi d)) w w' := by
  obtain rfl := g.e
  refine CallsTo.mono (show CallsTo Tryz.prog 10 [.pointer (some ⟨bw, 0, none⟩), d.val a c] w _ from t29 bw bm es ar hi d a c w h g.ok g.aru hr hz hx (by have := hd.lenD; omega)) ?_
  rintro v w2 ⟨es', ar', rfl, he, ha, hst⟩
  rw [wp_new hd, wp_e hd]
  exact ⟨es', ar', rfl, g.put hd he ha, hst⟩
def ringIs (R1 R2 : Int) (d : Dat) : Bool := decide (d.rseq = R1 ∧ d.rrep = R2)
def takD (R1 R2 : Int) (D : List Dat) (d : Dat) : List Dat := if ringIs R1 R2 d then wpD D d else D
def takH (R1 R2 : Int) (D : List Dat) (hi : Int) (d : Dat) : Int := if ringIs R1 R2 d then wpH D hi d else hi
theorem g42o (bw bm : Nat) (es : List DaA) (ar hi : Int) (D : List Dat) (R1 R2 : Int) (d : Dat) (a : Option Addr) (c : Nat) (w : World) (h : (wO bw bm es ar hi).holds w) (g : GWin D es ar) (hd : OkR d)
    (hr : Rd w a (bv (oldM d).body)) (hz : a = none → c = 0) (hx : ∀ k, rdFoot a (bv (oldM d).body) k → ¬ (wO bw bm es ar hi).foot k) :
    CallsTo Tryz.prog 15 [.pointer (some ⟨bw, 0, none⟩), .agg [.int .i64 R1, .int .i64 R2].toArray, (oldM d).val a c] w fun v w' => ∃ es' ar', v = .tuple [.bool (ringIs R1 R2 d && !hasD D d.seq), .int .i64 0].toArray ∧ GWin (takD R1 R2 D d) es' ar' ∧ Step (wO bw bm es ar hi) (wO bw bm es' ar' (takH R1 R2 D hi d)) w w' := by
  obtain rfl := g.e
  refine (g42 bw bm es ar hi R1 R2 (oldM d) a c w h g.ok g.aru hr hz hx (by have := hd.len; omega) hd.bytM (by rw [hd.inner]; have := hd.lenD; show d.msg.body.length ≤ _; omega)).mono ?_
  rintro v w2 ⟨es', ar', rfl, he, ha, hst⟩
  have eb : tkB R1 R2 (dats es) (oldM d) = ringIs R1 R2 d := by unfold tkB ringIs; rw [hd.inner]; simp
  unfold tkD at he ha
  unfold tkH at hst
  unfold tkNew tkE
  unfold takD takH
  rw [eb, hd.inner] at he ha hst ⊢
  cases hq : ringIs R1 R2 d with
  | true =>
    rw [hq] at he ha hst
    rw [wp_new hd, wp_e hd]
    exact ⟨es', ar', rfl, g.put hd he ha, hst⟩
  | false =>
    rw [hq] at he ha hst
    exact ⟨es', ar', rfl, ⟨he, g.ok, ha, g.good⟩, hst⟩
theorem g39o (bw bm : Nat) (es : List DaA) (ar hi low : Int) (D : List Dat) (w : World) (h : (wO bw bm es ar hi).holds w) (g : GWin D es ar) (hl : es.length ≤ 100000) :
    CallsTo Tryz.prog 6 [.pointer (some ⟨bw, 0, none⟩), .int .i64 low] w fun v w' => ∃ b a c ms, v = .tuple [.pointer (some ⟨b, 0, none⟩), .int .i64 0].toArray ∧ ms.map MsA.m = (abvT D low).map oldM ∧ New1 (gO b a c ms) w w' := by
  obtain rfl := g.e
  refine (g39 bw bm es ar hi low w h g.ok hl (fun d hd => (g.good d hd).byt)).mono ?_
  rintro v w2 ⟨b, a, c, ms, rfl, hm, hn⟩
  exact ⟨b, a, c, ms, rfl, by rw [hm, sendL_ok fun d hd => g.good d (abv_mem hd)], hn⟩
theorem gO_rd {b : Nat} {a : Option Addr} {c : Nat} {L : List MsA} {w : World} (h : (gO b a c L).holds w) : Rd w (some ⟨b, 0, none⟩) [.bool true, .slice a L.length c] := by
  exact fun j v hj => ⟨_, rfl, by rw [addr_add, cell_own (show w.heap[b]? = some (.cells [Value.bool true, .slice a L.length c].toArray 53 (0, 0)) from h.1)]; simpa using hj⟩
set_option maxHeartbeats 2000000 in
theorem g35 (w : World) : CallsTo Tryz.prog 14 [] w fun v w' => v = .bool true ∧ Grew w w' := by
  have k1 : OkR (oneR 2 1 1) := one_ok (by omega) (by omega) (by omega)
  have k2 : OkR (oneR 2 1 2) := one_ok (by omega) (by omega) (by omega)
  have k4 : OkR (oneR 2 1 4) := one_ok (by omega) (by omega) (by omega)
  refine go_in (n := 119) (St.refl _ NoF) Tryz.func14 rfl rfl ?_
  repeat'(first|refine kv' ?_|apply jJ|refine jE' ?_|refine jp' ?_|(apply jc;kernel_rfl)|refine kg' ?_|refine kG' ?_|refine kB' fun _=>?_|refine kA' fun _=>?_|refine kK' fun _=>?_|refine kU' ?_|((first|refine kR' ?_ ?_|refine kQ' ?_ ?_);all_goals(intro hc;try simp only[hcs]at hc;try(exfalso;first|contradiction|omega))))
  apply LR.call
  · exact rfl
  intro w1 h1
  refine (t24 w1).mono ?_
  rintro v w2 ⟨bw, bm, rfl, hn⟩
  refine LR.back (h1.got hn (wO_dep _ _ _ _ _)) ?_
  clear h1
  clear hn
  apply LR.call
  · exact rfl
  intro w1 h1
  refine (t24 w1).mono ?_
  rintro v w2 ⟨bv_, bn, rfl, hn⟩
  refine LR.back (h1.got hn (wO_dep _ _ _ _ _)) ?_
  clear h1
  clear hn
  repeat'(first|refine kv' ?_|apply jJ|refine jE' ?_|refine jp' ?_|(apply jc;kernel_rfl)|refine kg' ?_|refine kG' ?_|refine kB' fun _=>?_|refine kA' fun _=>?_|refine kK' fun _=>?_|refine kU' ?_|((first|refine kR' ?_ ?_|refine kQ' ?_ ?_);all_goals(intro hc;try simp only[hcs]at hc;try(exfalso;first|contradiction|omega))))
  apply LR.call
  · exact rfl
  intro w1 h1
  refine (g38 1 (by omega) (by omega) w1).mono ?_
  rintro v w2 ⟨a1, c1, rfl, hn⟩
  refine LR.back (h1.newSl hn) ?_
  clear h1
  clear hn
  repeat'(first|refine kv' ?_|apply jJ|refine jE' ?_|refine jp' ?_|(apply jc;kernel_rfl)|refine kg' ?_|refine kG' ?_|refine kB' fun _=>?_|refine kA' fun _=>?_|refine kK' fun _=>?_|refine kU' ?_|((first|refine kR' ?_ ?_|refine kQ' ?_ ?_);all_goals(intro hc;try simp only[hcs]at hc;try(exfalso;first|contradiction|omega))))
  apply LR.call
  · exact rfl
  intro w1 h1
  have hz : a1 = none → c1 = 0 := body_nz (x := ⟨oneR 2 1 1, a1, c1⟩) (h1.holds (osl (.slice a1 1 c1) 5 1 1 (bv (oneR 2 1 1).msg.body)) (by (repeat (first | exact mH _ _ | apply mT))))
  have hap := St.apart (x := osl (.slice a1 1 c1) 5 1 1 (bv (oneR 2 1 1).msg.body)) (y := wO bw bm [] 0 (0)) (h1.sub (L' := [osl (.slice a1 1 c1) 5 1 1 (bv (oneR 2 1 1).msg.body), wO bw bm [] 0 (0)]) (by (repeat (first | exact List.Sublist.refl _ | apply List.Sublist.cons_cons | apply List.Sublist.cons)))) (by (repeat (first | exact mH _ _ | apply mT))) rfl
  refine (show CallsTo Tryz.prog 10 [.pointer (some ⟨bw, 0, none⟩), (oneR 2 1 1).val a1 c1] w1 _ from g37 bw bm [] 0 (0) ([]) (oneR 2 1 1) a1 c1 w1 (h1.holds _ (by (repeat (first | exact mH _ _ | apply mT)))) GWin.nil k1 (h1.rd_of_own (n := 1) (E := 5) (sz := 1) (by (repeat (first | exact mH _ _ | apply mT)))) hz (fun k hk => hap k (St.osl_foot hk))).mono ?_
  rintro v w2 ⟨es1, ar1, rfl, g1, hst⟩
  refine LR.back (h1.did (by (repeat (first | exact sH _ _ _ | apply sT))) rfl hst (wO_dep _ _ _ _ _)) ?_
  clear h1
  clear hst hap hz
  have e1 : wpD [] (oneR 2 1 1) = [oneR 2 1 1] := wpD_new k1 rfl
  have f1 : wpH [] 0 (oneR 2 1 1) = 1 := wpH_new k1 rfl
  rw [e1] at g1
  rw [f1]
  repeat'(first|refine kv' ?_|apply jJ|refine jE' ?_|refine jp' ?_|(apply jc;kernel_rfl)|refine kg' ?_|refine kG' ?_|refine kB' fun _=>?_|refine kA' fun _=>?_|refine kK' fun _=>?_|refine kU' ?_|((first|refine kR' ?_ ?_|refine kQ' ?_ ?_);all_goals(intro hc;try simp only[hcs]at hc;try(exfalso;first|contradiction|omega))))
  apply LR.call
  · exact rfl
  intro w1 h1
  refine (g38 2 (by omega) (by omega) w1).mono ?_
  rintro v w2 ⟨a2, c2, rfl, hn⟩
  refine LR.back (h1.newSl hn) ?_
  clear h1
  clear hn
  repeat'(first|refine kv' ?_|apply jJ|refine jE' ?_|refine jp' ?_|(apply jc;kernel_rfl)|refine kg' ?_|refine kG' ?_|refine kB' fun _=>?_|refine kA' fun _=>?_|refine kK' fun _=>?_|refine kU' ?_|((first|refine kR' ?_ ?_|refine kQ' ?_ ?_);all_goals(intro hc;try simp only[hcs]at hc;try(exfalso;first|contradiction|omega))))
  apply LR.call
  · exact rfl
  intro w1 h1
  have hz : a2 = none → c2 = 0 := body_nz (x := ⟨oneR 2 1 2, a2, c2⟩) (h1.holds (osl (.slice a2 1 c2) 5 1 1 (bv (oneR 2 1 2).msg.body)) (by (repeat (first | exact mH _ _ | apply mT))))
  have hap := St.apart (x := osl (.slice a2 1 c2) 5 1 1 (bv (oneR 2 1 2).msg.body)) (y := wO bw bm es1 ar1 (1)) (h1.sub (L' := [osl (.slice a2 1 c2) 5 1 1 (bv (oneR 2 1 2).msg.body), wO bw bm es1 ar1 (1)]) (by (repeat (first | exact List.Sublist.refl _ | apply List.Sublist.cons_cons | apply List.Sublist.cons)))) (by (repeat (first | exact mH _ _ | apply mT))) rfl
  refine (show CallsTo Tryz.prog 10 [.pointer (some ⟨bw, 0, none⟩), (oneR 2 1 2).val a2 c2] w1 _ from g37 bw bm es1 ar1 (1) ([oneR 2 1 1]) (oneR 2 1 2) a2 c2 w1 (h1.holds _ (by (repeat (first | exact mH _ _ | apply mT)))) g1 k2 (h1.rd_of_own (n := 1) (E := 5) (sz := 1) (by (repeat (first | exact mH _ _ | apply mT)))) hz (fun k hk => hap k (St.osl_foot hk))).mono ?_
  rintro v w2 ⟨es2, ar2, rfl, g2, hst⟩
  refine LR.back (h1.did (by (repeat (first | exact sH _ _ _ | apply sT))) rfl hst (wO_dep _ _ _ _ _)) ?_
  clear h1
  clear hst hap hz
  have e2 : wpD [oneR 2 1 1] (oneR 2 1 2) = [oneR 2 1 1, oneR 2 1 2] := wpD_new k2 (by decide)
  have f2 : wpH [oneR 2 1 1] 1 (oneR 2 1 2) = 2 := wpH_new k2 (by decide)
  rw [e2] at g2
  rw [f2]
  repeat'(first|refine kv' ?_|apply jJ|refine jE' ?_|refine jp' ?_|(apply jc;kernel_rfl)|refine kg' ?_|refine kG' ?_|refine kB' fun _=>?_|refine kA' fun _=>?_|refine kK' fun _=>?_|refine kU' ?_|((first|refine kR' ?_ ?_|refine kQ' ?_ ?_);all_goals(intro hc;try simp only[hcs]at hc;try(exfalso;first|contradiction|omega))))
  apply LR.call
  · exact rfl
  intro w1 h1
  refine (g38 4 (by omega) (by omega) w1).mono ?_
  rintro v w2 ⟨a4, c4, rfl, hn⟩
  refine LR.back (h1.newSl hn) ?_
  clear h1
  clear hn
  repeat'(first|refine kv' ?_|apply jJ|refine jE' ?_|refine jp' ?_|(apply jc;kernel_rfl)|refine kg' ?_|refine kG' ?_|refine kB' fun _=>?_|refine kA' fun _=>?_|refine kK' fun _=>?_|refine kU' ?_|((first|refine kR' ?_ ?_|refine kQ' ?_ ?_);all_goals(intro hc;try simp only[hcs]at hc;try(exfalso;first|contradiction|omega))))
  apply LR.call
  · exact rfl
  intro w1 h1
  have hz : a4 = none → c4 = 0 := body_nz (x := ⟨oneR 2 1 4, a4, c4⟩) (h1.holds (osl (.slice a4 1 c4) 5 1 1 (bv (oneR 2 1 4).msg.body)) (by (repeat (first | exact mH _ _ | apply mT))))
  have hap := St.apart (x := osl (.slice a4 1 c4) 5 1 1 (bv (oneR 2 1 4).msg.body)) (y := wO bw bm es2 ar2 (2)) (h1.sub (L' := [osl (.slice a4 1 c4) 5 1 1 (bv (oneR 2 1 4).msg.body), wO bw bm es2 ar2 (2)]) (by (repeat (first | exact List.Sublist.refl _ | apply List.Sublist.cons_cons | apply List.Sublist.cons)))) (by (repeat (first | exact mH _ _ | apply mT))) rfl
  refine (show CallsTo Tryz.prog 10 [.pointer (some ⟨bw, 0, none⟩), (oneR 2 1 4).val a4 c4] w1 _ from g37 bw bm es2 ar2 (2) ([oneR 2 1 1, oneR 2 1 2]) (oneR 2 1 4) a4 c4 w1 (h1.holds _ (by (repeat (first | exact mH _ _ | apply mT)))) g2 k4 (h1.rd_of_own (n := 1) (E := 5) (sz := 1) (by (repeat (first | exact mH _ _ | apply mT)))) hz (fun k hk => hap k (St.osl_foot hk))).mono ?_
  rintro v w2 ⟨es4, ar4, rfl, g4, hst⟩
  refine LR.back (h1.did (by (repeat (first | exact sH _ _ _ | apply sT))) rfl hst (wO_dep _ _ _ _ _)) ?_
  clear h1
  clear hst hap hz
  have e4 : wpD [oneR 2 1 1, oneR 2 1 2] (oneR 2 1 4) = [oneR 2 1 1, oneR 2 1 2, oneR 2 1 4] := wpD_new k4 (by decide)
  have f4 : wpH [oneR 2 1 1, oneR 2 1 2] 2 (oneR 2 1 4) = 4 := wpH_new k4 (by decide)
  rw [e4] at g4
  rw [f4]
  have ea : abvT [oneR 2 1 1, oneR 2 1 2, oneR 2 1 4] 1 = [oneR 2 1 2, oneR 2 1 4] := (abv_asc g4.ok (by decide) 1).trans rfl
  repeat'(first|refine kv' ?_|apply jJ|refine jE' ?_|refine jp' ?_|(apply jc;kernel_rfl)|refine kg' ?_|refine kG' ?_|refine kB' fun _=>?_|refine kA' fun _=>?_|refine kK' fun _=>?_|refine kU' ?_|((first|refine kR' ?_ ?_|refine kQ' ?_ ?_);all_goals(intro hc;try simp only[hcs]at hc;try(exfalso;first|contradiction|omega))))
  apply LR.call
  · exact rfl
  intro w1 h1
  refine (g39o bw bm es4 ar4 4 1 _ w1 (h1.holds _ (by (repeat (first | exact mH _ _ | apply mT)))) g4 (by have := congrArg List.length g4.e; simp [dats] at this; omega)).mono ?_
  rintro v w2 ⟨b, ag, cg, ms, rfl, hm, hn⟩
  refine LR.back (h1.got hn (gO_dep _ _ _ _)) ?_
  clear h1
  clear hn
  rw [ea] at hm
  obtain ⟨x1, x2, rfl⟩ : ∃ x1 x2, ms = [x1, x2] := by
    have hl := congrArg List.length hm
    simp only [List.length_map, List.length_cons, List.length_nil] at hl
    obtain ⟨x1, r, rfl⟩ : ∃ x1 r, ms = x1 :: r := by cases ms with | nil => simp at hl | cons x r => exact ⟨x, r, rfl⟩
    obtain ⟨x2, r, rfl⟩ : ∃ x1 r2, r = x1 :: r2 := by cases r with | nil => simp at hl | cons x r => exact ⟨x, r, rfl⟩
    obtain rfl : r = [] := by cases r with | nil => rfl | cons x r => simp at hl
    exact ⟨x1, x2, rfl⟩
  obtain ⟨y1, ax1, cx1⟩ := x1
  obtain ⟨y2, ax2, cx2⟩ := x2
  obtain rfl : y1 = oldM (oneR 2 1 2) := (List.cons.inj hm).1
  obtain rfl : y2 = oldM (oneR 2 1 4) := (List.cons.inj (List.cons.inj hm).2).1
  obtain ⟨x1, hx1⟩ : ∃ x1 : MsA, x1 = ⟨oldM (oneR 2 1 2), ax1, cx1⟩ := ⟨_, rfl⟩
  obtain ⟨x2, hx2⟩ : ∃ x2 : MsA, x2 = ⟨oldM (oneR 2 1 4), ax2, cx2⟩ := ⟨_, rfl⟩
  have m1 : x1.m = oldM (oneR 2 1 2) := by rw [hx1]
  have m2 : x2.m = oldM (oneR 2 1 4) := by rw [hx2]
  rw [← hx1, ← hx2]
  repeat'(first|refine kv' ?_|apply jJ|refine jE' ?_|refine jp' ?_|(apply jc;kernel_rfl)|refine kg' ?_|refine kG' ?_|refine kB' fun _=>?_|refine kA' fun _=>?_|refine kK' fun _=>?_|refine kU' ?_|(apply kq; (· exact rfl); (· intro w1 h1; exact CallsTo.q (g40 b ag cg 2 w1 (gO_rd (h1.holds (gO b ag cg [x1, x2]) (by (repeat (first | exact mH _ _ | apply mT)))))) h1))|((first|refine kR' ?_ ?_|refine kQ' ?_ ?_);all_goals(intro hc;try simp only[hcs]at hc;try(exfalso;first|contradiction|omega))))
  apply LR.call
  · exact rfl
  intro w1 h1
  have hl1 : x1.m.body.length ≤ 140737488355328 := by rw [m1]; have := k2.len; omega
  refine (g41 b ag cg x1 [x2] w1 (h1.holds _ (by (repeat (first | exact mH _ _ | apply mT)))) hl1).mono ?_
  rintro v w2 ⟨a1g, c1g, ap, cp, rfl, st⟩
  refine LR.back (h1.two st rfl rfl rfl (by (repeat (first | exact sH _ _ _ | apply sT)))) ?_
  clear h1
  clear st hl1
  rw [m1]
  repeat'(first|refine kv' ?_|apply jJ|refine jE' ?_|refine jp' ?_|(apply jc;kernel_rfl)|refine kg' ?_|refine kG' ?_|refine kB' fun _=>?_|refine kA' fun _=>?_|refine kK' fun _=>?_|refine kU' ?_|((first|refine kR' ?_ ?_|refine kQ' ?_ ?_);all_goals(intro hc;try simp only[hcs]at hc;try(exfalso;first|contradiction|omega))))
  apply LR.call
  · exact rfl
  intro w1 h1
  have hl1 : x2.m.body.length ≤ 140737488355328 := by rw [m2]; have := k4.len; omega
  refine (g41 b a1g c1g x2 [] w1 (h1.holds _ (by (repeat (first | exact mH _ _ | apply mT)))) hl1).mono ?_
  rintro v w2 ⟨a2g, c2g, aq, cq, rfl, st⟩
  refine LR.back (h1.two st rfl rfl rfl (by (repeat (first | exact sH _ _ _ | apply sT)))) ?_
  clear h1
  clear st hl1
  rw [m2]
  repeat'(first|refine kv' ?_|apply jJ|refine jE' ?_|refine jp' ?_|refine kg' ?_|refine kG' ?_|refine kB' fun _=>?_|refine kA' fun _=>?_|refine kK' fun _=>?_|refine kU' ?_|(apply kq; (· exact rfl); (· intro w1 h1; exact CallsTo.q (g41e b a2g c2g w1 (gO_rd (h1.holds (gO b a2g c2g []) (by (repeat (first | exact mH _ _ | apply mT)))))) h1))|((first|refine kR' ?_ ?_|refine kQ' ?_ ?_);all_goals(intro hc;try simp only[hcs]at hc;try(exfalso;first|contradiction|omega))))
  apply CW.reg_held (St w NoF [.own _ (.cells ((oldM (oneR 2 1 2)).cells ap cp).toArray 43 (0, 0))])
  all_goals (
    apply DW.quiet [0, 2]
    · decide +kernel
    · first | exact fun _ h => h | exact fun _ h => St.sub h (by repeat (first | exact List.Sublist.refl _ | apply List.Sublist.cons_cons | apply List.Sublist.cons))
    repeat'(first|refine yv' ?_|refine uv' ?_|refine un' ?_|(refine us' ?_ ?_;all_goals(intro hc;try simp only[hcs]at hc;try(exfalso;first|contradiction|omega)))|apply QL.nil)
    all_goals (show DW _ _ _ _ _ _ _ _))
  all_goals (
    apply DW.loud 1
    · exact rfl
    · decide +kernel
    repeat'(first|refine kg' ?_|refine kG' ?_|apply kM|refine kv' ?_|refine kK' fun _=>?_|refine kU' ?_|refine kB' fun _=>?_|refine kA' fun _=>?_|(apply kq; (· exact rfl); (· intro w1 h1; exact CallsTo.q (g43 w1) h1))|(apply LR.call; (· exact rfl); (intro w1 h1; have hb := h1.holds (MsA.body ⟨oldM (oneR 2 1 2), ap, cp⟩) (by (repeat (first | exact mH _ _ | apply mT))); have hap := St.apart (x := MsA.body ⟨oldM (oneR 2 1 2), ap, cp⟩) (y := wO bv_ bn [] 0 0) (h1.sub (L' := [MsA.body ⟨oldM (oneR 2 1 2), ap, cp⟩, wO bv_ bn [] 0 0]) (by (repeat (first | exact List.Sublist.refl _ | apply List.Sublist.cons_cons | apply List.Sublist.cons)))) (by (repeat (first | exact mH _ _ | apply mT))) rfl; refine (g42o bv_ bn [] 0 0 [] 2 1 (oneR 2 1 2) ap cp w1 (h1.holds _ (by (repeat (first | exact mH _ _ | apply mT)))) GWin.nil k2 (ownsRow_rd hb) (body_nzM hb) (fun k hk => hap k (St.osl_foot hk))).mono ?_; rintro v w2 ⟨ev1, av1, rfl, q1, hst⟩; have h2 := h1.one' hst rfl (wO_dep _ _ _ _ _) (by (repeat (first | exact sH _ _ _ | apply sT))); refine LR.back h2 ?_; clear h2 h1 hst hap hb; apply kM)))
    all_goals (refine At.stage_same (fun _ h => St.sub h (by repeat (first | exact List.Sublist.refl _ | apply List.Sublist.cons_cons | apply List.Sublist.cons))) ?_))
  all_goals (
    apply DW.loud 3
    · exact rfl
    · decide +kernel
    repeat'(first|refine kg' ?_|refine kG' ?_|apply kM|refine kv' ?_|refine kK' fun _=>?_|refine kU' ?_|refine kB' fun _=>?_|refine kA' fun _=>?_|(apply kq; (· exact rfl); (· intro w1 h1; exact CallsTo.q (g43 w1) h1))|(apply LR.call; (· exact rfl); (intro w1 h1; have hb := h1.holds (MsA.body ⟨oldM (oneR 2 1 2), ap, cp⟩) (by (repeat (first | exact mH _ _ | apply mT))); have hap := St.apart (x := MsA.body ⟨oldM (oneR 2 1 2), ap, cp⟩) (y := wO bv_ bn [] 0 0) (h1.sub (L' := [MsA.body ⟨oldM (oneR 2 1 2), ap, cp⟩, wO bv_ bn [] 0 0]) (by (repeat (first | exact List.Sublist.refl _ | apply List.Sublist.cons_cons | apply List.Sublist.cons)))) (by (repeat (first | exact mH _ _ | apply mT))) rfl; refine (g42o bv_ bn [] 0 0 [] 2 1 (oneR 2 1 2) ap cp w1 (h1.holds _ (by (repeat (first | exact mH _ _ | apply mT)))) GWin.nil k2 (ownsRow_rd hb) (body_nzM hb) (fun k hk => hap k (St.osl_foot hk))).mono ?_; rintro v w2 ⟨ev1, av1, rfl, q1, hst⟩; have h2 := h1.one' hst rfl (wO_dep _ _ _ _ _) (by (repeat (first | exact sH _ _ _ | apply sT))); refine LR.back h2 ?_; clear h2 h1 hst hap hb; apply kM)))
    all_goals (refine At.stage_same (fun _ h => St.sub h (by repeat (first | exact List.Sublist.refl _ | apply List.Sublist.cons_cons | apply List.Sublist.cons))) ?_))
  all_goals (
    apply DW.quiet [4, 5, 6, 7, 8]
    · decide +kernel
    · first | exact fun _ h => h | exact fun _ h => St.sub h (by repeat (first | exact List.Sublist.refl _ | apply List.Sublist.cons_cons | apply List.Sublist.cons))
    repeat'(first|refine yv' ?_|refine uv' ?_|refine un' ?_|(refine us' ?_ ?_;all_goals(intro hc;try simp only[hcs]at hc;try(exfalso;first|contradiction|omega)))|apply QL.nil)
    all_goals (show DW _ _ _ _ _ _ _ _))
  all_goals (first | (apply DW.done_thn; (· decide +kernel)) | (apply DW.done; (· decide +kernel)))
  have t1 : takD 2 1 [] (oneR 2 1 2) = [oneR 2 1 2] := by unfold takD; rw [if_pos (by decide)]; exact wpD_new k2 rfl
  have t2 : takH 2 1 [] 0 (oneR 2 1 2) = 2 := by unfold takH; rw [if_pos (by decide)]; exact wpH_new k2 rfl
  have t3 : (ringIs 2 1 (oneR 2 1 2) && !hasD [] (oneR 2 1 2).seq) = true := by decide
  have t4 : (ringIs 2 1 (oneR 2 1 2) && !hasD [oneR 2 1 2] (oneR 2 1 2).seq) = false := by decide
  have t5 : takH 2 1 [oneR 2 1 2] 2 (oneR 2 1 2) = 2 := by unfold takH; rw [if_pos (by decide)]; unfold wpH; rw [wp_new k2]; rfl
  rw [t1] at q1
  rw [t2, t3]
  repeat'(first|refine kv' ?_|apply jJ|refine jE' ?_|refine jp' ?_|refine kg' ?_|refine kG' ?_|refine kB' fun _=>?_|refine kA' fun _=>?_|refine kK' fun _=>?_|refine kU' ?_|((first|refine kR' ?_ ?_|refine kQ' ?_ ?_);all_goals(intro hc;try simp only[hcs]at hc;try(exfalso;first|contradiction|omega))))
  apply CW.reg_held (St w NoF [.own _ (.cells ((oldM (oneR 2 1 2)).cells ap cp).toArray 43 (0, 0))])
  all_goals (
    apply DW.quiet [0, 2]
    · decide +kernel
    · first | exact fun _ h => h | exact fun _ h => St.sub h (by repeat (first | exact List.Sublist.refl _ | apply List.Sublist.cons_cons | apply List.Sublist.cons))
    repeat'(first|refine yv' ?_|refine uv' ?_|refine un' ?_|(refine us' ?_ ?_;all_goals(intro hc;try simp only[hcs]at hc;try(exfalso;first|contradiction|omega)))|apply QL.nil)
    all_goals (show DW _ _ _ _ _ _ _ _))
  all_goals (
    apply DW.loud 1
    · exact rfl
    · decide +kernel
    repeat'(first|refine kg' ?_|refine kG' ?_|apply kM|refine kv' ?_|refine kK' fun _=>?_|refine kU' ?_|refine kB' fun _=>?_|refine kA' fun _=>?_|(apply kq; (· exact rfl); (· intro w1 h1; exact CallsTo.q (g43 w1) h1))|(apply LR.call; (· exact rfl); (intro w1 h1; have hb := h1.holds (MsA.body ⟨oldM (oneR 2 1 2), ap, cp⟩) (by (repeat (first | exact mH _ _ | apply mT))); have hap := St.apart (x := MsA.body ⟨oldM (oneR 2 1 2), ap, cp⟩) (y := wO bv_ bn ev1 av1 2) (h1.sub (L' := [MsA.body ⟨oldM (oneR 2 1 2), ap, cp⟩, wO bv_ bn ev1 av1 2]) (by (repeat (first | exact List.Sublist.refl _ | apply List.Sublist.cons_cons | apply List.Sublist.cons)))) (by (repeat (first | exact mH _ _ | apply mT))) rfl; refine (g42o bv_ bn ev1 av1 2 [oneR 2 1 2] 2 1 (oneR 2 1 2) ap cp w1 (h1.holds _ (by (repeat (first | exact mH _ _ | apply mT)))) q1 k2 (ownsRow_rd hb) (body_nzM hb) (fun k hk => hap k (St.osl_foot hk))).mono ?_; rintro v w2 ⟨ev2, av2, rfl, q2, hst⟩; have h2 := h1.one' hst rfl (wO_dep _ _ _ _ _) (by (repeat (first | exact sH _ _ _ | apply sT))); refine LR.back h2 ?_; clear h2 h1 hst hap hb; apply kM)))
    all_goals (refine At.stage_same (fun _ h => St.sub h (by repeat (first | exact List.Sublist.refl _ | apply List.Sublist.cons_cons | apply List.Sublist.cons))) ?_))
  all_goals (
    apply DW.loud 3
    · exact rfl
    · decide +kernel
    repeat'(first|refine kg' ?_|refine kG' ?_|apply kM|refine kv' ?_|refine kK' fun _=>?_|refine kU' ?_|refine kB' fun _=>?_|refine kA' fun _=>?_|(apply kq; (· exact rfl); (· intro w1 h1; exact CallsTo.q (g43 w1) h1))|(apply LR.call; (· exact rfl); (intro w1 h1; have hb := h1.holds (MsA.body ⟨oldM (oneR 2 1 2), ap, cp⟩) (by (repeat (first | exact mH _ _ | apply mT))); have hap := St.apart (x := MsA.body ⟨oldM (oneR 2 1 2), ap, cp⟩) (y := wO bv_ bn ev1 av1 2) (h1.sub (L' := [MsA.body ⟨oldM (oneR 2 1 2), ap, cp⟩, wO bv_ bn ev1 av1 2]) (by (repeat (first | exact List.Sublist.refl _ | apply List.Sublist.cons_cons | apply List.Sublist.cons)))) (by (repeat (first | exact mH _ _ | apply mT))) rfl; refine (g42o bv_ bn ev1 av1 2 [oneR 2 1 2] 2 1 (oneR 2 1 2) ap cp w1 (h1.holds _ (by (repeat (first | exact mH _ _ | apply mT)))) q1 k2 (ownsRow_rd hb) (body_nzM hb) (fun k hk => hap k (St.osl_foot hk))).mono ?_; rintro v w2 ⟨ev2, av2, rfl, q2, hst⟩; have h2 := h1.one' hst rfl (wO_dep _ _ _ _ _) (by (repeat (first | exact sH _ _ _ | apply sT))); refine LR.back h2 ?_; clear h2 h1 hst hap hb; apply kM)))
    all_goals (refine At.stage_same (fun _ h => St.sub h (by repeat (first | exact List.Sublist.refl _ | apply List.Sublist.cons_cons | apply List.Sublist.cons))) ?_))
  all_goals (
    apply DW.quiet [4, 5, 6, 7, 8]
    · decide +kernel
    · first | exact fun _ h => h | exact fun _ h => St.sub h (by repeat (first | exact List.Sublist.refl _ | apply List.Sublist.cons_cons | apply List.Sublist.cons))
    repeat'(first|refine yv' ?_|refine uv' ?_|refine un' ?_|(refine us' ?_ ?_;all_goals(intro hc;try simp only[hcs]at hc;try(exfalso;first|contradiction|omega)))|apply QL.nil)
    all_goals (show DW _ _ _ _ _ _ _ _))
  all_goals (first | (apply DW.done_thn; (· decide +kernel)) | (apply DW.done; (· decide +kernel)))
  rw [t4, t5]
  repeat'(first|refine kv' ?_|apply jJ|refine jE' ?_|refine jp' ?_|(apply jc;kernel_rfl)|refine kg' ?_|refine kG' ?_|refine kB' fun _=>?_|refine kA' fun _=>?_|refine kK' fun _=>?_|refine kU' ?_|(apply kq; (· exact rfl); (· intro w1 h1; exact CallsTo.q (show CallsTo Tryz.prog 33 _ w1 _ from t37 bv_ bn ev2 av2 2 w1 (h1.holds _ (by (repeat (first | exact mH _ _ | apply mT))))) h1))|((first|refine kR' ?_ ?_|refine kQ' ?_ ?_);all_goals(intro hc;try simp only[hcs]at hc;try(exfalso;first|contradiction|omega))))
  (apply ret1; (· exact rfl); intro w' hS)
  exact ⟨rfl, hS.toKeep⟩
end Go.Proofs.YtgblmkpfkcibiaaGreat
