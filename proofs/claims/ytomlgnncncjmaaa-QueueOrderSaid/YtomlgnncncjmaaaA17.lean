/-
  Check and Unpack of the program, of every message and all bytes.
-/
import Derived.Test.YtomlgnncncjmaaaA16
-- all by hand
namespace Go.Proofs.Ytomlgnncncjmaaa
open Go.Hb
attribute [local irreducible] LR CW At Ev thn blk finK noG again CallsTo DW QL dnext
set_option linter.unusedSimpArgs false
set_option linter.unusedVariables false
set_option maxRecDepth 100000

theorem unp_all : ∀ K, UnpC 23 K
  | 0 => fun a ca l w hr hz hm hb hK => c23 (ck := fun _ => 2) l (fun m a c w _ _ _ h => by omega) a ca w hr hz hm hb
  | K + 1 => fun a ca l w hr hz hm hb hK => c23 (ck := checkM (unpackF K)) l (fun m a c w h1 h2 h3 h4 => c17 (unp_all K) m a c w h1 h2 (by omega) h3 (fun _ => by omega)) a ca w hr hz hm hb

theorem unpackW_congr {ck ck' : Msg → Int} {l : List Int} (h : ∀ m : Msg, m.body.length < l.length → ck m = ck' m) : unpackW ck l = unpackW ck' l := by
  unfold unpackW
  by_cases h1 : (decs 8 l).2.1 = 0
  · by_cases h2 : (decs 4 (decs 8 l).2.2).2.1 = 0
    · by_cases h3 : (octs 160 (decs 4 (decs 8 l).2.2).2.2).2.1 = 0
      · have hl := (octs_facts h3).1
        have hrl : (decs 4 (decs 8 l).2.2).2.2.length ≤ l.length := Nat.le_trans (decs_rest_len 4 _) (decs_rest_len 8 l)
        rw [h (msgOf (decs 8 l).1 (decs 4 (decs 8 l).2.2).1 (octs 160 (decs 4 (decs 8 l).2.2).2.2).1) (Nat.lt_of_lt_of_le hl hrl)]
      · simp only [h3, ne_eq, not_false_eq_true, if_true]
    · simp only [h2, ne_eq, not_false_eq_true, if_true]
  · simp only [h1, ne_eq, not_false_eq_true, if_true]
theorem checkM_congr {u u' : List Int → Msg × Int} {m : Msg} (h : u m.body = u' m.body) : checkM u m = checkM u' m := by
  unfold checkM mayB kindB oldB
  rw [h]
theorem unpackF_same : ∀ (K K' : Nat) (l : List Int), l.length ≤ K → l.length ≤ K' → unpackF K l = unpackF K' l
  | 0, K', l, h, _ => by
    cases K' with
    | zero => rfl
    | succ k => exact unpackW_congr fun m hm => by omega
  | K + 1, 0, l, _, h => unpackW_congr fun m hm => by omega
  | K + 1, K' + 1, l, h, h' => unpackW_congr fun m hm => checkM_congr (unpackF_same K K' m.body (by omega) (by omega))
/-- The message of bytes, or what is wrong with them. -/
def unpack (l : List Int) : Msg × Int := unpackF l.length l
/-- Whether a message may be. -/
def check (m : Msg) : Int := checkM unpack m
theorem check_of {K : Nat} {m : Msg} (h : m.body.length ≤ K) : checkM (unpackF K) m = check m := checkM_congr (unpackF_same K _ m.body h (Nat.le_refl _))
theorem unpack_eq (l : List Int) : unpack l = unpackW check l := by
  unfold unpack
  rw [unpackF_same l.length (l.length + 1) l (Nat.le_refl _) (Nat.le_succ _)]
  exact unpackW_congr fun m hm => check_of (by omega)

theorem d23 (a : Option Addr) (ca : Nat) (l : List Int) (w : World) (hr : Rd w a (bv l)) (hz : a = none → ca = 0) (hm : l.length ≤ 140737488355328) (hb : Byt l) :
    CallsTo Try.prog 23 [.slice a l.length ca] w fun v w' => ∃ a2 c2, v = .tuple [(unpack l).1.val a2 c2, .int .i64 (unpack l).2].toArray ∧ NewSl w w' (.slice a2 (unpack l).1.body.length c2) 5 1 (unpack l).1.body.length (bv (unpack l).1.body) :=
  unp_all l.length a ca l w hr hz hm hb (Nat.le_refl _)
theorem d17 (m : Msg) (a : Option Addr) (c : Nat) (w : World) (hr : Rd w a (bv m.body)) (hz : a = none → c = 0) (hm : m.body.length ≤ 140737488355328) (hb : Byt m.body) :
    CallsTo Try.prog 17 [m.val a c] w fun v w' => v = .int .i64 (check m) ∧ Grew w w' := by
  have := c17 (unp_all m.body.length) m a c w hr hz hm hb (fun _ => Nat.le_refl _)
  rwa [check_of (Nat.le_refl _)] at this
end Go.Proofs.Ytomlgnncncjmaaa
