/-
  Check, Sides, Gateways and Far of plans are as the chapter says. Conditions: none.
-/
import Derived.Test.YtgblmkpfkcibiaaRHPM3

set_option linter.unusedSimpArgs false
set_option linter.unusedVariables false
namespace Go.Proofs.Ytgblmkpfkcibiaa
open Go.Hb Go.ChangeShapes Go.WideShapes
attribute [local irreducible] LR CW At Ev thn blk finK noG again CallsTo DW QL dnext TW DP gpost
set_option maxRecDepth 100000

theorem opn_gat : Opn Try.prog 34 (fun _ cs => ∃ g : Gat, cs = Gat.cells g) := by
  refine (opn_struct Try.underlying34).mono fun w cs ⟨hl, h⟩ => ?_
  have hl : cs.length = 3 := hl
  match cs, hl with
  | [y0, y1, y2], _ =>
    obtain ⟨x0, h0, _⟩ := h 0 _ rfl _ opn_i64
    obtain ⟨x1, h1, _⟩ := h 1 _ rfl _ opn_i64
    obtain ⟨x2, h2, _⟩ := h 2 _ rfl _ opn_i64
    have h0 : [y0] = [Value.int .i64 x0] := h0
    have h1 : [y1] = [Value.int .i64 x1] := h1
    have h2 : [y2] = [Value.int .i64 x2] := h2
    simp only [List.cons.injEq, and_true] at h0 h1 h2
    exact ⟨⟨x0, x1, x2⟩, by rw [h0, h1, h2]; rfl⟩
theorem opn_gats : Opn Try.prog 23 (fun w cs => ∃ (a : Option Addr) (c : Nat) (l : List Gat), cs = [.slice a l.length c] ∧ Rd w a (gv l) ∧ (a = none → c = 0) ∧ l.length * 24 ≤ 140737488351232) := by
  refine (opn_slice Try.underlying23 (sz := 3) (by_ := 24) (by kernel_rfl) (by omega) (by kernel_rfl) opn_gat).mono ?_
  rintro w cs ⟨a, len, cap, css, rfl, rfl, hg, hr, hz, hc, hm⟩
  obtain ⟨l, h1, h2, _⟩ := Go.Hb.rows_of (f := Gat.cells) (R := fun _ => True) css fun c hc => (by obtain ⟨e, he⟩ := (hg c hc).1; exact ⟨e, he, trivial⟩)
  rw [h1] at hr
  have hm : css.length * 24 ≤ 140737488351232 := hm
  exact ⟨a, cap, l, by rw [h2], hr, hz, by omega⟩
theorem opn_plan : Opn Try.prog 25 (fun w cs => ∃ (p : Pln) (A : PlA), cs = p.cells A ∧ PlR w p A ∧ PlI p ∧ (A.ra = none → A.rc = 0) ∧ (A.ga = none → A.gc = 0)) := by
  refine (opn_struct Try.underlying25).mono fun w cs ⟨hl, h⟩ => ?_
  have hl : cs.length = 2 := hl
  match cs, hl with
  | [y0, y1], hl =>
    obtain ⟨ra, rc, R, h0, hr0, hb, hz0, hc0, hm0⟩ := h 0 _ rfl _ opn_ints
    obtain ⟨ga, gc, G, h1, hr1, hz1, hm1⟩ := h 1 _ rfl _ opn_gats
    have h0 : [y0] = [Value.slice ra R.length rc] := h0
    have h1 : [y1] = [Value.slice ga G.length gc] := h1
    simp only [List.cons.injEq, and_true] at h0 h1
    exact ⟨⟨R, G⟩, ⟨ra, rc, ga, gc⟩, by rw [h0, h1]; rfl, ⟨hr0, hr1⟩, ⟨hb, by show R.length * 8 ≤ _; omega, hm1⟩, hz0, hz1⟩
theorem gv_length (G : List Gat) : (gv G).length = G.length * 3 := by
  induction G with
  | nil => rfl
  | cons g r ih => rw [show gv (g :: r) = Gat.cells g ++ gv r from rfl, List.length_append, ih]; simp [Gat.cells]; omega
theorem gv_ones (G : List Gat) : (gv G).all Value.oneCell' = true := by
  rw [List.all_eq_true]
  intro v hv
  obtain ⟨g, _, h⟩ := List.mem_flatMap.1 hv
  simp only [Gat.cells, List.mem_cons, List.not_mem_nil, or_false] at h
  rcases h with rfl | rfl | rfl <;> rfl
section
variable {P : Program} {C : World → Prop} {f : Frm} {T T' T'' : TypeId} {x y : Operand}
theorem Ev.neqS {k : IntKind} {a : Int} (hx : f.ev x = .int k a) (hy : f.ev y = .int k a) : Ev P C f (.binOp .neq T' x y T'') T (.bool false) := by
  have h := Ev.neq (P := P) (C := C) (T := T) (T' := T') (T'' := T'') hx hy
  rwa [decide_eq_true rfl] at h
theorem Ev.neqB [h : Bools P T'] {a : Bool} (hx : f.ev x = .bool a) (hy : f.ev y = .bool a) : Ev P C f (.binOp .neq T' x y T'') T (.bool false) := by
  have h := Ev.neq_bool (P := P) (C := C) (T := T) (T' := T') (T'' := T'') hx hy
  rwa [beq_self_eq_true] at h
end
theorem sidesT_lenM (R : List Int) (G : List Gat) (n : Int) : (sidesT R G n).length ≤ R.length := by
  unfold sidesT
  split
  · exact sidesTo_len R n _
  · simp
theorem gwsT_lenM (R : List Int) (G : List Gat) (n : Int) : (gwsT R G n).length ≤ 8 := gwsTo_len R G n 8
theorem x17 (a b : Option Addr) (ca cb : Nat) (l : List Int) (w : World) (ha : Rd w a (iv l)) (hb : Rd w b (iv l)) (hm : l.length ≤ 17592186043904) : CallsTo Try.prog 17 [.slice a l.length ca, .slice b l.length cb] w fun v w' => v = .bool true ∧ Grew w w' := by
  have h := t19 a b ca cb l l w ha hb hm
  rw [decide_eq_true rfl] at h
  exact h
set_option maxHeartbeats 4000000 in
theorem m3 (p : Pln) (A : PlA) (nd rg : Int) (w : World) (hr : PlR w p A) (hi : PlI p) (hzr : A.ra = none → A.rc = 0) (hzg : A.ga = none → A.gc = 0) :
    CallsTo Try.prog 3 [p.val A, .int .i64 nd, .int .i64 rg] w fun v w' => v = .bool true ∧ Grew w w' := by
  refine go_in (n := 111) (pl_in hr) Try.func3 rfl rfl ?_
  have hrl := hi.rl
  have hgl := hi.gl
  have hgg := hr.g
  rw [show p.val A = .agg [.slice A.ra p.R.length A.rc, .slice A.ga p.G.length A.gc].toArray from rfl]
  repeat'(first|(refine kB' fun b3 => ?_)|(refine kA' (T := 25) fun b7 => ?_)|refine kv' ?_|apply jJ|refine jE' ?_|refine jp' ?_|(apply jc;kernel_rfl)|refine kg' ?_|refine kG' ?_|refine kB' fun _=>?_|refine kA' fun _=>?_|refine kK' fun _=>?_|refine kU' ?_|(apply LR.call; (· exact rfl); (intro w1 h1; refine (show CallsTo Try.prog 12 [.slice A.ra p.R.length A.rc] w1 _ from t13 A.ra A.rc p.R w1 (h1.rd_of memZ) hzr (by omega)).mono ?_; rintro v w2 ⟨a1, c1, rfl, hn⟩; refine LR.back (h1.newSl hn) ?_; clear hn h1))|((first|refine kR' ?_ ?_|refine kQ' ?_ ?_);all_goals(intro hc;try simp only[hcs]at hc;try(exfalso;first|contradiction|omega))))
  refine LR.append_nil (news := gv p.G) rfl rfl (fun w' hw' => hw'.rd_of memZ) (fun hx => ?_) (gv_length p.G) (gv_ones p.G) (by omega) (by unfold maxLen; omega) rfl fun a2 c2 => ?_
  · rw [hx] at hgg
    have h1 := hgg.none_nil
    have h2 := gv_length p.G
    rw [h1, List.length_nil] at h2
    exact ⟨by omega, hzg hx⟩
  repeat'(first|(apply CW.reg_heldC)|refine kv' ?_|apply jJ|refine jE' ?_|refine jp' ?_|(apply jc;kernel_rfl)|refine kg' ?_|refine kG' ?_|refine kB' fun _=>?_|refine kA' fun _=>?_|refine kK' fun _=>?_|refine kU' ?_|(apply kq; (· exact rfl); (· intro w1 h1; first | (have hq := CallsTo.q (show CallsTo Try.prog 13 [p.val ⟨a1, c1, a2, c2⟩] w1 _ from m13 p ⟨a1, c1, a2, c2⟩ w1 ⟨h1.rd_of_own memZ, h1.rd_of_own memZ⟩ hi) h1; generalize (if chkP p.R p.G then (0 : Int) else 230) = e at hq; exact hq) | (have hq := CallsTo.q (show CallsTo Try.prog 14 [p.val A] w1 _ from m14 p A w1 ⟨h1.rd_of memZ, h1.rd_of memZ⟩ hi) h1; rw [← chk_same] at hq; exact hq)))|((first|refine kR' ?_ ?_|refine kQ' ?_ ?_);all_goals(intro hc;try simp only[hcs]at hc;try(exfalso;first|contradiction|omega))))
  all_goals (
    apply DW.quiet [0, 2]
    · decide +kernel
    · first | exact fun _ h => h | exact fun _ h => St.sub h subZ
    repeat'(first|(apply QL.ev; (· exact rfl); (· apply Ev.neqS; (· exact rfl); (· exact rfl)); (· exact rfl))|refine yv' ?_|refine uv' ?_|refine un' ?_|(refine us' ?_ ?_;all_goals(intro hc;try simp only[hcs]at hc;try(exfalso;first|contradiction|omega)))|apply QL.nil)
    all_goals (show DW _ _ _ _ _ _ _ _))
  all_goals (
    apply DW.loud 1
    · exact rfl
    · decide +kernel
    repeat'(first|refine kg' ?_|refine kG' ?_|apply kM|refine kv' ?_|refine kK' fun _=>?_|refine kU' ?_|refine kB' fun _=>?_|refine kA' fun _=>?_|(apply kq; (· exact rfl); (· intro w1 h1; first | exact CallsTo.q (show CallsTo Try.prog 13 [p.val ⟨a1, c1, a2, c2⟩] w1 _ from m13 p ⟨a1, c1, a2, c2⟩ w1 ⟨h1.rd_of_own memZ, h1.rd_of_own memZ⟩ hi) h1 | (have hq := CallsTo.q (show CallsTo Try.prog 14 [p.val A] w1 _ from m14 p A w1 ⟨h1.rd_of memZ, h1.rd_of memZ⟩ hi) h1; rw [← chk_same] at hq; exact hq))))
    all_goals (refine At.stage_same (fun _ h => St.sub h subZ) ?_))
  all_goals (
    apply DW.loud 3
    · exact rfl
    · decide +kernel
    repeat'(first|refine kg' ?_|refine kG' ?_|apply kM|refine kv' ?_|refine kK' fun _=>?_|refine kU' ?_|refine kB' fun _=>?_|refine kA' fun _=>?_|(apply kq; (· exact rfl); (· intro w1 h1; first | exact CallsTo.q (show CallsTo Try.prog 13 [p.val ⟨a1, c1, a2, c2⟩] w1 _ from m13 p ⟨a1, c1, a2, c2⟩ w1 ⟨h1.rd_of_own memZ, h1.rd_of_own memZ⟩ hi) h1 | (have hq := CallsTo.q (show CallsTo Try.prog 14 [p.val A] w1 _ from m14 p A w1 ⟨h1.rd_of memZ, h1.rd_of memZ⟩ hi) h1; rw [← chk_same] at hq; exact hq))))
    all_goals (refine At.stage_same (fun _ h => St.sub h subZ) ?_))
  all_goals (
    apply DW.quiet [4]
    · decide +kernel
    · first | exact fun _ h => h | exact fun _ h => St.sub h subZ
    repeat'(first|(apply QL.ev; (· exact rfl); (· apply Ev.neqS; (· exact rfl); (· exact rfl)); (· exact rfl))|refine yv' ?_|refine uv' ?_|refine un' ?_|(refine us' ?_ ?_;all_goals(intro hc;try simp only[hcs]at hc;try(exfalso;first|contradiction|omega)))|apply QL.nil)
    all_goals (show DW _ _ _ _ _ _ _ _))
  all_goals (first | (apply DW.done_thn; (· decide +kernel)) | (apply DW.done; (· decide +kernel)))
  repeat'(first|refine kv' ?_|apply jJ|refine jE' ?_|refine jp' ?_|(apply jc;kernel_rfl)|refine kg' ?_|refine kG' ?_|refine kB' fun _=>?_|refine kA' fun _=>?_|refine kK' fun _=>?_|refine kU' ?_|((first|refine kR' ?_ ?_|refine kQ' ?_ ?_);all_goals(intro hc;try simp only[hcs]at hc;try(exfalso;first|contradiction|omega))))
  obtain ⟨F, hF⟩ : ∃ F : Int → Int → Option Int, ∀ n k, farT p.R p.G n k = F n k := ⟨_, fun _ _ => rfl⟩
  obtain ⟨S, hS, hSl⟩ : ∃ S : Int → List Int, (∀ n, sidesT p.R p.G n = S n) ∧ ∀ n, (S n).length ≤ 17592186043904 := ⟨_, fun _ => rfl, fun n => by have := sidesT_lenM p.R p.G n; omega⟩
  obtain ⟨G, hG, hGl⟩ : ∃ G : Int → List Int, (∀ n, gwsT p.R p.G n = G n) ∧ ∀ n, (G n).length ≤ 17592186043904 := ⟨_, fun _ => rfl, fun n => by have := gwsT_lenM p.R p.G n; omega⟩
  have x15 : ∀ (n k : Int) (w : World) (A' : PlA), PlR w p A' → CallsTo Try.prog 15 [p.val A', .int .i64 n, .int .i64 k] w fun v w' => v = .tuple [.int .i64 ((F n k).getD 0), .bool (F n k).isSome].toArray ∧ Grew w w' := fun n k w A' h => by rw [← hF]; exact m15 p A' n k w h hi
  have x16 : ∀ (n k : Int) (w : World) (A' : PlA), PlR w p A' → CallsTo Try.prog 16 [p.val A', .int .i64 n, .int .i64 k] w fun v w' => v = .tuple [.int .i64 ((F n k).getD 0), .bool (F n k).isSome].toArray ∧ Grew w w' := fun n k w A' h => by rw [← hF]; exact m16 p A' n k w h hi
  apply CW.loop [6, 8, 9, 10, 11, 12, 13, 14, 31, 32, 33, 34, 35, 36, 37, 38, 39, 40, 41, 42, 43, 44, 45, 46, 47, 48, 49, 50, 51, 52, 53, 54, 55, 56, 57, 58, 59, 60, 61, 62, 63, 64, 65, 66, 67, 68, 69, 70, 71, 72, 73, 74, 75, 76, 77, 78, 79, 80, 81, 82, 83, 84] (fun i : Nat => i ≤ 51) (fun i : Nat => [(8, Value.int .i64 ((i : Int) - 1))])
    (fun _ => St w NoF [osl (.slice a2 p.G.length c2) 34 3 p.G.length (gv p.G), .own b7 (.cells [Value.slice a1 p.R.length c1, .slice a2 p.G.length c2].toArray 25 (0, 0)), osl (.slice a1 p.R.length c1) 3 1 p.R.length (iv p.R), .own b3 (.cells [Value.slice A.ra p.R.length A.rc, .slice A.ga p.G.length A.gc].toArray 25 (0, 0)), rdA A.ga (gv p.G), rdA A.ra (iv p.R)]) (fun i => 51 - i)
  · exact fun w' hw' => ⟨0, Nat.zero_le _, ⟨rfl, trivial⟩, hw'⟩
  intro i g hi51
  by_cases hlt : i < 51
  · repeat'(first|(apply CW.reg_heldC)|refine kv' ?_|apply jJ|refine jE' ?_|refine jp' ?_|(apply jc;kernel_rfl)|refine kg' ?_|refine kG' ?_|refine kB' fun _=>?_|refine kA' fun _=>?_|refine kK' fun _=>?_|refine kU' ?_|(apply LR.ev; (· apply Ev.quo; (· exact rfl); (· exact rfl); (· first | decide | omega)); (· exact rfl))|(apply LR.ev; (· apply Ev.rem; (· exact rfl); (· exact rfl); (· first | decide | omega)); (· exact rfl))|(apply kq; (· exact rfl); (· intro w1 h1; first | exact CallsTo.q (show CallsTo Try.prog 15 [p.val ⟨a1, c1, a2, c2⟩, .int .i64 _, .int .i64 _] w1 _ from x15 _ _ w1 ⟨a1, c1, a2, c2⟩ ⟨h1.rd_of_own memZ, h1.rd_of_own memZ⟩) h1 | exact CallsTo.q (show CallsTo Try.prog 16 [p.val A, .int .i64 _, .int .i64 _] w1 _ from x16 _ _ w1 A ⟨h1.rd_of memZ, h1.rd_of memZ⟩) h1 | exact CallsTo.q (show CallsTo Try.prog 17 [.slice a7 (S _).length c7, .slice a8 (S _).length c8] w1 _ from x17 a7 a8 c7 c8 (S _) w1 (h1.rd_of_own memZ) (h1.rd_of_own memZ) (hSl _)) h1 | exact CallsTo.q (show CallsTo Try.prog 17 [.slice a9 (G _).length c9, .slice a10 (G _).length c10] w1 _ from x17 a9 a10 c9 c10 (G _) w1 (h1.rd_of_own memZ) (h1.rd_of_own memZ) (hGl _)) h1))|((first|refine kR' ?_ ?_|refine kQ' ?_ ?_);all_goals(intro hc;try simp only[hcs]at hc;try(exfalso;first|contradiction|omega))))
    all_goals (
      all_goals (
        apply DW.quiet [0, 1, 2, 3, 4, 5, 6, 7, 8, 9, 10, 12, 13]
        · decide +kernel
        · first | exact fun _ h => h | exact fun _ h => St.sub h subZ
        repeat'(first|(apply QL.ev; (· exact rfl); (· first | (apply Ev.neqS; (· exact rfl); (· exact rfl)) | (apply Ev.neqB; (· exact rfl); (· exact rfl))); (· exact rfl))|(apply QL.evg; (iterate 3 exact rfl); (· first | (apply Ev.neqS; (· exact rfl); (· exact rfl)) | (apply Ev.neqB; (· exact rfl); (· exact rfl))); (· exact rfl))|refine yv' ?_|refine uv' ?_|refine un' ?_|(refine us' ?_ ?_;all_goals(intro hc;try simp only[hcs]at hc;try(exfalso;first|contradiction|omega)))|apply QL.nil)
        all_goals (show DW _ _ _ _ _ _ _ _))
      all_goals (
        apply DW.loud 11
        · exact rfl
        · decide +kernel
        repeat'(first|refine kg' ?_|refine kG' ?_|apply kM|refine kv' ?_|refine kK' fun _=>?_|refine kU' ?_|refine kB' fun _=>?_|refine kA' fun _=>?_|(apply kq; (· exact rfl); (· intro w1 h1; first | exact CallsTo.q (show CallsTo Try.prog 15 [p.val ⟨a1, c1, a2, c2⟩, .int .i64 _, .int .i64 _] w1 _ from x15 _ _ w1 ⟨a1, c1, a2, c2⟩ ⟨h1.rd_of_own memZ, h1.rd_of_own memZ⟩) h1 | exact CallsTo.q (show CallsTo Try.prog 16 [p.val A, .int .i64 _, .int .i64 _] w1 _ from x16 _ _ w1 A ⟨h1.rd_of memZ, h1.rd_of memZ⟩) h1 | exact CallsTo.q (show CallsTo Try.prog 17 [.slice a7 (S _).length c7, .slice a8 (S _).length c8] w1 _ from x17 a7 a8 c7 c8 (S _) w1 (h1.rd_of_own memZ) (h1.rd_of_own memZ) (hSl _)) h1 | exact CallsTo.q (show CallsTo Try.prog 17 [.slice a9 (G _).length c9, .slice a10 (G _).length c10] w1 _ from x17 a9 a10 c9 c10 (G _) w1 (h1.rd_of_own memZ) (h1.rd_of_own memZ) (hGl _)) h1))|(apply LR.call; (· exact rfl); (intro w1 h1; first | (refine CallsTo.mono (show CallsTo Try.prog 18 [p.val ⟨a1, c1, a2, c2⟩, .int .i64 _] w1 _ from m18 p ⟨a1, c1, a2, c2⟩ _ w1 ⟨h1.rd_of_own memZ, h1.rd_of_own memZ⟩ hi) ?_; rintro v w2 ⟨a7, c7, rfl, hn⟩; rw [hS] at hn ⊢; refine LR.back (h1.newSl hn) ?_; clear hn h1) | (refine CallsTo.mono (show CallsTo Try.prog 19 [p.val A, .int .i64 _] w1 _ from m19 p A _ w1 ⟨h1.rd_of memZ, h1.rd_of memZ⟩ hi) ?_; rintro v w2 ⟨a8, c8, rfl, hn⟩; rw [hS] at hn ⊢; refine LR.back (h1.newSl hn) ?_; clear hn h1) | (refine CallsTo.mono (show CallsTo Try.prog 20 [p.val ⟨a1, c1, a2, c2⟩, .int .i64 _] w1 _ from m20 p ⟨a1, c1, a2, c2⟩ _ w1 ⟨h1.rd_of_own memZ, h1.rd_of_own memZ⟩ hi) ?_; rintro v w2 ⟨a9, c9, rfl, hn⟩; rw [hG] at hn ⊢; refine LR.back (h1.newSl hn) ?_; clear hn h1) | (refine CallsTo.mono (show CallsTo Try.prog 21 [p.val A, .int .i64 _] w1 _ from m21 p A _ w1 ⟨h1.rd_of memZ, h1.rd_of memZ⟩ hi) ?_; rintro v w2 ⟨a10, c10, rfl, hn⟩; rw [hG] at hn ⊢; refine LR.back (h1.newSl hn) ?_; clear hn h1))))
        all_goals (refine At.stage_same (fun _ h => St.sub h subZ) ?_))
      all_goals (
        apply DW.loud 14
        · exact rfl
        · decide +kernel
        repeat'(first|refine kg' ?_|refine kG' ?_|apply kM|refine kv' ?_|refine kK' fun _=>?_|refine kU' ?_|refine kB' fun _=>?_|refine kA' fun _=>?_|(apply kq; (· exact rfl); (· intro w1 h1; first | exact CallsTo.q (show CallsTo Try.prog 15 [p.val ⟨a1, c1, a2, c2⟩, .int .i64 _, .int .i64 _] w1 _ from x15 _ _ w1 ⟨a1, c1, a2, c2⟩ ⟨h1.rd_of_own memZ, h1.rd_of_own memZ⟩) h1 | exact CallsTo.q (show CallsTo Try.prog 16 [p.val A, .int .i64 _, .int .i64 _] w1 _ from x16 _ _ w1 A ⟨h1.rd_of memZ, h1.rd_of memZ⟩) h1 | exact CallsTo.q (show CallsTo Try.prog 17 [.slice a7 (S _).length c7, .slice a8 (S _).length c8] w1 _ from x17 a7 a8 c7 c8 (S _) w1 (h1.rd_of_own memZ) (h1.rd_of_own memZ) (hSl _)) h1 | exact CallsTo.q (show CallsTo Try.prog 17 [.slice a9 (G _).length c9, .slice a10 (G _).length c10] w1 _ from x17 a9 a10 c9 c10 (G _) w1 (h1.rd_of_own memZ) (h1.rd_of_own memZ) (hGl _)) h1))|(apply LR.call; (· exact rfl); (intro w1 h1; first | (refine CallsTo.mono (show CallsTo Try.prog 18 [p.val ⟨a1, c1, a2, c2⟩, .int .i64 _] w1 _ from m18 p ⟨a1, c1, a2, c2⟩ _ w1 ⟨h1.rd_of_own memZ, h1.rd_of_own memZ⟩ hi) ?_; rintro v w2 ⟨a7, c7, rfl, hn⟩; rw [hS] at hn ⊢; refine LR.back (h1.newSl hn) ?_; clear hn h1) | (refine CallsTo.mono (show CallsTo Try.prog 19 [p.val A, .int .i64 _] w1 _ from m19 p A _ w1 ⟨h1.rd_of memZ, h1.rd_of memZ⟩ hi) ?_; rintro v w2 ⟨a8, c8, rfl, hn⟩; rw [hS] at hn ⊢; refine LR.back (h1.newSl hn) ?_; clear hn h1) | (refine CallsTo.mono (show CallsTo Try.prog 20 [p.val ⟨a1, c1, a2, c2⟩, .int .i64 _] w1 _ from m20 p ⟨a1, c1, a2, c2⟩ _ w1 ⟨h1.rd_of_own memZ, h1.rd_of_own memZ⟩ hi) ?_; rintro v w2 ⟨a9, c9, rfl, hn⟩; rw [hG] at hn ⊢; refine LR.back (h1.newSl hn) ?_; clear hn h1) | (refine CallsTo.mono (show CallsTo Try.prog 21 [p.val A, .int .i64 _] w1 _ from m21 p A _ w1 ⟨h1.rd_of memZ, h1.rd_of memZ⟩ hi) ?_; rintro v w2 ⟨a10, c10, rfl, hn⟩; rw [hG] at hn ⊢; refine LR.back (h1.newSl hn) ?_; clear hn h1))))
        all_goals (refine At.stage_same (fun _ h => St.sub h subZ) ?_))
      all_goals (
        apply DW.loud 15
        · exact rfl
        · decide +kernel
        repeat'(first|refine kg' ?_|refine kG' ?_|apply kM|refine kv' ?_|refine kK' fun _=>?_|refine kU' ?_|refine kB' fun _=>?_|refine kA' fun _=>?_|(apply kq; (· exact rfl); (· intro w1 h1; first | exact CallsTo.q (show CallsTo Try.prog 15 [p.val ⟨a1, c1, a2, c2⟩, .int .i64 _, .int .i64 _] w1 _ from x15 _ _ w1 ⟨a1, c1, a2, c2⟩ ⟨h1.rd_of_own memZ, h1.rd_of_own memZ⟩) h1 | exact CallsTo.q (show CallsTo Try.prog 16 [p.val A, .int .i64 _, .int .i64 _] w1 _ from x16 _ _ w1 A ⟨h1.rd_of memZ, h1.rd_of memZ⟩) h1 | exact CallsTo.q (show CallsTo Try.prog 17 [.slice a7 (S _).length c7, .slice a8 (S _).length c8] w1 _ from x17 a7 a8 c7 c8 (S _) w1 (h1.rd_of_own memZ) (h1.rd_of_own memZ) (hSl _)) h1 | exact CallsTo.q (show CallsTo Try.prog 17 [.slice a9 (G _).length c9, .slice a10 (G _).length c10] w1 _ from x17 a9 a10 c9 c10 (G _) w1 (h1.rd_of_own memZ) (h1.rd_of_own memZ) (hGl _)) h1))|(apply LR.call; (· exact rfl); (intro w1 h1; first | (refine CallsTo.mono (show CallsTo Try.prog 18 [p.val ⟨a1, c1, a2, c2⟩, .int .i64 _] w1 _ from m18 p ⟨a1, c1, a2, c2⟩ _ w1 ⟨h1.rd_of_own memZ, h1.rd_of_own memZ⟩ hi) ?_; rintro v w2 ⟨a7, c7, rfl, hn⟩; rw [hS] at hn ⊢; refine LR.back (h1.newSl hn) ?_; clear hn h1) | (refine CallsTo.mono (show CallsTo Try.prog 19 [p.val A, .int .i64 _] w1 _ from m19 p A _ w1 ⟨h1.rd_of memZ, h1.rd_of memZ⟩ hi) ?_; rintro v w2 ⟨a8, c8, rfl, hn⟩; rw [hS] at hn ⊢; refine LR.back (h1.newSl hn) ?_; clear hn h1) | (refine CallsTo.mono (show CallsTo Try.prog 20 [p.val ⟨a1, c1, a2, c2⟩, .int .i64 _] w1 _ from m20 p ⟨a1, c1, a2, c2⟩ _ w1 ⟨h1.rd_of_own memZ, h1.rd_of_own memZ⟩ hi) ?_; rintro v w2 ⟨a9, c9, rfl, hn⟩; rw [hG] at hn ⊢; refine LR.back (h1.newSl hn) ?_; clear hn h1) | (refine CallsTo.mono (show CallsTo Try.prog 21 [p.val A, .int .i64 _] w1 _ from m21 p A _ w1 ⟨h1.rd_of memZ, h1.rd_of memZ⟩ hi) ?_; rintro v w2 ⟨a10, c10, rfl, hn⟩; rw [hG] at hn ⊢; refine LR.back (h1.newSl hn) ?_; clear hn h1))))
        all_goals (refine At.stage_same (fun _ h => St.sub h subZ) ?_))
      all_goals (
        apply DW.quiet [16, 17, 18, 19, 20, 22, 23]
        · decide +kernel
        · first | exact fun _ h => h | exact fun _ h => St.sub h subZ
        repeat'(first|(apply QL.ev; (· exact rfl); (· first | (apply Ev.neqS; (· exact rfl); (· exact rfl)) | (apply Ev.neqB; (· exact rfl); (· exact rfl))); (· exact rfl))|(apply QL.evg; (iterate 3 exact rfl); (· first | (apply Ev.neqS; (· exact rfl); (· exact rfl)) | (apply Ev.neqB; (· exact rfl); (· exact rfl))); (· exact rfl))|refine yv' ?_|refine uv' ?_|refine un' ?_|(refine us' ?_ ?_;all_goals(intro hc;try simp only[hcs]at hc;try(exfalso;first|contradiction|omega)))|apply QL.nil)
        all_goals (show DW _ _ _ _ _ _ _ _))
      all_goals (
        apply DW.loud 21
        · exact rfl
        · decide +kernel
        repeat'(first|refine kg' ?_|refine kG' ?_|apply kM|refine kv' ?_|refine kK' fun _=>?_|refine kU' ?_|refine kB' fun _=>?_|refine kA' fun _=>?_|(apply kq; (· exact rfl); (· intro w1 h1; first | exact CallsTo.q (show CallsTo Try.prog 15 [p.val ⟨a1, c1, a2, c2⟩, .int .i64 _, .int .i64 _] w1 _ from x15 _ _ w1 ⟨a1, c1, a2, c2⟩ ⟨h1.rd_of_own memZ, h1.rd_of_own memZ⟩) h1 | exact CallsTo.q (show CallsTo Try.prog 16 [p.val A, .int .i64 _, .int .i64 _] w1 _ from x16 _ _ w1 A ⟨h1.rd_of memZ, h1.rd_of memZ⟩) h1 | exact CallsTo.q (show CallsTo Try.prog 17 [.slice a7 (S _).length c7, .slice a8 (S _).length c8] w1 _ from x17 a7 a8 c7 c8 (S _) w1 (h1.rd_of_own memZ) (h1.rd_of_own memZ) (hSl _)) h1 | exact CallsTo.q (show CallsTo Try.prog 17 [.slice a9 (G _).length c9, .slice a10 (G _).length c10] w1 _ from x17 a9 a10 c9 c10 (G _) w1 (h1.rd_of_own memZ) (h1.rd_of_own memZ) (hGl _)) h1))|(apply LR.call; (· exact rfl); (intro w1 h1; first | (refine CallsTo.mono (show CallsTo Try.prog 18 [p.val ⟨a1, c1, a2, c2⟩, .int .i64 _] w1 _ from m18 p ⟨a1, c1, a2, c2⟩ _ w1 ⟨h1.rd_of_own memZ, h1.rd_of_own memZ⟩ hi) ?_; rintro v w2 ⟨a7, c7, rfl, hn⟩; rw [hS] at hn ⊢; refine LR.back (h1.newSl hn) ?_; clear hn h1) | (refine CallsTo.mono (show CallsTo Try.prog 19 [p.val A, .int .i64 _] w1 _ from m19 p A _ w1 ⟨h1.rd_of memZ, h1.rd_of memZ⟩ hi) ?_; rintro v w2 ⟨a8, c8, rfl, hn⟩; rw [hS] at hn ⊢; refine LR.back (h1.newSl hn) ?_; clear hn h1) | (refine CallsTo.mono (show CallsTo Try.prog 20 [p.val ⟨a1, c1, a2, c2⟩, .int .i64 _] w1 _ from m20 p ⟨a1, c1, a2, c2⟩ _ w1 ⟨h1.rd_of_own memZ, h1.rd_of_own memZ⟩ hi) ?_; rintro v w2 ⟨a9, c9, rfl, hn⟩; rw [hG] at hn ⊢; refine LR.back (h1.newSl hn) ?_; clear hn h1) | (refine CallsTo.mono (show CallsTo Try.prog 21 [p.val A, .int .i64 _] w1 _ from m21 p A _ w1 ⟨h1.rd_of memZ, h1.rd_of memZ⟩ hi) ?_; rintro v w2 ⟨a10, c10, rfl, hn⟩; rw [hG] at hn ⊢; refine LR.back (h1.newSl hn) ?_; clear hn h1))))
        all_goals (refine At.stage_same (fun _ h => St.sub h subZ) ?_))
      all_goals (
        apply DW.loud 24
        · exact rfl
        · decide +kernel
        repeat'(first|refine kg' ?_|refine kG' ?_|apply kM|refine kv' ?_|refine kK' fun _=>?_|refine kU' ?_|refine kB' fun _=>?_|refine kA' fun _=>?_|(apply kq; (· exact rfl); (· intro w1 h1; first | exact CallsTo.q (show CallsTo Try.prog 15 [p.val ⟨a1, c1, a2, c2⟩, .int .i64 _, .int .i64 _] w1 _ from x15 _ _ w1 ⟨a1, c1, a2, c2⟩ ⟨h1.rd_of_own memZ, h1.rd_of_own memZ⟩) h1 | exact CallsTo.q (show CallsTo Try.prog 16 [p.val A, .int .i64 _, .int .i64 _] w1 _ from x16 _ _ w1 A ⟨h1.rd_of memZ, h1.rd_of memZ⟩) h1 | exact CallsTo.q (show CallsTo Try.prog 17 [.slice a7 (S _).length c7, .slice a8 (S _).length c8] w1 _ from x17 a7 a8 c7 c8 (S _) w1 (h1.rd_of_own memZ) (h1.rd_of_own memZ) (hSl _)) h1 | exact CallsTo.q (show CallsTo Try.prog 17 [.slice a9 (G _).length c9, .slice a10 (G _).length c10] w1 _ from x17 a9 a10 c9 c10 (G _) w1 (h1.rd_of_own memZ) (h1.rd_of_own memZ) (hGl _)) h1))|(apply LR.call; (· exact rfl); (intro w1 h1; first | (refine CallsTo.mono (show CallsTo Try.prog 18 [p.val ⟨a1, c1, a2, c2⟩, .int .i64 _] w1 _ from m18 p ⟨a1, c1, a2, c2⟩ _ w1 ⟨h1.rd_of_own memZ, h1.rd_of_own memZ⟩ hi) ?_; rintro v w2 ⟨a7, c7, rfl, hn⟩; rw [hS] at hn ⊢; refine LR.back (h1.newSl hn) ?_; clear hn h1) | (refine CallsTo.mono (show CallsTo Try.prog 19 [p.val A, .int .i64 _] w1 _ from m19 p A _ w1 ⟨h1.rd_of memZ, h1.rd_of memZ⟩ hi) ?_; rintro v w2 ⟨a8, c8, rfl, hn⟩; rw [hS] at hn ⊢; refine LR.back (h1.newSl hn) ?_; clear hn h1) | (refine CallsTo.mono (show CallsTo Try.prog 20 [p.val ⟨a1, c1, a2, c2⟩, .int .i64 _] w1 _ from m20 p ⟨a1, c1, a2, c2⟩ _ w1 ⟨h1.rd_of_own memZ, h1.rd_of_own memZ⟩ hi) ?_; rintro v w2 ⟨a9, c9, rfl, hn⟩; rw [hG] at hn ⊢; refine LR.back (h1.newSl hn) ?_; clear hn h1) | (refine CallsTo.mono (show CallsTo Try.prog 21 [p.val A, .int .i64 _] w1 _ from m21 p A _ w1 ⟨h1.rd_of memZ, h1.rd_of memZ⟩ hi) ?_; rintro v w2 ⟨a10, c10, rfl, hn⟩; rw [hG] at hn ⊢; refine LR.back (h1.newSl hn) ?_; clear hn h1))))
        all_goals (refine At.stage_same (fun _ h => St.sub h subZ) ?_))
      all_goals (
        apply DW.loud 25
        · exact rfl
        · decide +kernel
        repeat'(first|refine kg' ?_|refine kG' ?_|apply kM|refine kv' ?_|refine kK' fun _=>?_|refine kU' ?_|refine kB' fun _=>?_|refine kA' fun _=>?_|(apply kq; (· exact rfl); (· intro w1 h1; first | exact CallsTo.q (show CallsTo Try.prog 15 [p.val ⟨a1, c1, a2, c2⟩, .int .i64 _, .int .i64 _] w1 _ from x15 _ _ w1 ⟨a1, c1, a2, c2⟩ ⟨h1.rd_of_own memZ, h1.rd_of_own memZ⟩) h1 | exact CallsTo.q (show CallsTo Try.prog 16 [p.val A, .int .i64 _, .int .i64 _] w1 _ from x16 _ _ w1 A ⟨h1.rd_of memZ, h1.rd_of memZ⟩) h1 | exact CallsTo.q (show CallsTo Try.prog 17 [.slice a7 (S _).length c7, .slice a8 (S _).length c8] w1 _ from x17 a7 a8 c7 c8 (S _) w1 (h1.rd_of_own memZ) (h1.rd_of_own memZ) (hSl _)) h1 | exact CallsTo.q (show CallsTo Try.prog 17 [.slice a9 (G _).length c9, .slice a10 (G _).length c10] w1 _ from x17 a9 a10 c9 c10 (G _) w1 (h1.rd_of_own memZ) (h1.rd_of_own memZ) (hGl _)) h1))|(apply LR.call; (· exact rfl); (intro w1 h1; first | (refine CallsTo.mono (show CallsTo Try.prog 18 [p.val ⟨a1, c1, a2, c2⟩, .int .i64 _] w1 _ from m18 p ⟨a1, c1, a2, c2⟩ _ w1 ⟨h1.rd_of_own memZ, h1.rd_of_own memZ⟩ hi) ?_; rintro v w2 ⟨a7, c7, rfl, hn⟩; rw [hS] at hn ⊢; refine LR.back (h1.newSl hn) ?_; clear hn h1) | (refine CallsTo.mono (show CallsTo Try.prog 19 [p.val A, .int .i64 _] w1 _ from m19 p A _ w1 ⟨h1.rd_of memZ, h1.rd_of memZ⟩ hi) ?_; rintro v w2 ⟨a8, c8, rfl, hn⟩; rw [hS] at hn ⊢; refine LR.back (h1.newSl hn) ?_; clear hn h1) | (refine CallsTo.mono (show CallsTo Try.prog 20 [p.val ⟨a1, c1, a2, c2⟩, .int .i64 _] w1 _ from m20 p ⟨a1, c1, a2, c2⟩ _ w1 ⟨h1.rd_of_own memZ, h1.rd_of_own memZ⟩ hi) ?_; rintro v w2 ⟨a9, c9, rfl, hn⟩; rw [hG] at hn ⊢; refine LR.back (h1.newSl hn) ?_; clear hn h1) | (refine CallsTo.mono (show CallsTo Try.prog 21 [p.val A, .int .i64 _] w1 _ from m21 p A _ w1 ⟨h1.rd_of memZ, h1.rd_of memZ⟩ hi) ?_; rintro v w2 ⟨a10, c10, rfl, hn⟩; rw [hG] at hn ⊢; refine LR.back (h1.newSl hn) ?_; clear hn h1))))
        all_goals (refine At.stage_same (fun _ h => St.sub h subZ) ?_))
      all_goals (
        apply DW.quiet [26, 27]
        · decide +kernel
        · first | exact fun _ h => h | exact fun _ h => St.sub h subZ
        repeat'(first|(apply QL.ev; (· exact rfl); (· first | (apply Ev.neqS; (· exact rfl); (· exact rfl)) | (apply Ev.neqB; (· exact rfl); (· exact rfl))); (· exact rfl))|(apply QL.evg; (iterate 3 exact rfl); (· first | (apply Ev.neqS; (· exact rfl); (· exact rfl)) | (apply Ev.neqB; (· exact rfl); (· exact rfl))); (· exact rfl))|refine yv' ?_|refine uv' ?_|refine un' ?_|(refine us' ?_ ?_;all_goals(intro hc;try simp only[hcs]at hc;try(exfalso;first|contradiction|omega)))|apply QL.nil)
        all_goals (show DW _ _ _ _ _ _ _ _))
      all_goals (first | (apply DW.done_thn; (· decide +kernel)) | (apply DW.done; (· decide +kernel)))
      repeat'(first|refine kv' ?_|apply jJ|refine jE' ?_|refine jp' ?_|(apply jc;kernel_rfl)|refine kg' ?_|refine kG' ?_|refine kB' fun _=>?_|refine kA' fun _=>?_|refine kK' fun _=>?_|refine kU' ?_|(apply addX;(iterate 2 exact rfl);(iterate 2(first|omega|(dsimp only;omega)));exact rfl)|((first|refine kR' ?_ ?_|refine kQ' ?_ ?_);all_goals(intro hc;try simp only[hcs]at hc;try(exfalso;first|contradiction|omega))))
      refine At.again (i + 1) (by omega) ?_ ⟨?_, trivial⟩ (fun w' hw' => hw'.sub subZ) (by omega)
      · (repeat (first | exact Out.refl _ _ | exact Out.mix | (apply Out.upd; (· exact rfl)) | (apply Out.updL; (· exact rfl)) | (apply Out.mixs; (· exact rfl))))
      · exact congrArg (Value.int .i64) (by omega)
      )
  have hie : i = 51 := by omega
  subst hie
  repeat'(first|refine kv' ?_|apply jJ|refine jE' ?_|refine jp' ?_|(apply jc;kernel_rfl)|refine kg' ?_|refine kG' ?_|refine kB' fun _=>?_|refine kA' fun _=>?_|refine kK' fun _=>?_|refine kU' ?_|((first|refine kR' ?_ ?_|refine kQ' ?_ ?_);all_goals(intro hc;try simp only[hcs]at hc;try(exfalso;first|contradiction|omega))))
  refine CW_fact (φ := p.G ≠ [] → ∃ b o, a2 = some ⟨b, o, none⟩) (fun w' hw' h => (hw'.rd_of_own (E := 34) (sz := 3) (n := p.G.length) (xs := gv p.G) memZ).form (fun e => h (by have := gv_length p.G; rw [e] at this; exact List.length_eq_zero_iff.1 (by simp at this; omega)))) fun hf => ?_
  apply CW.loop [6, 15, 85, 86, 87, 88, 89, 90, 91, 92, 93, 94, 95, 96, 97, 98, 99, 100, 101, 102] (fun i : Nat => i ≤ p.G.length) (fun i : Nat => [(15, Value.int .i64 (i : Int))])
    (fun _ => St w NoF [osl (.slice a2 p.G.length c2) 34 3 p.G.length (gv p.G), .own b7 (.cells [Value.slice a1 p.R.length c1, .slice a2 p.G.length c2].toArray 25 (0, 0)), osl (.slice a1 p.R.length c1) 3 1 p.R.length (iv p.R), .own b3 (.cells [Value.slice A.ra p.R.length A.rc, .slice A.ga p.G.length A.gc].toArray 25 (0, 0)), rdA A.ga (gv p.G), rdA A.ra (iv p.R)]) (fun i => p.G.length - i)
  · exact fun w' hw' => ⟨0, Nat.zero_le _, ⟨rfl, trivial⟩, hw'⟩
  intro i g hil
  by_cases hlt : i < p.G.length
  · have hne : p.G ≠ [] := fun e => by rw [e] at hlt; simp at hlt
    obtain ⟨b2, o2, rfl⟩ := hf hne
    obtain ⟨bg, og, hga⟩ := hr.g.form (fun e => hne (by have := gv_length p.G; rw [e] at this; exact List.length_eq_zero_iff.1 (by simp at this; omega)))
    rw [hga]
    obtain ⟨y, hy⟩ : ∃ y, p.G[i] = y := ⟨_, rfl⟩
    repeat'(first|(apply LR.ev; (· apply Ev.load_agg_at (cs := [Value.int .i64 y.n, .int .i64 y.a, .int .i64 y.b]); (· exact rfl); (· exact rfl); (· intro w' hw' j v hv; rw [← hy] at hv; rw [addr_add]; exact gat_cell (hw'.rd_of_own (E := 34) (sz := 3) (n := p.G.length) (xs := gv p.G) memZ) hlt j hv rfl)); (· exact rfl))|(apply LR.ev; (· apply Ev.load_agg_at (cs := [Value.int .i64 y.n, .int .i64 y.a, .int .i64 y.b]); (· exact rfl); (· exact rfl); (· intro w' hw' j v hv; rw [← hy] at hv; rw [addr_add]; exact gat_cell (hw'.rd_of memZ) hlt j hv rfl)); (· exact rfl))|refine kv' ?_|apply jJ|refine jE' ?_|refine jp' ?_|(apply jc;kernel_rfl)|refine kg' ?_|refine kG' ?_|refine kB' fun _=>?_|refine kA' fun _=>?_|refine kK' fun _=>?_|refine kU' ?_|(apply idxX;(iterate 2 exact rfl);(iterate 2(first|omega|(dsimp only;omega)));exact rfl)|(apply addX;(iterate 2 exact rfl);(iterate 2(first|omega|(dsimp only;omega)));exact rfl)|((first|refine kR' ?_ ?_|refine kQ' ?_ ?_);all_goals(intro hc;try simp only[hcs]at hc;try(exfalso;first|contradiction|omega))))
    all_goals first
      | (exfalso; simp_all; done)
      | (refine At.again (i + 1) (by omega) ?_ ⟨rfl, trivial⟩ (fun w' hw' => hw') (by omega)
         · (repeat (first | exact Out.refl _ _ | exact Out.mix | (apply Out.upd; (· exact rfl)) | (apply Out.updL; (· exact rfl)) | (apply Out.mixs; (· exact rfl))))
         )
  have hie : i = p.G.length := by omega
  subst hie
  repeat'(first|refine kv' ?_|apply jJ|refine jE' ?_|refine jp' ?_|(apply jc;kernel_rfl)|refine kg' ?_|refine kG' ?_|refine kB' fun _=>?_|refine kA' fun _=>?_|refine kK' fun _=>?_|refine kU' ?_|(apply kq; (· exact rfl); (· intro w1 h1; first | exact CallsTo.q (show CallsTo Try.prog 17 [.slice a1 p.R.length c1, .slice A.ra p.R.length A.rc] w1 _ from x17 a1 A.ra c1 A.rc p.R w1 (h1.rd_of_own memZ) (h1.rd_of memZ) (by omega)) h1 | exact CallsTo.q (m22 w1) h1))|((first|refine kR' ?_ ?_|refine kQ' ?_ ?_);all_goals(intro hc;try simp only[hcs]at hc;try(exfalso;first|contradiction|omega))))
  (apply ret1; (· exact rfl); intro w' hS)
  exact ⟨rfl, hS.toKeep⟩
end Go.Proofs.Ytgblmkpfkcibiaa

namespace Go.Proofs.Ytgblmkpfkcibiaa
open Go.Hb Go.ChangeShapes Go.WideShapes
attribute [local irreducible] LR CW At Ev thn blk finK noG again CallsTo DW QL dnext

set_option maxHeartbeats 1000000 in
set_option maxRecDepth 100000 in
theorem chartPlans_lifted (os : Os) (started : os.Started) (H : Type) (enc : TypeId × Value → H) :
    ReturnsInHanded {} Try.checked os 3 .any (Rows.chartPlansSpec.pre6 enc Try.prog Try.f3 Rows.chartPlansRow.domain false) (Rows.chartPlansSpec.post enc Try.prog Try.f3 false true false false) := by
  refine returnsInHanded_of_change_sized (C := Try.checked) (s := Rows.chartPlansSpec) own_knob started (by kernel_rfl) Try.func3
    (ChangeSpec.witness6 (enc := enc) (C := Try.checked) false ⟨#[], #[.agg #[.slice none 0 0, .slice none 0 0], .int .i64 0, .int .i64 0], []⟩ 12 (by kernel_rfl) (by kernel_rfl) (by kernel_rfl) (by kernel_rfl)) ?_
  intro W base args ds gs before hval hW hcnd hwt _
  have hW' := hW
  obtain ⟨p, q, hA0, hV, rfl, hfz, hnd⟩ := hW'
  obtain ⟨rfl, rfl⟩ := trodVars_none hV
  have hA : DataW.TrodAll enc Try.prog W 0 (fun _ => true) true Try.f3.params.toList args.toList ds p := hA0
  rw [Try.params3] at hA
  obtain ⟨v0, vs0, d0, ds0, p0, q0, hargs, rfl, rfl, h0, r0⟩ := trodAll_cons hA
  obtain ⟨v1, vs1, d1, ds1, p1, q1, rfl, rfl, rfl, h1, r1⟩ := trodAll_cons r0
  obtain ⟨v2, vs2, d2, ds2, p2, q2, rfl, rfl, rfl, h2, r2⟩ := trodAll_cons r1
  obtain ⟨rfl, rfl, rfl⟩ := trodAll_nil r2
  obtain rfl : args = #[v0, v1, v2] := by cases args; simp_all
  obtain ⟨p0, A0, hcs0, hr0, hi0, hzr0, hzg0⟩ := opn_arg (i := 0) opn_plan h0 hwt rfl rfl
  obtain ⟨cs0, rfl, _⟩ := okWide_struct Try.underlying25 (hval 0 25 v0 rfl rfl)
  obtain rfl : cs0 = (Pln.cells p0 A0).toArray := Array.toList_inj.1 hcs0
  obtain ⟨x1, hcs1, hb1⟩ := opn_arg (i := 1) opn_i64 h1 hwt rfl rfl
  obtain ⟨y1, rfl⟩ := okWide_int Try.underlying3 (hval 1 3 v1 rfl rfl)
  have hcs1 : [Value.int .i64 y1] = [.int .i64 x1] := hcs1
  simp only [List.cons.injEq, Value.int.injEq, true_and, and_true] at hcs1
  have hcs1 := hcs1.symm
  subst hcs1
  obtain ⟨x2, hcs2, hb2⟩ := opn_arg (i := 2) opn_i64 h2 hwt rfl rfl
  obtain ⟨y2, rfl⟩ := okWide_int Try.underlying3 (hval 2 3 v2 rfl rfl)
  have hcs2 : [Value.int .i64 y2] = [.int .i64 x2] := hcs2
  simp only [List.cons.injEq, Value.int.injEq, true_and, and_true] at hcs2
  have hcs2 := hcs2.symm
  subst hcs2
  refine (m3 p0 A0 x1 x2 W hr0 hi0 hzr0 hzg0).calls fun v W' ⟨hv, hg⟩ => ⟨v, rfl, ?_⟩
  subst hv
  exact law_post kids full_slices hW hg rfl rfl (by kernel_rfl) Try.underlying4 (by rw [Try.params3]; decide +kernel)

theorem chartPlans_holds : Rows.ChartPlansSaid :=
  OpenClaim.holds_of_wide 3 Try.f3 rfl rfl rfl rfl rfl rfl rfl ⟨rfl, rfl, rfl, rfl, rfl⟩ rfl rfl rfl rfl rfl (by kernel_rfl) Try.func3 (by kernel_rfl)
    (of_decide_eq_true (by kernel_rfl)) (by unfold Func.isWrapper; first | (rw [if_pos (by decide +kernel)]; kernel_rfl) | (rw [if_neg (by decide +kernel)]; exact ⟨rfl, rfl⟩))
    (fun os started H enc _ => chartPlans_lifted os started H enc)
end Go.Proofs.Ytgblmkpfkcibiaa
