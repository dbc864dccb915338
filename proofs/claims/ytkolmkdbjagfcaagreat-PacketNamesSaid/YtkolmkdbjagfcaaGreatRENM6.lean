/-
  The numbers and examples of packets. Conditions: none.
-/
import Derived.Test.YtkolmkdbjagfcaaGreatRENM5
import Derived.Shelf.Sort.Plain
import Derived.Ground.Names2Prog
import Derived.Shelf.Slices.CompactI
import Derived.Shelf.Slices.In.SortNone
import Derived.Test.YtkolmkdbjagfcaaGreatProg
import Derived.Sort.OwnSortedInts

set_option linter.unusedSimpArgs false
set_option linter.unusedVariables false
namespace Go.Proofs.YtkolmkdbjagfcaaGreat
open Go.Hb
theorem CW_fact {P : Program} {n : Nat} {c : Code} {Q : Post} {f : Frm} {C : World → Prop} {φ : Prop} (h : ∀ w, C w → φ) (k : φ → CW P n c Q f C) : CW P n c Q f C := fun w hw => k (h w hw) w hw
attribute [local irreducible] LR CW At Ev thn blk finK noG again CallsTo DW QL dnext TW DP
set_option maxRecDepth 100000

structure BRow where
  a : Option Addr
  c : Nat
  l : List Int
def BRow.cells (r : BRow) : List Value := [.slice r.a r.l.length r.c]
theorem BRow.cells_len (r : BRow) : r.cells.length = 1 := rfl
structure BRow.ok (r : BRow) : Prop where
  byt : Byt r.l
  z : r.a = none → r.c = 0
  cap : r.l.length ≤ r.c
  len : r.l.length ≤ 5000
  sub : subA r.a r.c 0 1 = r.a
theorem rd_takeB {w : World} {a : Option Addr} {l : List Int} {n : Nat} (h : Rd w a (bv l)) : Rd w a (bv (l.take n)) := fun j v hj => h j v (by
  have e : bv (l.take n) = (bv l).take n := by simp [bv]
  rw [e, List.getElem?_take] at hj
  split at hj
  · exact hj
  · cases hj)
theorem byt_of {l : List Int} (h : l.all (fun x => decide (0 ≤ x ∧ x < 256)) = true) : Byt l := fun x hx => by
  have := List.all_eq_true.1 h x hx
  simpa using this
theorem ownsRow_sub0 {w : World} {base E sz n c : Nat} {a : Option Addr} {xs : List Value} (h : w.ownsRow base E sz (.slice a n c) n xs) : subA a c 0 sz = a := by
  rcases h.2 with ⟨he, _⟩ | ⟨g, cap, cur, he, _⟩
  · simp only [Value.slice.injEq] at he
    rw [he.1]
    unfold subA
    split <;> rfl
  · simp only [Value.slice.injEq] at he
    rw [he.1]
    unfold subA
    split
    · rfl
    · simp [Addr.add]
def zer (n : Nat) : List Int := List.replicate n 0
theorem zer_len (n : Nat) : (zer n).length = n := List.length_replicate
theorem zer_byt (n : Nat) : Byt (zer n) := fun x hx => by rw [List.eq_of_mem_replicate hx]; omega
theorem zer_bv (n : Nat) : (List.replicate n [Value.int .u8 0]).flatten = bv (zer n) := by
  induction n with
  | zero => rfl
  | succ n ih =>
    rw [List.replicate_succ, List.flatten_cons, ih]
    unfold zer
    rw [List.replicate_succ]
    rfl
theorem zer_e4 {n : Nat} (b : Nat) (w : World) (hn : n ≤ 1000) (h : Rd w (some ⟨b, 0, none⟩) (List.replicate n [Value.int .u8 0]).flatten) : CallsTo Tryz.prog 4 [.slice (some ⟨b, 0, none⟩) n n] w fun v w' => v = .bool true ∧ Grew w w' := by
  rw [zer_bv] at h
  have hh := e4 (some ⟨b, 0, none⟩) n (zer n) w h (zer_byt n) (fun e => by cases e) (by rw [zer_len]; omega) (by rw [zer_len]; omega)
  rw [zer_len] at hh
  exact hh
theorem zer_p34 (b : Nat) (w : World) (h : Rd w (some ⟨b, 0, none⟩) (List.replicate 508 [Value.int .u8 0]).flatten) :
    CallsTo Tryz.prog 21 [.slice (some ⟨b, 0, none⟩) 508 508] w fun v w' => ∃ a' c', v = .slice a' (sealL (zer 508)).length c' ∧ NewSl w w' (.slice a' (sealL (zer 508)).length c') 5 1 (sealL (zer 508)).length (bv (sealL (zer 508))) := by
  rw [zer_bv] at h
  have hh := p34 (some ⟨b, 0, none⟩) 508 (zer 508) w h (zer_byt 508) (fun e => by cases e) (by rw [zer_len]; omega)
  rw [zer_len] at hh
  exact hh
theorem packed_len {p : Pkt} (h : chkP p = true) : packP p = (sealL (bodyP p), 0) := by unfold packP; rw [if_pos h]
theorem agreed_chk : chkP agreedP = true := by decide
set_option maxHeartbeats 32000000 in
theorem e5 (w : World) : CallsTo Tryz.prog 5 [] w fun v w' => v = .bool true ∧ Grew w w' := by
  refine go_in (n := 141) (St.refl _ NoF) Tryz.func5 rfl rfl ?_
  repeat'(first|refine kv' ?_|apply jJ|refine jE' ?_|refine jp' ?_|(apply jc;kernel_rfl)|refine kg' ?_|refine kG' ?_|refine kB' fun _=>?_|refine kA' fun _=>?_|refine kK' fun _=>?_|refine kU' ?_|((first|refine kR' ?_ ?_|refine kQ' ?_ ?_);all_goals(intro hc;try simp only[hcs]at hc;try(exfalso;first|contradiction|omega))))
  apply CW.loop [0, 1, 2, 12, 13, 14, 15, 16, 17, 18, 19, 20, 21, 22, 23, 24, 25, 26, 27, 28, 29, 30, 31, 32] (fun i : Nat => i ≤ 36) (fun i => [(1, Value.int .i64 (i : Int))]) (fun _ => St w NoF []) (fun i => 36 - i)
  · exact fun w' hw' => ⟨0, by omega, ⟨rfl, trivial⟩, hw'.sub subZ⟩
  intro i g hi
  by_cases hlt : i < 36
  · repeat'(first|refine kv' ?_|apply jJ|refine jE' ?_|refine jp' ?_|(apply jc;kernel_rfl)|refine kg' ?_|refine kG' ?_|refine kB' fun _=>?_|refine kA' fun _=>?_|refine kK' fun _=>?_|refine kU' ?_|((first|refine kR' ?_ ?_|refine kQ' ?_ ?_);all_goals(intro hc;try simp only[hcs]at hc;try(exfalso;first|contradiction|omega))))
    apply LR.call
    · exact rfl
    intro w1 h1
    refine CallsTo.mono (show CallsTo Tryz.prog 17 [.int .i64 (i : Int)] w1 _ from e17 i w1) ?_
    rintro v w2 ⟨p, A, X, rfl, hn, hXd, hXe, hX, hI, _, _⟩
    refine LR.back (h1.got hn hXd) ?_
    clear hn h1
    repeat'(first|refine kv' ?_|apply jJ|refine jE' ?_|refine jp' ?_|(apply jc;kernel_rfl)|refine kg' ?_|refine kG' ?_|refine kB' fun _=>?_|refine kA' fun _=>?_|refine kK' fun _=>?_|refine kU' ?_|(apply mulX;(iterate 2 exact rfl);(iterate 2(first|omega|(dsimp only;omega)));exact rfl)|(apply addX;(iterate 2 exact rfl);(iterate 2(first|omega|(dsimp only;omega)));exact rfl)|(apply kq; (· exact rfl); (· intro w1 h1; first | exact CallsTo.q (show CallsTo Tryz.prog 3 [p.val A] w1 _ from e3 p A w1 (hX w1 (h1.holds X memZ)) hI) h1 | exact CallsTo.q (show CallsTo Tryz.prog 18 [p.val A] w1 _ from p6 p A w1 (hX w1 (h1.holds X memZ)) hI) h1 | exact CallsTo.q (show CallsTo Tryz.prog 19 [p.val A, .int .i64 ((i : Int) * 7)] w1 _ from p8 p A ((i : Int) * 7) w1 (hX w1 (h1.holds X memZ)) hI) h1))|((first|refine kR' ?_ ?_|refine kQ' ?_ ?_);all_goals(intro hc;try simp only[hcs]at hc;try(exfalso;first|contradiction|omega))))
    refine At.again (i + 1) (by omega) ?_ ⟨rfl, trivial⟩ (fun w' hw' => hw'.sub subZ) (by omega)
    (repeat (first | exact Out.refl _ _ | exact Out.mix | (apply Out.upd; (· exact rfl)) | (apply Out.updL; (· exact rfl)) | (apply Out.mixs; (· exact rfl))))
  have hie : i = 36 := by omega
  subst hie
  repeat'(first|refine kv' ?_|apply jJ|refine jE' ?_|refine jp' ?_|(apply jc;kernel_rfl)|refine kg' ?_|refine kG' ?_|refine kB' fun _=>?_|refine kA' fun _=>?_|refine kK' fun _=>?_|refine kU' ?_|((first|refine kR' ?_ ?_|refine kQ' ?_ ?_);all_goals(intro hc;try simp only[hcs]at hc;try(exfalso;first|contradiction|omega))))
  apply LR.call
  · exact rfl
  intro w1 h1
  refine CallsTo.mono (show CallsTo Tryz.prog 17 [.int .i64 9] w1 _ from e17 9 w1) ?_
  rintro v w2 ⟨p, A, X, rfl, hn, hXd, hXe, hX, hI, hck, _⟩
  refine LR.back (h1.got hn hXd) ?_
  clear hn h1
  have hck := hck rfl
  repeat'(first|refine kv' ?_|apply jJ|refine jE' ?_|refine jp' ?_|(apply jc;kernel_rfl)|refine kg' ?_|refine kG' ?_|refine kB' fun _=>?_|refine kA' fun _=>?_|refine kK' fun _=>?_|refine kU' ?_|((first|refine kR' ?_ ?_|refine kQ' ?_ ?_);all_goals(intro hc;try simp only[hcs]at hc;try(exfalso;first|contradiction|omega))))
  apply LR.call
  · exact rfl
  intro w1 h1
  have hR := hX w1 (h1.holds X memZ)
  have hh := p30 p A w1 hR hI
  rw [packed_len hck] at hh
  refine CallsTo.mono (show CallsTo Tryz.prog 7 [p.val A] w1 (fun v w' => ∃ a' c', v = .tuple [.slice a' (sealL (bodyP p)).length c', .int .i64 0].toArray ∧ NewSl w1 w' (.slice a' (sealL (bodyP p)).length c') 5 1 (sealL (bodyP p)).length (bv (sealL (bodyP p)))) from hh) ?_
  clear hh
  rintro v w2 ⟨q1, d1, rfl, hn⟩
  refine LR.back (h1.newSl hn) ?_
  clear hn h1
  obtain ⟨B1, hB1⟩ : ∃ B, B = sealL (bodyP p) := ⟨_, rfl⟩
  have hbl1 : Byt B1 ∧ 4 ≤ B1.length ∧ B1.length ≤ 512 := by
    have hm := (chk_may hck).1
    rw [hB1, sealL_len]
    exact ⟨seal_byt (body_byt hm hR.hdb), by omega, by have := body_508 hm; omega⟩
  rw [← hB1]
  clear hX hI hck hR
  refine LR.sub (D := St w NoF [osl (.slice q1 B1.length d1) 5 1 B1.length (bv B1)]) (fun w' hw' => hw'.sub subZ) ?_
  repeat'(first|refine kv' ?_|apply jJ|refine jE' ?_|refine jp' ?_|(apply jc;kernel_rfl)|refine kg' ?_|refine kG' ?_|refine kB' fun _=>?_|refine kA' fun _=>?_|refine kK' fun _=>?_|refine kU' ?_|((first|refine kR' ?_ ?_|refine kQ' ?_ ?_);all_goals(intro hc;try simp only[hcs]at hc;try(exfalso;first|contradiction|omega))))
  apply LR.call
  · exact rfl
  intro w1 h1
  refine CallsTo.mono (show CallsTo Tryz.prog 20 [] w1 _ from e20 w1) ?_
  rintro v w2 ⟨be, rfl, hn⟩
  refine LR.back (h1.got hn (Asrt.dep_own _ _)) ?_
  clear hn h1
  obtain ⟨p, hp⟩ : ∃ p, p = agreedP := ⟨_, rfl⟩
  obtain ⟨A, hA⟩ : ∃ A, A = gA be := ⟨_, rfl⟩
  obtain ⟨X, hXX⟩ : ∃ X, X = entK be := ⟨_, rfl⟩
  have hck : chkP p = true := by rw [hp]; exact agreed_chk
  have hI : PktI p := by rw [hp]; exact ⟨by decide, by decide⟩
  have hX : ∀ w2, X.holds w2 → PktR w2 p A := fun w2 h2 => by
    rw [hXX] at h2
    rw [hp, hA]
    exact PktM.toR17 ⟨Rd.nil _ _, fun _ => rfl, Rd.nil _ _, fun _ => rfl, own_rd h2, gA_z⟩ byt_nil (by decide) (by decide) (by decide)
  rw [← hp, ← hA, ← hXX]
  repeat'(first|refine kv' ?_|apply jJ|refine jE' ?_|refine jp' ?_|(apply jc;kernel_rfl)|refine kg' ?_|refine kG' ?_|refine kB' fun _=>?_|refine kA' fun _=>?_|refine kK' fun _=>?_|refine kU' ?_|((first|refine kR' ?_ ?_|refine kQ' ?_ ?_);all_goals(intro hc;try simp only[hcs]at hc;try(exfalso;first|contradiction|omega))))
  apply LR.call
  · exact rfl
  intro w1 h1
  have hR := hX w1 (h1.holds X memZ)
  have hh := p30 p A w1 hR hI
  rw [packed_len hck] at hh
  refine CallsTo.mono (show CallsTo Tryz.prog 7 [p.val A] w1 (fun v w' => ∃ a' c', v = .tuple [.slice a' (sealL (bodyP p)).length c', .int .i64 0].toArray ∧ NewSl w1 w' (.slice a' (sealL (bodyP p)).length c') 5 1 (sealL (bodyP p)).length (bv (sealL (bodyP p)))) from hh) ?_
  clear hh
  rintro v w2 ⟨q2, d2, rfl, hn⟩
  refine LR.back (h1.newSl hn) ?_
  clear hn h1
  obtain ⟨B2, hB2⟩ : ∃ B, B = sealL (bodyP p) := ⟨_, rfl⟩
  have hbl2 : Byt B2 ∧ 4 ≤ B2.length ∧ B2.length ≤ 512 := by
    have hm := (chk_may hck).1
    rw [hB2, sealL_len]
    exact ⟨seal_byt (body_byt hm hR.hdb), by omega, by have := body_508 hm; omega⟩
  rw [← hB2]
  clear hX hI hck hR
  refine LR.sub (D := St w NoF [osl (.slice q2 B2.length d2) 5 1 B2.length (bv B2), osl (.slice q1 B1.length d1) 5 1 B1.length (bv B1)]) (fun w' hw' => hw'.sub subZ) ?_
  repeat'(first|refine kv' ?_|apply jJ|refine jE' ?_|refine jp' ?_|(apply jc;kernel_rfl)|refine kg' ?_|refine kG' ?_|refine kB' fun _=>?_|refine kA' fun _=>?_|refine kK' fun _=>?_|refine kU' ?_|((first|refine kR' ?_ ?_|refine kQ' ?_ ?_);all_goals(intro hc;try simp only[hcs]at hc;try(exfalso;first|contradiction|omega))))
  apply LR.call
  · exact rfl
  intro w1 h1
  refine CallsTo.mono (show CallsTo Tryz.prog 17 [.int .i64 29] w1 _ from e17 29 w1) ?_
  rintro v w2 ⟨p, A, X, rfl, hn, hXd, hXe, hX, hI, _, hck⟩
  refine LR.back (h1.got hn hXd) ?_
  clear hn h1
  have hck := hck rfl
  repeat'(first|refine kv' ?_|apply jJ|refine jE' ?_|refine jp' ?_|(apply jc;kernel_rfl)|refine kg' ?_|refine kG' ?_|refine kB' fun _=>?_|refine kA' fun _=>?_|refine kK' fun _=>?_|refine kU' ?_|((first|refine kR' ?_ ?_|refine kQ' ?_ ?_);all_goals(intro hc;try simp only[hcs]at hc;try(exfalso;first|contradiction|omega))))
  apply LR.call
  · exact rfl
  intro w1 h1
  have hR := hX w1 (h1.holds X memZ)
  have hh := p30 p A w1 hR hI
  rw [packed_len hck] at hh
  refine CallsTo.mono (show CallsTo Tryz.prog 7 [p.val A] w1 (fun v w' => ∃ a' c', v = .tuple [.slice a' (sealL (bodyP p)).length c', .int .i64 0].toArray ∧ NewSl w1 w' (.slice a' (sealL (bodyP p)).length c') 5 1 (sealL (bodyP p)).length (bv (sealL (bodyP p)))) from hh) ?_
  clear hh
  rintro v w2 ⟨q3, d3, rfl, hn⟩
  refine LR.back (h1.newSl hn) ?_
  clear hn h1
  obtain ⟨B3, hB3⟩ : ∃ B, B = sealL (bodyP p) := ⟨_, rfl⟩
  have hbl3 : Byt B3 ∧ 4 ≤ B3.length ∧ B3.length ≤ 512 := by
    have hm := (chk_may hck).1
    rw [hB3, sealL_len]
    exact ⟨seal_byt (body_byt hm hR.hdb), by omega, by have := body_508 hm; omega⟩
  rw [← hB3]
  clear hX hI hck hR
  refine LR.sub (D := St w NoF [osl (.slice q3 B3.length d3) 5 1 B3.length (bv B3), osl (.slice q2 B2.length d2) 5 1 B2.length (bv B2), osl (.slice q1 B1.length d1) 5 1 B1.length (bv B1)]) (fun w' hw' => hw'.sub subZ) ?_
  repeat'(first|refine kv' ?_|apply jJ|refine jE' ?_|refine jp' ?_|refine kg' ?_|refine kG' ?_|refine kB' fun _=>?_|refine kA' fun _=>?_|refine kK' fun _=>?_|refine kU' ?_|((first|refine kR' ?_ ?_|refine kQ' ?_ ?_);all_goals(intro hc;try simp only[hcs]at hc;try(exfalso;first|contradiction|omega))))
  rename_i bk0 bk1 bk2 bk3 bk4 bk5 bk6 bk7 bk8 bk9 bk10 bkL
  refine CW.sub (D := St w NoF (osl (.slice (some ⟨bkL, 0, none⟩) 12 12) 26 1 12 [Value.slice none 0 0, .slice (some ⟨bk0, 0, none⟩) 1 1, .slice (some ⟨bk1, 0, none⟩) 2 2, .slice (some ⟨bk2, 0, none⟩) 1 1, .slice (some ⟨bk3, 0, none⟩) 5 5, .slice (some ⟨bk4, 0, none⟩) 5 5, .slice (some ⟨bk5, 0, none⟩) 6 6, .slice (some ⟨bk6, 0, none⟩) 11 11, .slice (some ⟨bk7, 0, none⟩) 7 7, .slice (some ⟨bk8, 0, none⟩) 11 11, .slice (some ⟨bk9, 0, none⟩) 9 9, .slice (some ⟨bk10, 0, none⟩) 6 6] :: [.own bk10 (.cells [Value.int .u8 5, Value.int .u8 0, Value.int .u8 132, Value.int .u8 0, Value.int .u8 1, Value.int .u8 3].toArray 5 (0, 0)), .own bk9 (.cells [Value.int .u8 1, Value.int .u8 0, Value.int .u8 4, Value.int .u8 1, Value.int .u8 1, Value.int .u8 1, Value.int .u8 0, Value.int .u8 129, Value.int .u8 4].toArray 5 (0, 0)), .own bk8 (.cells [Value.int .u8 1, Value.int .u8 0, Value.int .u8 4, Value.int .u8 1, Value.int .u8 1, Value.int .u8 1, Value.int .u8 0, Value.int .u8 3, Value.int .u8 1, Value.int .u8 2, Value.int .u8 3].toArray 5 (0, 0)), .own bk7 (.cells [Value.int .u8 4, Value.int .u8 3, Value.int .u8 9, Value.int .u8 1, Value.int .u8 10, Value.int .u8 1, Value.int .u8 9].toArray 5 (0, 0)), .own bk6 (.cells [Value.int .u8 2, Value.int .u8 2, Value.int .u8 4, Value.int .u8 1, Value.int .u8 7, Value.int .u8 9, Value.int .u8 8, Value.int .u8 3, Value.int .u8 20, Value.int .u8 2, Value.int .u8 17].toArray 5 (0, 0)), .own bk5 (.cells [Value.int .u8 5, Value.int .u8 0, Value.int .u8 4, Value.int .u8 1, Value.int .u8 3, Value.int .u8 0].toArray 5 (0, 0)), .own bk4 (.cells [Value.int .u8 5, Value.int .u8 1, Value.int .u8 4, Value.int .u8 1, Value.int .u8 3].toArray 5 (0, 0)), .own bk3 (.cells [Value.int .u8 5, Value.int .u8 0, Value.int .u8 4, Value.int .u8 1, Value.int .u8 3].toArray 5 (0, 0)), .own bk2 (.cells [Value.int .u8 1].toArray 5 (0, 0)), .own bk1 (.cells [Value.int .u8 6, Value.int .u8 0].toArray 5 (0, 0)), .own bk0 (.cells [Value.int .u8 0].toArray 5 (0, 0)), osl (.slice q3 B3.length d3) 5 1 B3.length (bv B3), osl (.slice q2 B2.length d2) 5 1 B2.length (bv B2), osl (.slice q1 B1.length d1) 5 1 B1.length (bv B1)])) ?_ (fun u hu => (hu.own_osl (k := 12) (sz := 1) (E := 26) (cs := [Value.slice none 0 0, .slice (some ⟨bk0, 0, none⟩) 1 1, .slice (some ⟨bk1, 0, none⟩) 2 2, .slice (some ⟨bk2, 0, none⟩) 1 1, .slice (some ⟨bk3, 0, none⟩) 5 5, .slice (some ⟨bk4, 0, none⟩) 5 5, .slice (some ⟨bk5, 0, none⟩) 6 6, .slice (some ⟨bk6, 0, none⟩) 11 11, .slice (some ⟨bk7, 0, none⟩) 7 7, .slice (some ⟨bk8, 0, none⟩) 11 11, .slice (some ⟨bk9, 0, none⟩) 9 9, .slice (some ⟨bk10, 0, none⟩) 6 6]) selZ rfl (by unfold maxLen; omega)).sub subZ)
  refine CW_fact (φ := subA q1 d1 0 1 = q1 ∧ B1.length ≤ d1 ∧ (q1 = none → d1 = 0)) (fun w1 hw1 => ⟨ownsRow_sub0 (hw1.holds (osl (.slice q1 B1.length d1) 5 1 B1.length (bv B1)) memZ), ownsRow_cap (hw1.holds (osl (.slice q1 B1.length d1) 5 1 B1.length (bv B1)) memZ), fun e => (ownsRow_some (hw1.holds (osl (.slice q1 B1.length d1) 5 1 B1.length (bv B1)) memZ) e).2⟩) ?_
  intro hq1
  obtain ⟨n1, hn1⟩ : ∃ n : Nat, (B1.length : Int) - 4 = (n : Int) := ⟨B1.length - 4, by omega⟩
  refine CW_fact (φ := subA q2 d2 0 1 = q2 ∧ B2.length ≤ d2 ∧ (q2 = none → d2 = 0)) (fun w1 hw1 => ⟨ownsRow_sub0 (hw1.holds (osl (.slice q2 B2.length d2) 5 1 B2.length (bv B2)) memZ), ownsRow_cap (hw1.holds (osl (.slice q2 B2.length d2) 5 1 B2.length (bv B2)) memZ), fun e => (ownsRow_some (hw1.holds (osl (.slice q2 B2.length d2) 5 1 B2.length (bv B2)) memZ) e).2⟩) ?_
  intro hq2
  obtain ⟨n2, hn2⟩ : ∃ n : Nat, (B2.length : Int) - 4 = (n : Int) := ⟨B2.length - 4, by omega⟩
  refine CW_fact (φ := subA q3 d3 0 1 = q3 ∧ B3.length ≤ d3 ∧ (q3 = none → d3 = 0)) (fun w1 hw1 => ⟨ownsRow_sub0 (hw1.holds (osl (.slice q3 B3.length d3) 5 1 B3.length (bv B3)) memZ), ownsRow_cap (hw1.holds (osl (.slice q3 B3.length d3) 5 1 B3.length (bv B3)) memZ), fun e => (ownsRow_some (hw1.holds (osl (.slice q3 B3.length d3) 5 1 B3.length (bv B3)) memZ) e).2⟩) ?_
  intro hq3
  obtain ⟨n3, hn3⟩ : ∃ n : Nat, (B3.length : Int) - 4 = (n : Int) := ⟨B3.length - 4, by omega⟩
  apply CW.reg_held (St w NoF [])
  all_goals (
    apply DW.quiet [0, 1, 2, 3, 4, 5, 6, 7, 8, 9, 10, 11, 12, 13, 14, 15]
    · decide +kernel
    · first | exact fun _ h => h | exact fun _ h => St.sub h subZ
    repeat'(first|refine yv' ?_|(apply QL.ev; (· exact rfl); (· first | (apply Ev.slice_hi0 (j := n1) hq1.1; (· first | exact hn1 | omega); (· omega); (· exact rfl); (· exact rfl)) | (apply Ev.slice_hi0 (j := n2) hq2.1; (· first | exact hn2 | omega); (· omega); (· exact rfl); (· exact rfl)) | (apply Ev.slice_hi0 (j := n3) hq3.1; (· first | exact hn3 | omega); (· omega); (· exact rfl); (· exact rfl)) | (apply Ev.sub; (· exact rfl); (· exact rfl); (· omega); (· omega))); (· exact rfl))|refine uv' ?_|refine un' ?_|(refine us' ?_ ?_;all_goals(intro hc;try simp only[hcs]at hc;try(exfalso;first|contradiction|omega)))|apply QL.nil)
    all_goals (show DW _ _ _ _ _ _ _ _))
  all_goals (
    apply DW.loud 16
    · exact rfl
    · decide +kernel
    repeat'(first|refine kg' ?_|refine kG' ?_|apply kM|refine kv' ?_|refine kK' fun _=>?_|refine kU' ?_|refine kB' fun _=>?_|refine kA' fun _=>?_|(apply LR.append (k := 12) (c := 12) (xs := [Value.slice none 0 0, .slice (some ⟨bk0, 0, none⟩) 1 1, .slice (some ⟨bk1, 0, none⟩) 2 2, .slice (some ⟨bk2, 0, none⟩) 1 1, .slice (some ⟨bk3, 0, none⟩) 5 5, .slice (some ⟨bk4, 0, none⟩) 5 5, .slice (some ⟨bk5, 0, none⟩) 6 6, .slice (some ⟨bk6, 0, none⟩) 11 11, .slice (some ⟨bk7, 0, none⟩) 7 7, .slice (some ⟨bk8, 0, none⟩) 11 11, .slice (some ⟨bk9, 0, none⟩) 9 9, .slice (some ⟨bk10, 0, none⟩) 6 6]) (news := [Value.slice q1 n1 d1, .slice q2 n2 d2, .slice q3 n3 d3]) (m := 3); (· exact rfl); (· exact rfl); (· intro a' c'; (repeat (first | exact sH _ _ _ | apply sT))); (· exact fun w' hw' => hw'.rd_of_blk (mH _ _)); (· exact fun hx => by cases hx); (· exact rfl); (· exact rfl); (· omega); (· unfold maxLen; omega); (· exact rfl); (intro a9 c9; apply kM)))
    all_goals (refine At.stage_same (fun _ h => St.sub h subZ) ?_))
  all_goals (
    apply DW.loud 17
    · exact rfl
    · decide +kernel
    repeat'(first|refine kg' ?_|refine kG' ?_|apply kM|refine kv' ?_|refine kK' fun _=>?_|refine kU' ?_|refine kB' fun _=>?_|refine kA' fun _=>?_|(apply LR.append (k := 12) (c := 12) (xs := [Value.slice none 0 0, .slice (some ⟨bk0, 0, none⟩) 1 1, .slice (some ⟨bk1, 0, none⟩) 2 2, .slice (some ⟨bk2, 0, none⟩) 1 1, .slice (some ⟨bk3, 0, none⟩) 5 5, .slice (some ⟨bk4, 0, none⟩) 5 5, .slice (some ⟨bk5, 0, none⟩) 6 6, .slice (some ⟨bk6, 0, none⟩) 11 11, .slice (some ⟨bk7, 0, none⟩) 7 7, .slice (some ⟨bk8, 0, none⟩) 11 11, .slice (some ⟨bk9, 0, none⟩) 9 9, .slice (some ⟨bk10, 0, none⟩) 6 6]) (news := [Value.slice q1 n1 d1, .slice q2 n2 d2, .slice q3 n3 d3]) (m := 3); (· exact rfl); (· exact rfl); (· intro a' c'; (repeat (first | exact sH _ _ _ | apply sT))); (· exact fun w' hw' => hw'.rd_of_blk (mH _ _)); (· exact fun hx => by cases hx); (· exact rfl); (· exact rfl); (· omega); (· unfold maxLen; omega); (· exact rfl); (intro a9 c9; apply kM)))
    all_goals (refine At.stage_same (fun _ h => St.sub h subZ) ?_))
  all_goals (
    apply DW.quiet [18]
    · decide +kernel
    · first | exact fun _ h => h | exact fun _ h => St.sub h subZ
    repeat'(first|refine yv' ?_|(apply QL.ev; (· exact rfl); (· first | (apply Ev.slice_hi0 (j := n1) hq1.1; (· first | exact hn1 | omega); (· omega); (· exact rfl); (· exact rfl)) | (apply Ev.slice_hi0 (j := n2) hq2.1; (· first | exact hn2 | omega); (· omega); (· exact rfl); (· exact rfl)) | (apply Ev.slice_hi0 (j := n3) hq3.1; (· first | exact hn3 | omega); (· omega); (· exact rfl); (· exact rfl)) | (apply Ev.sub; (· exact rfl); (· exact rfl); (· omega); (· omega))); (· exact rfl))|refine uv' ?_|refine un' ?_|(refine us' ?_ ?_;all_goals(intro hc;try simp only[hcs]at hc;try(exfalso;first|contradiction|omega)))|apply QL.nil)
    all_goals (show DW _ _ _ _ _ _ _ _))
  all_goals (first | (apply DW.done_thn; (· decide +kernel)) | (apply DW.done; (· decide +kernel)))
  obtain ⟨L1, hL1⟩ : ∃ L, L = B1.take n1 := ⟨_, rfl⟩
  have e1 : n1 = L1.length := by rw [hL1, List.length_take]; omega
  obtain ⟨L2, hL2⟩ : ∃ L, L = B2.take n2 := ⟨_, rfl⟩
  have e2 : n2 = L2.length := by rw [hL2, List.length_take]; omega
  obtain ⟨L3, hL3⟩ : ∃ L, L = B3.take n3 := ⟨_, rfl⟩
  have e3 : n3 = L3.length := by rw [hL3, List.length_take]; omega
  rw [e1, e2, e3]
  obtain ⟨rows, hrows⟩ : ∃ rows : List BRow, rows = [⟨none, 0, []⟩, ⟨some ⟨bk0, 0, none⟩, 1, [0]⟩, ⟨some ⟨bk1, 0, none⟩, 2, [6, 0]⟩, ⟨some ⟨bk2, 0, none⟩, 1, [1]⟩, ⟨some ⟨bk3, 0, none⟩, 5, [5, 0, 4, 1, 3]⟩, ⟨some ⟨bk4, 0, none⟩, 5, [5, 1, 4, 1, 3]⟩, ⟨some ⟨bk5, 0, none⟩, 6, [5, 0, 4, 1, 3, 0]⟩, ⟨some ⟨bk6, 0, none⟩, 11, [2, 2, 4, 1, 7, 9, 8, 3, 20, 2, 17]⟩, ⟨some ⟨bk7, 0, none⟩, 7, [4, 3, 9, 1, 10, 1, 9]⟩, ⟨some ⟨bk8, 0, none⟩, 11, [1, 0, 4, 1, 1, 1, 0, 3, 1, 2, 3]⟩, ⟨some ⟨bk9, 0, none⟩, 9, [1, 0, 4, 1, 1, 1, 0, 129, 4]⟩, ⟨some ⟨bk10, 0, none⟩, 6, [5, 0, 132, 0, 1, 3]⟩, ⟨q1, d1, L1⟩, ⟨q2, d2, L2⟩, ⟨q3, d3, L3⟩] := ⟨_, rfl⟩
  have hrl : rows.length = 15 := by rw [hrows]; rfl
  refine CW.sub (D := St w NoF (osl (.slice a9 15 c9) 26 1 15 (rows.flatMap BRow.cells) :: [.own bk10 (.cells [Value.int .u8 5, Value.int .u8 0, Value.int .u8 132, Value.int .u8 0, Value.int .u8 1, Value.int .u8 3].toArray 5 (0, 0)), .own bk9 (.cells [Value.int .u8 1, Value.int .u8 0, Value.int .u8 4, Value.int .u8 1, Value.int .u8 1, Value.int .u8 1, Value.int .u8 0, Value.int .u8 129, Value.int .u8 4].toArray 5 (0, 0)), .own bk8 (.cells [Value.int .u8 1, Value.int .u8 0, Value.int .u8 4, Value.int .u8 1, Value.int .u8 1, Value.int .u8 1, Value.int .u8 0, Value.int .u8 3, Value.int .u8 1, Value.int .u8 2, Value.int .u8 3].toArray 5 (0, 0)), .own bk7 (.cells [Value.int .u8 4, Value.int .u8 3, Value.int .u8 9, Value.int .u8 1, Value.int .u8 10, Value.int .u8 1, Value.int .u8 9].toArray 5 (0, 0)), .own bk6 (.cells [Value.int .u8 2, Value.int .u8 2, Value.int .u8 4, Value.int .u8 1, Value.int .u8 7, Value.int .u8 9, Value.int .u8 8, Value.int .u8 3, Value.int .u8 20, Value.int .u8 2, Value.int .u8 17].toArray 5 (0, 0)), .own bk5 (.cells [Value.int .u8 5, Value.int .u8 0, Value.int .u8 4, Value.int .u8 1, Value.int .u8 3, Value.int .u8 0].toArray 5 (0, 0)), .own bk4 (.cells [Value.int .u8 5, Value.int .u8 1, Value.int .u8 4, Value.int .u8 1, Value.int .u8 3].toArray 5 (0, 0)), .own bk3 (.cells [Value.int .u8 5, Value.int .u8 0, Value.int .u8 4, Value.int .u8 1, Value.int .u8 3].toArray 5 (0, 0)), .own bk2 (.cells [Value.int .u8 1].toArray 5 (0, 0)), .own bk1 (.cells [Value.int .u8 6, Value.int .u8 0].toArray 5 (0, 0)), .own bk0 (.cells [Value.int .u8 0].toArray 5 (0, 0)), osl (.slice q3 B3.length d3) 5 1 B3.length (bv B3), osl (.slice q2 B2.length d2) 5 1 B2.length (bv B2), osl (.slice q1 B1.length d1) 5 1 B1.length (bv B1)])) ?_ (fun u hu => by rw [hrows]; exact hu.sub subZ)
  have hR : ∀ {u : World} {L : List Asrt}, St w NoF L u → ([.own bk10 (.cells [Value.int .u8 5, Value.int .u8 0, Value.int .u8 132, Value.int .u8 0, Value.int .u8 1, Value.int .u8 3].toArray 5 (0, 0)), .own bk9 (.cells [Value.int .u8 1, Value.int .u8 0, Value.int .u8 4, Value.int .u8 1, Value.int .u8 1, Value.int .u8 1, Value.int .u8 0, Value.int .u8 129, Value.int .u8 4].toArray 5 (0, 0)), .own bk8 (.cells [Value.int .u8 1, Value.int .u8 0, Value.int .u8 4, Value.int .u8 1, Value.int .u8 1, Value.int .u8 1, Value.int .u8 0, Value.int .u8 3, Value.int .u8 1, Value.int .u8 2, Value.int .u8 3].toArray 5 (0, 0)), .own bk7 (.cells [Value.int .u8 4, Value.int .u8 3, Value.int .u8 9, Value.int .u8 1, Value.int .u8 10, Value.int .u8 1, Value.int .u8 9].toArray 5 (0, 0)), .own bk6 (.cells [Value.int .u8 2, Value.int .u8 2, Value.int .u8 4, Value.int .u8 1, Value.int .u8 7, Value.int .u8 9, Value.int .u8 8, Value.int .u8 3, Value.int .u8 20, Value.int .u8 2, Value.int .u8 17].toArray 5 (0, 0)), .own bk5 (.cells [Value.int .u8 5, Value.int .u8 0, Value.int .u8 4, Value.int .u8 1, Value.int .u8 3, Value.int .u8 0].toArray 5 (0, 0)), .own bk4 (.cells [Value.int .u8 5, Value.int .u8 1, Value.int .u8 4, Value.int .u8 1, Value.int .u8 3].toArray 5 (0, 0)), .own bk3 (.cells [Value.int .u8 5, Value.int .u8 0, Value.int .u8 4, Value.int .u8 1, Value.int .u8 3].toArray 5 (0, 0)), .own bk2 (.cells [Value.int .u8 1].toArray 5 (0, 0)), .own bk1 (.cells [Value.int .u8 6, Value.int .u8 0].toArray 5 (0, 0)), .own bk0 (.cells [Value.int .u8 0].toArray 5 (0, 0)), osl (.slice q3 B3.length d3) 5 1 B3.length (bv B3), osl (.slice q2 B2.length d2) 5 1 B2.length (bv B2), osl (.slice q1 B1.length d1) 5 1 B1.length (bv B1)]).Sublist L → ∀ r ∈ rows, Rd u r.a (bv r.l) := by
    intro u L h hs r hr
    have h := h.sub hs
    rw [hrows] at hr
    simp only [List.mem_cons, List.not_mem_nil, or_false] at hr
    rcases hr with hr | hr | hr | hr | hr | hr | hr | hr | hr | hr | hr | hr | hr | hr | hr
    all_goals (subst hr)
    · exact Rd.nil _ _
    · exact h.rd_of_blk (cs := bv [0]) memZ
    · exact h.rd_of_blk (cs := bv [6, 0]) memZ
    · exact h.rd_of_blk (cs := bv [1]) memZ
    · exact h.rd_of_blk (cs := bv [5, 0, 4, 1, 3]) memZ
    · exact h.rd_of_blk (cs := bv [5, 1, 4, 1, 3]) memZ
    · exact h.rd_of_blk (cs := bv [5, 0, 4, 1, 3, 0]) memZ
    · exact h.rd_of_blk (cs := bv [2, 2, 4, 1, 7, 9, 8, 3, 20, 2, 17]) memZ
    · exact h.rd_of_blk (cs := bv [4, 3, 9, 1, 10, 1, 9]) memZ
    · exact h.rd_of_blk (cs := bv [1, 0, 4, 1, 1, 1, 0, 3, 1, 2, 3]) memZ
    · exact h.rd_of_blk (cs := bv [1, 0, 4, 1, 1, 1, 0, 129, 4]) memZ
    · exact h.rd_of_blk (cs := bv [5, 0, 132, 0, 1, 3]) memZ
    · rw [hL1]; exact rd_takeB (ownsRow_rd (h.holds (osl (.slice q1 B1.length d1) 5 1 B1.length (bv B1)) memZ))
    · rw [hL2]; exact rd_takeB (ownsRow_rd (h.holds (osl (.slice q2 B2.length d2) 5 1 B2.length (bv B2)) memZ))
    · rw [hL3]; exact rd_takeB (ownsRow_rd (h.holds (osl (.slice q3 B3.length d3) 5 1 B3.length (bv B3)) memZ))
  have hOk : ∀ r ∈ rows, BRow.ok r := by
    intro r hr
    rw [hrows] at hr
    simp only [List.mem_cons, List.not_mem_nil, or_false] at hr
    rcases hr with hr | hr | hr | hr | hr | hr | hr | hr | hr | hr | hr | hr | hr | hr | hr
    all_goals (subst hr)
    · exact ⟨byt_nil, fun _ => rfl, Nat.le_refl _, Nat.zero_le _, (by unfold subA; rfl)⟩
    · exact ⟨byt_of (l := [0]) (by decide), (fun e => by cases e), (by show ([0] : List Int).length ≤ 1; decide), (by show ([0] : List Int).length ≤ 5000; decide), (by unfold subA; rfl)⟩
    · exact ⟨byt_of (l := [6, 0]) (by decide), (fun e => by cases e), (by show ([6, 0] : List Int).length ≤ 2; decide), (by show ([6, 0] : List Int).length ≤ 5000; decide), (by unfold subA; rfl)⟩
    · exact ⟨byt_of (l := [1]) (by decide), (fun e => by cases e), (by show ([1] : List Int).length ≤ 1; decide), (by show ([1] : List Int).length ≤ 5000; decide), (by unfold subA; rfl)⟩
    · exact ⟨byt_of (l := [5, 0, 4, 1, 3]) (by decide), (fun e => by cases e), (by show ([5, 0, 4, 1, 3] : List Int).length ≤ 5; decide), (by show ([5, 0, 4, 1, 3] : List Int).length ≤ 5000; decide), (by unfold subA; rfl)⟩
    · exact ⟨byt_of (l := [5, 1, 4, 1, 3]) (by decide), (fun e => by cases e), (by show ([5, 1, 4, 1, 3] : List Int).length ≤ 5; decide), (by show ([5, 1, 4, 1, 3] : List Int).length ≤ 5000; decide), (by unfold subA; rfl)⟩
    · exact ⟨byt_of (l := [5, 0, 4, 1, 3, 0]) (by decide), (fun e => by cases e), (by show ([5, 0, 4, 1, 3, 0] : List Int).length ≤ 6; decide), (by show ([5, 0, 4, 1, 3, 0] : List Int).length ≤ 5000; decide), (by unfold subA; rfl)⟩
    · exact ⟨byt_of (l := [2, 2, 4, 1, 7, 9, 8, 3, 20, 2, 17]) (by decide), (fun e => by cases e), (by show ([2, 2, 4, 1, 7, 9, 8, 3, 20, 2, 17] : List Int).length ≤ 11; decide), (by show ([2, 2, 4, 1, 7, 9, 8, 3, 20, 2, 17] : List Int).length ≤ 5000; decide), (by unfold subA; rfl)⟩
    · exact ⟨byt_of (l := [4, 3, 9, 1, 10, 1, 9]) (by decide), (fun e => by cases e), (by show ([4, 3, 9, 1, 10, 1, 9] : List Int).length ≤ 7; decide), (by show ([4, 3, 9, 1, 10, 1, 9] : List Int).length ≤ 5000; decide), (by unfold subA; rfl)⟩
    · exact ⟨byt_of (l := [1, 0, 4, 1, 1, 1, 0, 3, 1, 2, 3]) (by decide), (fun e => by cases e), (by show ([1, 0, 4, 1, 1, 1, 0, 3, 1, 2, 3] : List Int).length ≤ 11; decide), (by show ([1, 0, 4, 1, 1, 1, 0, 3, 1, 2, 3] : List Int).length ≤ 5000; decide), (by unfold subA; rfl)⟩
    · exact ⟨byt_of (l := [1, 0, 4, 1, 1, 1, 0, 129, 4]) (by decide), (fun e => by cases e), (by show ([1, 0, 4, 1, 1, 1, 0, 129, 4] : List Int).length ≤ 9; decide), (by show ([1, 0, 4, 1, 1, 1, 0, 129, 4] : List Int).length ≤ 5000; decide), (by unfold subA; rfl)⟩
    · exact ⟨byt_of (l := [5, 0, 132, 0, 1, 3]) (by decide), (fun e => by cases e), (by show ([5, 0, 132, 0, 1, 3] : List Int).length ≤ 6; decide), (by show ([5, 0, 132, 0, 1, 3] : List Int).length ≤ 5000; decide), (by unfold subA; rfl)⟩
    · exact ⟨by rw [hL1]; exact fun x hx => hbl1.1 x (List.mem_of_mem_take hx), hq1.2.2, by show L1.length ≤ d1; omega, by show L1.length ≤ 5000; omega, hq1.1⟩
    · exact ⟨by rw [hL2]; exact fun x hx => hbl2.1 x (List.mem_of_mem_take hx), hq2.2.2, by show L2.length ≤ d2; omega, by show L2.length ≤ 5000; omega, hq2.1⟩
    · exact ⟨by rw [hL3]; exact fun x hx => hbl3.1 x (List.mem_of_mem_take hx), hq3.2.2, by show L3.length ≤ d3; omega, by show L3.length ≤ 5000; omega, hq3.1⟩
  obtain ⟨LL, hLL⟩ : ∃ LL : List Asrt, LL = [.own bk10 (.cells [Value.int .u8 5, Value.int .u8 0, Value.int .u8 132, Value.int .u8 0, Value.int .u8 1, Value.int .u8 3].toArray 5 (0, 0)), .own bk9 (.cells [Value.int .u8 1, Value.int .u8 0, Value.int .u8 4, Value.int .u8 1, Value.int .u8 1, Value.int .u8 1, Value.int .u8 0, Value.int .u8 129, Value.int .u8 4].toArray 5 (0, 0)), .own bk8 (.cells [Value.int .u8 1, Value.int .u8 0, Value.int .u8 4, Value.int .u8 1, Value.int .u8 1, Value.int .u8 1, Value.int .u8 0, Value.int .u8 3, Value.int .u8 1, Value.int .u8 2, Value.int .u8 3].toArray 5 (0, 0)), .own bk7 (.cells [Value.int .u8 4, Value.int .u8 3, Value.int .u8 9, Value.int .u8 1, Value.int .u8 10, Value.int .u8 1, Value.int .u8 9].toArray 5 (0, 0)), .own bk6 (.cells [Value.int .u8 2, Value.int .u8 2, Value.int .u8 4, Value.int .u8 1, Value.int .u8 7, Value.int .u8 9, Value.int .u8 8, Value.int .u8 3, Value.int .u8 20, Value.int .u8 2, Value.int .u8 17].toArray 5 (0, 0)), .own bk5 (.cells [Value.int .u8 5, Value.int .u8 0, Value.int .u8 4, Value.int .u8 1, Value.int .u8 3, Value.int .u8 0].toArray 5 (0, 0)), .own bk4 (.cells [Value.int .u8 5, Value.int .u8 1, Value.int .u8 4, Value.int .u8 1, Value.int .u8 3].toArray 5 (0, 0)), .own bk3 (.cells [Value.int .u8 5, Value.int .u8 0, Value.int .u8 4, Value.int .u8 1, Value.int .u8 3].toArray 5 (0, 0)), .own bk2 (.cells [Value.int .u8 1].toArray 5 (0, 0)), .own bk1 (.cells [Value.int .u8 6, Value.int .u8 0].toArray 5 (0, 0)), .own bk0 (.cells [Value.int .u8 0].toArray 5 (0, 0)), osl (.slice q3 B3.length d3) 5 1 B3.length (bv B3), osl (.slice q2 B2.length d2) 5 1 B2.length (bv B2), osl (.slice q1 B1.length d1) 5 1 B1.length (bv B1)] := ⟨_, rfl⟩
  rw [← hLL] at hR ⊢
  repeat'(first|refine kv' ?_|apply jJ|refine jE' ?_|refine jp' ?_|(apply jc;kernel_rfl)|refine kg' ?_|refine kG' ?_|refine kB' fun _=>?_|refine kA' fun _=>?_|refine kK' fun _=>?_|refine kU' ?_|((first|refine kR' ?_ ?_|refine kQ' ?_ ?_);all_goals(intro hc;try simp only[hcs]at hc;try(exfalso;first|contradiction|omega))))
  apply CW.loop [0, 10, 11, 78, 79, 80, 81, 82, 83, 84, 85, 86, 87, 88, 89, 90, 91, 92, 93, 94, 95, 96, 97, 98, 99, 100, 101, 102, 103, 104, 105, 106, 107, 108, 109, 110, 111, 112, 113, 114, 115, 116, 117, 118, 119, 120, 121, 122, 123, 124] (fun i : Nat => i ≤ 15) (fun i => [(10, Value.int .i64 (i : Int))]) (fun _ => St w NoF (osl (.slice a9 15 c9) 26 1 15 (rows.flatMap BRow.cells) :: LL)) (fun i => 15 - i)
  · exact fun w' hw' => ⟨0, by omega, ⟨rfl, trivial⟩, hw'⟩
  intro i g2 hi2
  by_cases hlt2 : i < 15
  · obtain ⟨r, hr⟩ : ∃ r, r = rows[i]'(by omega) := ⟨_, rfl⟩
    have hrm : r ∈ rows := by rw [hr]; exact List.getElem_mem _
    have ho := hOk r hrm
    have hol := ho.len
    have hcap := ho.cap
    have hat : ∀ z, z = i → (rows.flatMap BRow.cells)[z]? = some (.slice r.a r.l.length r.c) := fun z hz => by
      have h1 := rows_get (f := BRow.cells) (n := 1) BRow.cells_len rows i 0 (.slice r.a r.l.length r.c) (by omega) (by rw [← hr]; rfl)
      rw [hz]
      simpa using h1
    refine CW_fact (φ := ∃ b9 o9, a9 = some ⟨b9, o9, none⟩) (fun w1 hw1 => (ownsRow_rd (hw1.holds (osl (.slice a9 15 c9) 26 1 15 (rows.flatMap BRow.cells)) memZ)).form (rows_ne BRow.cells_len (by omega) (show i < rows.length by omega))) ?_
    rintro ⟨b9, o9, rfl⟩
    repeat'(first|refine kv' ?_|apply jJ|refine jE' ?_|refine jp' ?_|(apply jc;kernel_rfl)|refine kg' ?_|refine kG' ?_|refine kB' fun _=>?_|refine kA' fun _=>?_|refine kK' fun _=>?_|refine kU' ?_|(apply idxX;(iterate 2 exact rfl);(iterate 2(first|omega|(dsimp only;omega)));exact rfl)|(apply LR.ev; (· apply Ev.load_osl; (· exact rfl); (· (repeat (first | exact mH _ _ | apply mT))); (· exact hat _ (by simp))); (· exact rfl))|(apply LR.call; (· exact rfl); (intro w1 h1; refine CallsTo.mono (show CallsTo Tryz.prog 21 [.slice r.a r.l.length r.c] w1 _ from p34 r.a r.c r.l w1 (hR h1 subZ r hrm) ho.byt ho.z (by omega)) ?_; rintro v w2 ⟨as1, cs1, rfl, hn⟩; refine LR.back (h1.newSl hn) ?_; clear hn h1))|(apply kq; (· exact rfl); (· intro w1 h1; first | exact CallsTo.q (show CallsTo Tryz.prog 4 [.slice r.a r.l.length r.c] w1 _ from e4 r.a r.c r.l w1 (hR h1 subZ r hrm) ho.byt ho.z hcap (by omega)) h1 | exact CallsTo.q (show CallsTo Tryz.prog 22 [.slice r.a r.l.length r.c] w1 _ from p7 r.a r.c r.l w1 (hR h1 subZ r hrm) ho.byt ho.z (by omega)) h1 | (have hb := h1.holds (osl (.slice as1 (sealL r.l).length cs1) 5 1 (sealL r.l).length (bv (sealL r.l))) memZ; exact CallsTo.q (e4 as1 cs1 (sealL r.l) w1 (ownsRow_rd hb) (seal_byt ho.byt) (fun e => (ownsRow_some hb e).2) (ownsRow_cap hb) (by rw [sealL_len]; omega)) h1)))|((first|refine kR' ?_ ?_|refine kQ' ?_ ?_);all_goals(intro hc;try simp only[hcs]at hc;try(exfalso;first|contradiction|omega))))
    apply CW.loop [0, 11, 107, 108, 109, 110, 111, 112, 113, 114, 115, 116, 117, 118, 119, 120, 121, 122, 123, 124] (fun k : Nat => k ≤ r.l.length) (fun k => [(11, Value.int .i64 (k : Int))]) (fun _ => St w NoF (osl (.slice (some ⟨b9, o9, none⟩) 15 c9) 26 1 15 (rows.flatMap BRow.cells) :: LL)) (fun k => r.l.length - k)
    · exact fun w' hw' => ⟨0, by omega, ⟨rfl, trivial⟩, hw'.sub subZ⟩
    intro k g3 hk
    by_cases hlt3 : k < r.l.length
    · have hlk : (r.l.take k).length = k := by rw [List.length_take]; omega
      have hbk : Byt (r.l.take k) := fun x hx => ho.byt x (List.mem_of_mem_take hx)
      repeat'(first|refine kv' ?_|apply jJ|refine jE' ?_|refine jp' ?_|(apply jc;kernel_rfl)|refine kg' ?_|refine kG' ?_|refine kB' fun _=>?_|refine kA' fun _=>?_|refine kK' fun _=>?_|refine kU' ?_|(apply idxX;(iterate 2 exact rfl);(iterate 2(first|omega|(dsimp only;omega)));exact rfl)|(apply LR.ev; (· first | (apply Ev.load_osl; (· exact rfl); (· (repeat (first | exact mH _ _ | apply mT))); (· exact hat _ (by simp))) | (apply Ev.slice_hi0 (j := k) ho.sub; (· rfl); (· omega); (· exact rfl); (· exact rfl))); (· exact rfl))|(apply LR.call; (· exact rfl); (intro w1 h1; have hh := p34 r.a r.c (r.l.take k) w1 (rd_takeB (hR h1 subZ r hrm)) hbk ho.z (by omega); rw [hlk] at hh; refine CallsTo.mono (show CallsTo Tryz.prog 21 [.slice r.a k r.c] w1 _ from hh) ?_; clear hh; rintro v w2 ⟨as2, cs2, rfl, hn⟩; refine LR.back (h1.newSl hn) ?_; clear hn h1))|(apply kq; (· exact rfl); (· intro w1 h1; have hb := h1.holds (osl (.slice as2 (sealL (r.l.take k)).length cs2) 5 1 (sealL (r.l.take k)).length (bv (sealL (r.l.take k)))) memZ; exact CallsTo.q (e4 as2 cs2 (sealL (r.l.take k)) w1 (ownsRow_rd hb) (seal_byt hbk) (fun e => (ownsRow_some hb e).2) (ownsRow_cap hb) (by rw [sealL_len]; omega)) h1))|(apply addX;(iterate 2 exact rfl);(iterate 2(first|omega|(dsimp only;omega)));exact rfl)|((first|refine kR' ?_ ?_|refine kQ' ?_ ?_);all_goals(intro hc;try simp only[hcs]at hc;try(exfalso;first|contradiction|omega))))
      refine At.again (k + 1) (by omega) ?_ ⟨rfl, trivial⟩ (fun w' hw' => hw'.sub subZ) (by omega)
      (repeat (first | exact Out.refl _ _ | exact Out.mix | (apply Out.upd; (· exact rfl)) | (apply Out.updL; (· exact rfl)) | (apply Out.mixs; (· exact rfl))))
    · repeat'(first|refine kv' ?_|apply jJ|refine jE' ?_|refine jp' ?_|(apply jc;kernel_rfl)|refine kg' ?_|refine kG' ?_|refine kB' fun _=>?_|refine kA' fun _=>?_|refine kK' fun _=>?_|refine kU' ?_|(apply idxX;(iterate 2 exact rfl);(iterate 2(first|omega|(dsimp only;omega)));exact rfl)|(apply LR.ev; (· apply Ev.load_osl; (· exact rfl); (· (repeat (first | exact mH _ _ | apply mT))); (· exact hat _ (by simp))); (· exact rfl))|(apply addX;(iterate 2 exact rfl);(iterate 2(first|omega|(dsimp only;omega)));exact rfl)|((first|refine kR' ?_ ?_|refine kQ' ?_ ?_);all_goals(intro hc;try simp only[hcs]at hc;try(exfalso;first|contradiction|omega))))
      refine At.again (i + 1) (by omega) ?_ ⟨rfl, trivial⟩ (fun w' hw' => hw'.sub subZ) (by omega)
      (repeat (first | exact Out.refl _ _ | exact Out.mix | (apply Out.upd; (· exact rfl)) | (apply Out.updL; (· exact rfl)) | (apply Out.mixs; (· exact rfl))))
  · obtain rfl : i = 15 := by omega
    refine CW.sub (D := St w NoF []) ?_ (fun u hu => hu.sub (List.nil_sublist _))
    repeat'(first|refine kv' ?_|apply jJ|refine jE' ?_|refine jp' ?_|(apply jc;kernel_rfl)|refine kg' ?_|refine kG' ?_|refine kB' fun _=>?_|refine kA' fun _=>?_|refine kK' fun _=>?_|refine kU' ?_|(apply kq; (· exact rfl); (· intro w1 h1; first | exact CallsTo.q (show CallsTo Tryz.prog 13 [] w1 _ from p29 w1) h1 | exact CallsTo.q (zer_e4 (n := 512) _ w1 (by omega) (h1.rd_of_blk (mH _ _))) h1 | exact CallsTo.q (zer_e4 (n := 513) _ w1 (by omega) (h1.rd_of_blk (mH _ _))) h1 | (have hb := h1.holds (osl (.slice az (sealL (zer 508)).length cz) 5 1 (sealL (zer 508)).length (bv (sealL (zer 508)))) memZ; exact CallsTo.q (e4 az cz (sealL (zer 508)) w1 (ownsRow_rd hb) (seal_byt (zer_byt 508)) (fun e => (ownsRow_some hb e).2) (ownsRow_cap hb) (by rw [sealL_len, zer_len]; omega)) h1)))|(first | (apply LR.makeSlice (m := 512); (· exact rfl); (· exact rfl); (· omega); (· omega); (· exact rfl); (· exact rfl); (intro bz)) | (apply LR.makeSlice (m := 513); (· exact rfl); (· exact rfl); (· omega); (· omega); (· exact rfl); (· exact rfl); (intro bz)) | (apply LR.makeSlice (m := 508); (· exact rfl); (· exact rfl); (· omega); (· omega); (· exact rfl); (· exact rfl); (intro bz)))|(apply LR.call; (· exact rfl); (intro w1 h1; refine CallsTo.mono (show CallsTo Tryz.prog 21 [.slice (some ⟨bz, 0, none⟩) 508 508] w1 _ from zer_p34 bz w1 (h1.rd_of_blk (mH _ _))) ?_; rintro v w2 ⟨az, cz, rfl, hn⟩; refine LR.back (h1.newSl hn) ?_; clear hn h1))|((first|refine kR' ?_ ?_|refine kQ' ?_ ?_);all_goals(intro hc;try simp only[hcs]at hc;try(exfalso;first|contradiction|omega))))
    (apply ret1; (· exact rfl); intro w' hS)
    exact ⟨rfl, hS.toKeep⟩
end Go.Proofs.YtkolmkdbjagfcaaGreat

namespace Go.Proofs
open Go.Shelf
end Go.Proofs

namespace Go.Proofs.YtkolmkdbjagfcaaGreat
open Go.Hb
attribute [local irreducible] LR CW At Ev thn blk finK noG again CallsTo
set_option maxRecDepth 100000

structure NewOd (w w' : World) (v : Value) (E : TypeId) (sz n : Nat) (xs : List Value) : Prop where
  grew : Grew w w'
  own : ownsAt w' E sz v n xs
  new : ∀ k, v.ownBlock = some k → w.heap.size ≤ k ∧ k < w'.heap.size
end Go.Proofs.YtkolmkdbjagfcaaGreat

namespace Go.Proofs.YtkolmkdbjagfcaaGreat
open Go.Hb
set_option maxRecDepth 100000

structure Vst where
  node : Int
  aru : Int
  gaps : List Int
def Vst.cells (v : Vst) (a : Option Addr) (c : Nat) : List Value := [.int .i64 v.node, .int .i64 v.aru, .slice a v.gaps.length c]
def Vst.val (v : Vst) (a : Option Addr) (c : Nat) : Value := .agg (v.cells a c).toArray
end Go.Proofs.YtkolmkdbjagfcaaGreat

namespace Go.Proofs.YtkolmkdbjagfcaaGreat
open Go.Hb Go.ChangeShapes Go.WideShapes
set_option maxRecDepth 100000

end Go.Proofs.YtkolmkdbjagfcaaGreat

namespace Go.Proofs.YtkolmkdbjagfcaaGreat
open Go.Hb Go.ChangeShapes Go.WideShapes
attribute [local irreducible] LR CW At Ev thn blk finK noG again CallsTo DW QL dnext

set_option maxHeartbeats 1000000 in
set_option maxRecDepth 100000 in
theorem packetNames_lifted (os : Os) (started : os.Started) (H : Type) (enc : TypeId × Value → H) :
    ReturnsInHanded {} Tryz.checked os 5 .any (Rows.packetNamesSpec.pre6 enc Tryz.prog Tryz.f5 Rows.packetNamesRow.domain false) (Rows.packetNamesSpec.post enc Tryz.prog Tryz.f5 false true false false) := by
  refine returnsInHanded_of_change_sized (C := Tryz.checked) (s := Rows.packetNamesSpec) own_knob started (by kernel_rfl) Tryz.func5
    (ChangeSpec.witness6 (enc := enc) (C := Tryz.checked) false ⟨#[], #[], []⟩ 12 (by kernel_rfl) (by kernel_rfl) (by kernel_rfl) (by kernel_rfl)) ?_
  intro W base args ds gs before hval hW hcnd hwt _
  have hW' := hW
  obtain ⟨p, q, hA0, hV, rfl, hfz, hnd⟩ := hW'
  obtain ⟨rfl, rfl⟩ := trodVars_none hV
  have hA : DataW.TrodAll enc Tryz.prog W 0 (fun _ => true) true Tryz.f5.params.toList args.toList ds p := hA0
  rw [Tryz.params5] at hA
  obtain ⟨hargs, rfl, rfl⟩ := trodAll_nil hA
  obtain rfl : args = #[] := by cases args; simp_all
  refine (e5 W).calls fun v W' ⟨hv, hg⟩ => ⟨v, rfl, ?_⟩
  subst hv
  exact law_post kids full_slices hW hg rfl rfl (by kernel_rfl) Tryz.underlying4 (by rw [Tryz.params5]; decide +kernel)

theorem packetNames_holds : Rows.PacketNamesSaid :=
  OpenClaim.holds_of_wide 5 Tryz.f5 rfl rfl rfl rfl rfl rfl rfl ⟨rfl, rfl, rfl, rfl, rfl⟩ rfl rfl rfl rfl rfl (by kernel_rfl) Tryz.func5 (by kernel_rfl)
    (of_decide_eq_true (by kernel_rfl)) (by unfold Func.isWrapper; first | (rw [if_pos (by decide +kernel)]; kernel_rfl) | (rw [if_neg (by decide +kernel)]; exact ⟨rfl, rfl⟩))
    (fun os started H enc _ => packetNames_lifted os started H enc)
end Go.Proofs.YtkolmkdbjagfcaaGreat
