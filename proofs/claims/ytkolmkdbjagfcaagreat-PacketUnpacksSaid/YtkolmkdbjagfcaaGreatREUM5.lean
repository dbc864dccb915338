/-
  The reference's reader of packets: tokens and commits.
-/
import Derived.Test.YtkolmkdbjagfcaaGreatREUM4
import Derived.Lib.SliceRun

set_option linter.unusedSimpArgs false
set_option linter.unusedVariables false
namespace Go.Proofs.YtkolmkdbjagfcaaGreat
open Go.Hb
attribute [local irreducible] LR CW At Ev thn blk finK noG again CallsTo DW QL dnext TW DP
set_option linter.unusedSimpArgs false
set_option linter.unusedVariables false
set_option maxRecDepth 100000

theorem decF_err : ∀ k i acc l, (decF k i acc l).2.2 ≠ 0 → (decF k i acc l).1 = 0
  | 0, i, acc, l => by simp [decF]
  | k + 1, i, acc, [] => by simp [decF]
  | k + 1, i, acc, x :: r => by
    unfold decF
    split
    · split
      · simp
      · simp
    · exact decF_err k _ _ r
theorem dec_err {l : List Int} (h : (dec l).2.2 ≠ 0) : (dec l).1 = 0 := decF_err 8 0 0 l h
theorem gV_bd (s : RS) : 0 ≤ gV s ∧ gV s ≤ 9007199254740991 := by
  unfold gV getS
  split
  · omega
  · have h := (decF_bound 8 0 0 s.1).2
    simp only
    by_cases h0 : (dec s.1).2.2 = 0
    · have := (h h0).2
      unfold dec at h0 ⊢
      omega
    · have : (dec s.1).1 = 0 := dec_err h0
      rw [this]; omega
theorem gT_byt {s : RS} (h : Byt s.1) : Byt (gT s).1 := getS_byt h
theorem gT_le (s : RS) : (gT s).1.length ≤ s.1.length := getS_le s
theorem lstR_len {α : Type} (f : RS → α × RS) {most : Int} (hm : 0 ≤ most) (s : RS) : ((lstR f most s).1.length : Int) ≤ most := by
  unfold lstR
  have := getS_nn s
  split
  · exact hm
  · split
    · exact hm
    · rw [rdL_len]; omega
theorem msgR_body {s : RS} (h : Byt s.1) : Byt (msgR s).1.body ∧ (msgR s).1.body.length ≤ s.1.length := by
  unfold msgR
  split
  · exact ⟨fun x hx => by simp [zeroMsg] at hx, Nat.zero_le _⟩
  · split
    · exact ⟨fun x hx => by simp [zeroMsg] at hx, Nat.zero_le _⟩
    · rename_i h1 h2
      have h3 := octs_facts (most := 512) (l := s.1) (by simpa using h2)
      have h4 := unpack_body (octs 512 s.1).1
      exact ⟨fun x hx => h x (h3.2 x (h4.2 x hx)), Nat.le_trans h4.1 (Nat.le_of_lt h3.1)⟩
theorem parse_facts {s : RS} (hB : Byt s.1) : Byt (parseP s).1.d.msg.body ∧ (parseP s).1.d.msg.body.length ≤ s.1.length ∧ (parseP s).1.t.ask.length ≤ 16 ∧ (parseP s).1.c.ents.length ≤ 8 ∧ PktI (parseP s).1 := by
  unfold parseP
  generalize gV s = k
  have hs : Byt (gT (startS k (gT s))).1 ∧ (gT (startS k (gT s))).1.length ≤ s.1.length := by
    have h1 : Byt (startS k (gT s)).1 ∧ (startS k (gT s)).1.length ≤ s.1.length := by
      unfold startS
      split
      · exact ⟨gT_byt hB, gT_le s⟩
      · exact ⟨gT_byt hB, gT_le s⟩
    exact ⟨gT_byt h1.1, Nat.le_trans (gT_le _) h1.2⟩
  generalize gV (startS k (gT s)) = tt
  generalize gT (startS k (gT s)) = u at hs
  have z : Byt (zPkt.d.msg.body) ∧ zPkt.d.msg.body.length ≤ s.1.length ∧ zPkt.t.ask.length ≤ 16 ∧ zPkt.c.ents.length ≤ 8 := ⟨fun x hx => by simp [zPkt, zeroDat, zeroMsg] at hx, Nat.zero_le _, Nat.zero_le _, Nat.zero_le _⟩
  have z2 : (-9223372036854775808 ≤ zPkt.c.mem ∧ zPkt.c.mem ≤ 9223372036854775807) := by decide
  have z3 : (-9223372036854775808 ≤ zPkt.j2 ∧ zPkt.j2 ≤ 9223372036854775807) := by decide
  have m5 := @msgR_body (gT (gT (gT (gT (gT u))))) (gT_byt (gT_byt (gT_byt (gT_byt (gT_byt hs.1)))))
  have l5 : (gT (gT (gT (gT (gT u))))).1.length ≤ u.1.length := Nat.le_trans (gT_le _) (Nat.le_trans (gT_le _) (Nat.le_trans (gT_le _) (Nat.le_trans (gT_le _) (gT_le _))))
  have n1 := lstR_len getS (most := 16) (by decide) (gT (gT (gT (gT (gT (gT (gT (gT u))))))))
  have n2 := lstR_len getE (most := 8) (by decide) (gT (gT (gT (gT u))))
  have v1 := gV_bd (gT u)
  have v2 := gV_bd (gT (gT u))
  unfold parseK
  repeat' split
  · exact ⟨m5.1, by have := m5.2; have := hs.2; simp only; omega, z.2.2.1, z.2.2.2, z2, z3⟩
  · exact ⟨z.1, z.2.1, by simp only; omega, z.2.2.2, z2, z3⟩
  · exact ⟨z.1, z.2.1, z.2.2.1, z.2.2.2, z2, by simp only; omega⟩
  · exact ⟨z.1, z.2.1, z.2.2.1, by simp only; omega, by simp only; omega, z3⟩
  · exact ⟨z.1, z.2.1, z.2.2.1, z.2.2.2, z2, z3⟩
  · exact ⟨z.1, z.2.1, z.2.2.1, z.2.2.2, z2, z3⟩
def unpackP (l : List Int) : Pkt × Int :=
  if 512 < l.length then (zPkt, 5)
  else if (openL l).2 ≠ 0 then (zPkt, (openL l).2)
  else if (parseP ((openL l).1, 0)).2.2 ≠ 0 then (zPkt, (parseP ((openL l).1, 0)).2.2)
  else if 0 < (parseP ((openL l).1, 0)).2.1.length ∨ chkP (parseP ((openL l).1, 0)).1 = false then (zPkt, 4)
  else ((parseP ((openL l).1, 0)).1, 0)
theorem zPktM (w : World) : PktM w zPkt zA := ⟨Rd.nil _ _, fun _ => rfl, Rd.nil _ _, fun _ => rfl, Rd.nil _ _, fun _ => rfl⟩
/-- What Unpack yields. -/
def UnpP (r : Pkt × Int) (v : Value) (w w' : World) : Prop := ∃ A X, v = .tuple [r.1.val A, .int .i64 r.2].toArray ∧ New1 X w w' ∧ X.dep ∧ X.excl = true ∧ ∀ w2, X.holds w2 → PktM w2 r.1 A
theorem unp_zero {w w' : World} {L : List Asrt} (e : Int) (hS : St w NoF L w') : UnpP (zPkt, e) (.tuple [zPkt.val zA, .int .i64 e].toArray) w w' :=
  ⟨zA, _, rfl, (hS.nilsl 3 1).new1 rfl, osl.dep _ _ _ _ _, rfl, fun w2 _ => zPktM w2⟩
/-- What Unpack yields, and where a message's body lies. -/
def UnpQ (r : Pkt × Int) (v : Value) (w w' : World) : Prop := ∃ A X, v = .tuple [r.1.val A, .int .i64 r.2].toArray ∧ New1 X w w' ∧ X.dep ∧ X.excl = true ∧ (∀ w2, X.holds w2 → PktM w2 r.1 A) ∧ BodX X r.1 A
theorem unq_zero {w w' : World} {L : List Asrt} (e : Int) (hS : St w NoF L w') : UnpQ (zPkt, e) (.tuple [zPkt.val zA, .int .i64 e].toArray) w w' :=
  ⟨zA, _, rfl, (hS.nilsl 3 1).new1 rfl, osl.dep _ _ _ _ _, rfl, fun w2 _ => zPktM w2, fun h => absurd rfl h⟩
theorem UnpQ.toP {r : Pkt × Int} {v : Value} {w w' : World} (h : UnpQ r v w w') : UnpP r v w w' := by
  obtain ⟨A, X, h1, h2, h3, h4, h5, _⟩ := h
  exact ⟨A, X, h1, h2, h3, h4, h5⟩
theorem PktM.toR {w : World} {p : Pkt} {A : PAd} (h : PktM w p A) (hb : Byt p.d.msg.body) (h1 : p.d.msg.body.length ≤ 140737488351232) (h2 : p.t.ask.length ≤ 16) (h3 : p.c.ents.length ≤ 8) : PktR w p A :=
  ⟨h.hd, h.hdz, hb, h1, h.ht, h.htz, by omega, h.hc, h.hcz, by omega⟩
theorem open_byt {l : List Int} (hb : Byt l) : Byt (openL l).1 ∧ (openL l).1.length ≤ l.length := by
  unfold openL
  repeat' split
  · exact ⟨fun x hx => by simp at hx, Nat.zero_le _⟩
  · exact ⟨fun x hx => hb x (List.mem_of_mem_take hx), by simp only [List.length_take]; omega⟩
  · exact ⟨fun x hx => by simp at hx, Nat.zero_le _⟩
set_option maxHeartbeats 16000000 in
theorem p32q (a : Option Addr) (c : Nat) (l : List Int) (w : World) (hr : Rd w a (bv l)) (hb : Byt l) (hz : a = none → c = 0) (hcap : l.length ≤ c) (hm : l.length ≤ 140737488355000) :
    CallsTo Tryz.prog 15 [.slice a l.length c] w fun v w' => UnpQ (unpackP l) v w w' := by
  refine go_in (n := 59) (St.rd1 hr) Tryz.func15 rfl rfl ?_
  obtain ⟨r0, hr0⟩ : ∃ r, unpackP l = r := ⟨_, rfl⟩
  have hr1 := hr0
  rw [hr0]
  unfold unpackP at hr1
  by_cases h5 : 512 < l.length
  · rw [if_pos h5] at hr1
    subst hr1
    repeat'(first|(apply kA;exact rfl;intro b2)|refine kv' ?_|apply jJ|refine jE' ?_|refine jp' ?_|(apply jc;kernel_rfl)|refine kg' ?_|refine kG' ?_|refine kB' fun _=>?_|refine kA' fun _=>?_|refine kK' fun _=>?_|refine kU' ?_|((first|refine kR' ?_ ?_|refine kQ' ?_ ?_);all_goals(intro hc;try simp only[hcs]at hc;try(exfalso;first|contradiction|omega))))
    (apply ret2c; (· exact rfl); (· exact inferInstance); (· exact rfl); (· (repeat (first | exact List.Mem.head _ | apply List.Mem.tail))); (· exact rfl); intro w' hS)
    exact unq_zero 5 hS
  rw [if_neg h5] at hr1
  have hob := open_byt hb
  obtain ⟨⟨ol, oe⟩, hol⟩ : ∃ r, openL l = r := ⟨_, rfl⟩
  rw [hol] at hr1 hob
  simp only at hr1 hob
  by_cases ho : oe ≠ 0
  · rw [if_pos ho] at hr1
    subst hr1
    repeat'(first|(apply kA;exact rfl;intro b2)|refine kv' ?_|apply jJ|refine jE' ?_|refine jp' ?_|(apply jc;kernel_rfl)|refine kg' ?_|refine kG' ?_|refine kB' fun _=>?_|refine kA' fun _=>?_|refine kK' fun _=>?_|refine kU' ?_|(apply LR.call; (· exact rfl); (intro w1 h1; refine (p65 a c l w1 (h1.rd_of (a := a) (xs := bv l) (by (repeat (first | exact mH _ _ | apply mT)))) hb hz hcap hm).mono ?_; rw [hol]; rintro v w2 ⟨a1, c1, hv, hn⟩; replace hv : v = .tuple [.slice a1 ol.length c1, .int .i64 oe].toArray := hv; subst hv; refine LR.back (h1.newSl hn) ?_; clear hn h1))|((first|refine kR' ?_ ?_|refine kQ' ?_ ?_);all_goals(intro hc;try simp only[hcs]at hc;try(exfalso;first|contradiction|omega))))
    (apply ret2c; (· exact rfl); (· exact inferInstance); (· exact rfl); (· (repeat (first | exact List.Mem.head _ | apply List.Mem.tail))); (· exact rfl); intro w' hS)
    exact unq_zero oe hS
  rw [if_neg ho] at hr1
  have ho2 : oe = 0 := by omega
  subst ho2
  have hpf := @parse_facts (ol, 0) hob.1
  obtain ⟨⟨p, l2, e2⟩, hp⟩ : ∃ r, parseP (ol, 0) = r := ⟨_, rfl⟩
  rw [hp] at hr1 hpf
  simp only at hr1 hpf
  obtain ⟨hpb, hpl, hpa, hpe, hpi⟩ := hpf
  repeat'(first|(apply kA;exact rfl;intro b2)|refine kv' ?_|apply jJ|refine jE' ?_|refine jp' ?_|(apply jc;kernel_rfl)|refine kg' ?_|refine kG' ?_|refine kB' fun _=>?_|refine kA' fun _=>?_|refine kK' fun _=>?_|refine kU' ?_|((first|refine kR' ?_ ?_|refine kQ' ?_ ?_);all_goals(intro hc;try simp only[hcs]at hc;try(exfalso;first|contradiction|omega))))
  apply LR.call
  · exact rfl
  intro w1 h1
  refine (p65 a c l w1 (h1.rd_of (a := a) (xs := bv l) (by (repeat (first | exact mH _ _ | apply mT)))) hb hz hcap hm).mono ?_
  rw [hol]
  rintro v w2 ⟨a1, c1, hv, hn⟩
  replace hv : v = .tuple [.slice a1 ol.length c1, .int .i64 0].toArray := hv
  subst hv
  replace hn : NewSl w1 w2 (.slice a1 ol.length c1) 5 1 ol.length (bv ol) := hn
  refine LR.back (h1.newSl hn) ?_
  clear hn h1
  repeat'(first|(apply kA;exact rfl;intro bp)|(apply kB;(iterate 2 exact rfl);intro bc)|refine kv' ?_|apply jJ|refine jE' ?_|refine jp' ?_|(apply jc;kernel_rfl)|refine kg' ?_|refine kG' ?_|refine kB' fun _=>?_|refine kA' fun _=>?_|refine kK' fun _=>?_|refine kU' ?_|(apply LR.call; (· exact rfl); (intro w1 h1; refine CallsTo.mono (show CallsTo Tryz.prog 58 [.slice a1 ol.length c1] w1 _ from c65 a1 c1 ol w1 (h1.rd_of_own (by (repeat (first | exact mH _ _ | apply mT)))) (fun e => (ownsRow_some (h1.holds (osl (.slice a1 ol.length c1) 5 1 ol.length (bv ol)) (by (repeat (first | exact mH _ _ | apply mT)))) e).2) (by omega)) ?_; rintro v w2 ⟨br, a3, c3, rfl, hn⟩; refine LR.back (h1.got hn (rrA_dep _ _ _ _ _ _)) ?_; clear hn h1))|((first|refine kR' ?_ ?_|refine kQ' ?_ ?_);all_goals(intro hc;try simp only[hcs]at hc;try(exfalso;first|contradiction|omega))))
  apply LR.call
  · exact rfl
  intro w1 h1
  have h2 : St w NoF [rC bc br a3 c3 ol 0, .own bp (.cells (zPkt.cells zA).toArray 42 (0, 0)), osl (.slice a1 ol.length c1) 5 1 ol.length (bv ol), .own b2 (.cells (zPkt.cells zA).toArray 42 (0, 0)), rdA a (bv l)] w1 := St.join (x := codB bc none (some ⟨br, 0, none⟩) 0) h1 rfl rfl
  have h3 : St w NoF [rX bc br a3 c3 (ol, 0) bp (zPkt.cells zA) 42, osl (.slice a1 ol.length c1) 5 1 ol.length (bv ol), .own b2 (.cells (zPkt.cells zA).toArray 42 (0, 0)), rdA a (bv l)] w1 := St.join h2 rfl rfl
  refine CallsTo.mono (show CallsTo Tryz.prog 26 [.pointer (some ⟨bc, 0, none⟩), .pointer (some ⟨bp, 0, none⟩)] w1 _ from p55r bc br a3 c3 (ol, 0) bp w1 (h3.holds _ (mH _ _)) hob.1 (by have := hob.2; simp only; omega)) ?_
  rw [hp]
  rintro v w2 ⟨rfl, a4, c4, cs4, X, st, hXd, hXe, hl4, hg4⟩
  have h5 : St w NoF [codB bc none (some ⟨br, 0, none⟩) e2, rrA 142 [.bool true] br a4 c4 l2, .own bp (.cells cs4.toArray 42 (0, 0)), X, osl (.slice a1 ol.length c1) 5 1 ol.length (bv ol), .own b2 (.cells (zPkt.cells zA).toArray 42 (0, 0)), rdA a (bv l)] w2 := (((St.did h3 (Sel.head _ _ _) rfl st (both_dep (rX_dep _ _ _ _ _ _ _ _) hXd)).part (rX_dep _ _ _ _ _ _ _ _) hXd).part (rC_dep _ _ _ _ _ _) (Asrt.dep_own _ _)).part (Asrt.dep_own _ _) (rrA_dep _ _ _ _ _ _)
  refine LR.back h5 ?_
  clear h5 h3 h2 h1 st
  by_cases he : e2 = 0
  · subst he
    rw [if_neg (by simp)] at hr1
    obtain ⟨A, hcs, hX, hXb⟩ := hg4 rfl
    replace hcs : cs4 = p.cells A := hcs
    replace hX : ∀ w2, X.holds w2 → PktM w2 p A := hX
    subst hcs
    by_cases hll : 0 < l2.length
    · rw [if_pos (.inl hll)] at hr1
      subst hr1
      have hck : chkP p = chkP p := rfl
      repeat'(first|(apply CW.reg_sink 6 (St w NoF [codB bc none (some ⟨br, 0, none⟩) 4]); (· exact rfl); (· decide +kernel))|refine kv' ?_|apply jJ|refine jE' ?_|refine jp' ?_|(apply jc;kernel_rfl)|refine kg' ?_|refine kG' ?_|refine kB' fun _=>?_|refine kA' fun _=>?_|refine kK' fun _=>?_|refine kU' ?_|(apply kq; (· exact rfl); (· intro w1 h1; first | exact CallsTo.q (show CallsTo Tryz.prog 59 [.pointer (some ⟨br, 0, none⟩)] w1 _ from c68 br a4 c4 l2 w1 (h1.holds (rrA 142 [.bool true] br a4 c4 l2) (by (repeat (first | exact mH _ _ | apply mT))))) h1 | (have hq := CallsTo.q (p31 p A w1 ((hX w1 (h1.holds X (by (repeat (first | exact mH _ _ | apply mT))))).toR hpb (by omega) hpa hpe) hpi) h1; rw [hck] at hq; exact hq)))|((first|refine kR' ?_ ?_|refine kQ' ?_ ?_);all_goals(intro hc;try simp only[hcs]at hc;try(exfalso;first|contradiction|omega))))
      all_goals
        all_goals (
          apply DW.quiet [0, 1, 2, 3, 4]
          · decide +kernel
          · first | exact fun _ h => h | exact fun _ h => St.sub h (by repeat (first | exact List.Sublist.refl _ | apply List.Sublist.cons_cons | apply List.Sublist.cons))
          repeat'(first|refine yv' ?_|refine uv' ?_|refine un' ?_|(refine us' ?_ ?_;all_goals(intro hc;try simp only[hcs]at hc;try(exfalso;first|contradiction|omega)))|apply QL.nil)
          all_goals (show DW _ _ _ _ _ _ _ _))
        all_goals (
          apply DW.loud 5
          · exact rfl
          · decide +kernel
          repeat'(first|refine kg' ?_|refine kG' ?_|apply kM|refine kv' ?_|refine kK' fun _=>?_|refine kU' ?_|refine kB' fun _=>?_|refine kA' fun _=>?_|(apply addX;(iterate 2 exact rfl);(iterate 2(first|omega|(dsimp only;omega)));exact rfl))
          all_goals (refine At.stage_same (fun _ h => St.sub h (by repeat (first | exact List.Sublist.refl _ | apply List.Sublist.cons_cons | apply List.Sublist.cons))) ?_))
        all_goals (apply DW.done; (· decide +kernel))
        all_goals apply At.sink
        repeat'(first|refine kv' ?_|apply jJ|refine jE' ?_|refine jp' ?_|(apply jc;kernel_rfl)|refine kg' ?_|refine kG' ?_|refine kB' fun _=>?_|refine kA' fun _=>?_|refine kK' fun _=>?_|refine kU' ?_|((first|refine kR' ?_ ?_|refine kQ' ?_ ?_);all_goals(intro hc;try simp only[hcs]at hc;try(exfalso;first|contradiction|omega))))
        (apply ret2c; (· exact rfl); (· exact inferInstance); (· exact rfl); (· (repeat (first | exact List.Mem.head _ | apply List.Mem.tail))); (· exact rfl); intro w' hS)
        exact unq_zero 4 hS
    cases hck : chkP p
    · rw [if_pos (.inr hck)] at hr1
      subst hr1
      repeat'(first|(apply CW.reg_sink 6 (St w NoF [codB bc none (some ⟨br, 0, none⟩) 4]); (· exact rfl); (· decide +kernel))|refine kv' ?_|apply jJ|refine jE' ?_|refine jp' ?_|(apply jc;kernel_rfl)|refine kg' ?_|refine kG' ?_|refine kB' fun _=>?_|refine kA' fun _=>?_|refine kK' fun _=>?_|refine kU' ?_|(apply kq; (· exact rfl); (· intro w1 h1; first | exact CallsTo.q (show CallsTo Tryz.prog 59 [.pointer (some ⟨br, 0, none⟩)] w1 _ from c68 br a4 c4 l2 w1 (h1.holds (rrA 142 [.bool true] br a4 c4 l2) (by (repeat (first | exact mH _ _ | apply mT))))) h1 | (have hq := CallsTo.q (p31 p A w1 ((hX w1 (h1.holds X (by (repeat (first | exact mH _ _ | apply mT))))).toR hpb (by omega) hpa hpe) hpi) h1; rw [hck] at hq; exact hq)))|((first|refine kR' ?_ ?_|refine kQ' ?_ ?_);all_goals(intro hc;try simp only[hcs]at hc;try(exfalso;first|contradiction|omega))))
      all_goals
        all_goals (
          apply DW.quiet [0, 1, 2, 3, 4]
          · decide +kernel
          · first | exact fun _ h => h | exact fun _ h => St.sub h (by repeat (first | exact List.Sublist.refl _ | apply List.Sublist.cons_cons | apply List.Sublist.cons))
          repeat'(first|refine yv' ?_|refine uv' ?_|refine un' ?_|(refine us' ?_ ?_;all_goals(intro hc;try simp only[hcs]at hc;try(exfalso;first|contradiction|omega)))|apply QL.nil)
          all_goals (show DW _ _ _ _ _ _ _ _))
        all_goals (
          apply DW.loud 5
          · exact rfl
          · decide +kernel
          repeat'(first|refine kg' ?_|refine kG' ?_|apply kM|refine kv' ?_|refine kK' fun _=>?_|refine kU' ?_|refine kB' fun _=>?_|refine kA' fun _=>?_|(apply addX;(iterate 2 exact rfl);(iterate 2(first|omega|(dsimp only;omega)));exact rfl))
          all_goals (refine At.stage_same (fun _ h => St.sub h (by repeat (first | exact List.Sublist.refl _ | apply List.Sublist.cons_cons | apply List.Sublist.cons))) ?_))
        all_goals (apply DW.done; (· decide +kernel))
        all_goals apply At.sink
        repeat'(first|refine kv' ?_|apply jJ|refine jE' ?_|refine jp' ?_|(apply jc;kernel_rfl)|refine kg' ?_|refine kG' ?_|refine kB' fun _=>?_|refine kA' fun _=>?_|refine kK' fun _=>?_|refine kU' ?_|((first|refine kR' ?_ ?_|refine kQ' ?_ ?_);all_goals(intro hc;try simp only[hcs]at hc;try(exfalso;first|contradiction|omega))))
        (apply ret2c; (· exact rfl); (· exact inferInstance); (· exact rfl); (· (repeat (first | exact List.Mem.head _ | apply List.Mem.tail))); (· exact rfl); intro w' hS)
        exact unq_zero 4 hS
    · rw [if_neg (by rw [hck]; simpa using hll)] at hr1
      subst hr1
      repeat'(first|refine kv' ?_|apply jJ|refine jE' ?_|refine jp' ?_|(apply jc;kernel_rfl)|refine kg' ?_|refine kG' ?_|refine kB' fun _=>?_|refine kA' fun _=>?_|refine kK' fun _=>?_|refine kU' ?_|(apply kq; (· exact rfl); (· intro w1 h1; first | exact CallsTo.q (show CallsTo Tryz.prog 59 [.pointer (some ⟨br, 0, none⟩)] w1 _ from c68 br a4 c4 l2 w1 (h1.holds (rrA 142 [.bool true] br a4 c4 l2) (by (repeat (first | exact mH _ _ | apply mT))))) h1 | (have hq := CallsTo.q (p31 p A w1 ((hX w1 (h1.holds X (by (repeat (first | exact mH _ _ | apply mT))))).toR hpb (by omega) hpa hpe) hpi) h1; rw [hck] at hq; exact hq)))|((first|refine kR' ?_ ?_|refine kQ' ?_ ?_);all_goals(intro hc;try simp only[hcs]at hc;try(exfalso;first|contradiction|omega))))
      (apply ret2c; (· exact rfl); (· exact inferInstance); (· exact rfl); (· (repeat (first | exact List.Mem.head _ | apply List.Mem.tail))); (· exact rfl); intro w' hS)
      exact ⟨A, X, rfl, (front hS 3 rfl rfl).new1 hXe, hXd, hXe, hX, hXb⟩
  · rw [if_pos he] at hr1
    subst hr1
    repeat'(first|(apply CW.reg_sink 6 (St w NoF [codB bc none (some ⟨br, 0, none⟩) e2]); (· exact rfl); (· decide +kernel))|refine kv' ?_|apply jJ|refine jE' ?_|refine jp' ?_|(apply jc;kernel_rfl)|refine kg' ?_|refine kG' ?_|refine kB' fun _=>?_|refine kA' fun _=>?_|refine kK' fun _=>?_|refine kU' ?_|((first|refine kR' ?_ ?_|refine kQ' ?_ ?_);all_goals(intro hc;try simp only[hcs]at hc;try(exfalso;first|contradiction|omega))))
    all_goals
      all_goals (
        apply DW.quiet [0, 1, 2, 3, 4]
        · decide +kernel
        · first | exact fun _ h => h | exact fun _ h => St.sub h (by repeat (first | exact List.Sublist.refl _ | apply List.Sublist.cons_cons | apply List.Sublist.cons))
        repeat'(first|refine yv' ?_|refine uv' ?_|refine un' ?_|(refine us' ?_ ?_;all_goals(intro hc;try simp only[hcs]at hc;try(exfalso;first|contradiction|omega)))|apply QL.nil)
        all_goals (show DW _ _ _ _ _ _ _ _))
      all_goals (
        apply DW.loud 5
        · exact rfl
        · decide +kernel
        repeat'(first|refine kg' ?_|refine kG' ?_|apply kM|refine kv' ?_|refine kK' fun _=>?_|refine kU' ?_|refine kB' fun _=>?_|refine kA' fun _=>?_|(apply addX;(iterate 2 exact rfl);(iterate 2(first|omega|(dsimp only;omega)));exact rfl))
        all_goals (refine At.stage_same (fun _ h => St.sub h (by repeat (first | exact List.Sublist.refl _ | apply List.Sublist.cons_cons | apply List.Sublist.cons))) ?_))
      all_goals (apply DW.done; (· decide +kernel))
      all_goals apply At.sink
      repeat'(first|refine kv' ?_|apply jJ|refine jE' ?_|refine jp' ?_|(apply jc;kernel_rfl)|refine kg' ?_|refine kG' ?_|refine kB' fun _=>?_|refine kA' fun _=>?_|refine kK' fun _=>?_|refine kU' ?_|((first|refine kR' ?_ ?_|refine kQ' ?_ ?_);all_goals(intro hc;try simp only[hcs]at hc;try(exfalso;first|contradiction|omega))))
      (apply ret2c; (· exact rfl); (· exact inferInstance); (· exact rfl); (· (repeat (first | exact List.Mem.head _ | apply List.Mem.tail))); (· exact rfl); intro w' hS)
      exact unq_zero e2 hS
theorem p32 (a : Option Addr) (c : Nat) (l : List Int) (w : World) (hr : Rd w a (bv l)) (hb : Byt l) (hz : a = none → c = 0) (hcap : l.length ≤ c) (hm : l.length ≤ 140737488355000) :
    CallsTo Tryz.prog 15 [.slice a l.length c] w fun v w' => UnpP (unpackP l) v w w' := (p32q a c l w hr hb hz hcap hm).mono fun _ _ h => h.toP
end Go.Proofs.YtkolmkdbjagfcaaGreat

namespace Go.Proofs.YtkolmkdbjagfcaaGreat
open Go.Hb
set_option linter.unusedSimpArgs false
set_option linter.unusedVariables false
set_option maxRecDepth 100000

theorem encs_cons (x : Int) (xs : List Int) : encs (x :: xs) = enc x.toNat ++ encs xs := rfl
theorem encs_nil : encs [] = [] := rfl
theorem getS_enc {x : Int} {r : List Int} (h : okN x) : getS (enc x.toNat ++ r, 0) = (x, (r, 0)) := by
  unfold okN at h
  have hd := dec_enc x.toNat (by omega) r
  unfold getS
  simp only
  rw [if_neg (by simp), hd]
  simp only [List.drop_left]
  rw [show ((x.toNat : Nat) : Int) = x by omega]
theorem gV_enc {x : Int} {r : List Int} (h : okN x) : gV (enc x.toNat ++ r, 0) = x := by unfold gV; rw [getS_enc h]
theorem gT_enc {x : Int} {r : List Int} (h : okN x) : gT (enc x.toNat ++ r, 0) = (r, 0) := by unfold gT; rw [getS_enc h]
theorem rdL_cons {α : Type} (f : RS → α × RS) : ∀ (k : Nat) (s : RS), rdL f (k + 1) s = ((f s).1 :: (rdL f k (f s).2).1, (rdL f k (f s).2).2)
  | 0, s => rfl
  | k + 1, s => by
    have ih := rdL_cons f k s
    rw [rdL, ih]
    rfl
theorem getE_enc {e : Ent} {r : List Int} (h : ∀ x ∈ e.nums, okN x) : getE (encs e.nums ++ r, 0) = (e, (r, 0)) := by
  obtain ⟨a, b, c, d, e, f⟩ := e
  have h1 : okN a := h a (by simp [Ent.nums])
  have h2 : okN b := h b (by simp [Ent.nums])
  have h3 : okN c := h c (by simp [Ent.nums])
  have h4 : okN d := h d (by simp [Ent.nums])
  have h5 : okN e := h e (by simp [Ent.nums])
  have h6 : okN f := h f (by simp [Ent.nums])
  unfold getE
  simp only [Ent.nums, encs_cons, encs_nil, List.append_assoc, List.nil_append, getS_enc h1, getS_enc h2, getS_enc h3, getS_enc h4, getS_enc h5, getS_enc h6]
theorem rdL_code {α : Type} {f : RS → α × RS} {code : α → List Int} {P : α → Prop} (hf : ∀ x r, P x → f (code x ++ r, 0) = (x, (r, 0))) : ∀ (l : List α) (r : List Int), (∀ x ∈ l, P x) → rdL f l.length (l.flatMap code ++ r, 0) = (l, (r, 0))
  | [], r, _ => rfl
  | x :: l, r, h => by
    rw [List.length_cons, rdL_cons, List.flatMap_cons, List.append_assoc, hf x _ (h x (by simp))]
    simp only
    rw [rdL_code hf l r fun y hy => h y (by simp [hy])]
theorem lstR_code {α : Type} {f : RS → α × RS} {code : α → List Int} {P : α → Prop} (hf : ∀ x r, P x → f (code x ++ r, 0) = (x, (r, 0))) {most : Int} {l : List α} (r : List Int) (h : ∀ x ∈ l, P x) (hl : (l.length : Int) ≤ most) (hm : most ≤ 100) : lstR f most (enc l.length ++ (l.flatMap code ++ r), 0) = (l, (r, 0)) := by
  have hg : getS (enc l.length ++ (l.flatMap code ++ r), 0) = ((l.length : Int), (l.flatMap code ++ r, 0)) := by
    have := @getS_enc (l.length : Int) (l.flatMap code ++ r) (by unfold okN; omega)
    rw [Int.toNat_natCast] at this
    exact this
  unfold lstR
  rw [hg]
  simp only
  rw [if_neg (by simp), if_neg (by omega), Int.toNat_natCast]
  exact rdL_code hf l r h
theorem msgR_code {m : Msg} (h : check m = 0) (r : List Int) : msgR (enc (bytesM m).length ++ (bytesM m ++ r), 0) = (m, (r, 0)) := by
  have h1 := bytesM_len m
  have h2 := (check_ok h).1
  have h3 : octs 512 (enc (bytesM m).length ++ (bytesM m ++ r)) = (bytesM m, 0, r) := by
    rw [← List.append_assoc]
    exact octs_enc (by omega) (by omega)
  unfold msgR
  simp only
  rw [if_neg (by simp), h3]
  simp only
  rw [if_neg (by simp), unpack_bytes h]
theorem encs_flat (l : List Int) : encs l = l.flatMap fun x => encs [x] := by
  induction l with
  | nil => rfl
  | cons x l ih => rw [List.flatMap_cons, ← ih]; rw [encs_cons, encs_cons, encs_nil, List.append_nil]
theorem encs_ents : ∀ (l : List Ent), encs (l.flatMap Ent.nums) = l.flatMap fun e => encs e.nums
  | [] => rfl
  | e :: l => by rw [List.flatMap_cons, List.flatMap_cons, encs_app, encs_ents l]
theorem int1 : ∀ (x : Int) (r : List Int), okN x → getS (encs [x] ++ r, 0) = (x, (r, 0)) := fun x r h => by
  rw [encs_cons, encs_nil, List.append_nil]
  exact getS_enc h
/-! ### what is zero -/
theorem data_zero {d : Dat} (h : dataS d = false) : d = zeroDat := by
  obtain ⟨a, b, c, e, f, ⟨x1, x2, x3, x4, x5, x6, x7, x8, x9, x10, x11, x12, x13⟩⟩ := d
  simp only [dataS, Bool.or_eq_false_iff, Bool.not_eq_false', decide_eq_true_eq, decide_eq_false_iff_not, List.cons.injEq, and_true] at h
  have hb : x13 = [] := List.eq_nil_of_length_eq_zero (by omega)
  simp only [zeroDat, zeroMsg]
  simp_all
theorem tok_zero {t : Tkn} (h : tokS t = false) : t = zTkn := by
  obtain ⟨a, b, c, e, f, g, i, j, k⟩ := t
  simp only [tokS, Bool.or_eq_false_iff, Bool.not_eq_false', decide_eq_true_eq, decide_eq_false_iff_not, List.cons.injEq, and_true] at h
  have hb : k = [] := List.eq_nil_of_length_eq_zero (by omega)
  simp only [zTkn]
  simp_all
theorem shape_of {p : Pkt} {a b c d e : Bool} (h : shapeB p = [a, b, c, d, e]) : dataS p.d = a ∧ tokS p.t = b ∧ joinS p = c ∧ comS p.c = d ∧ beaS p = e := by
  simpa [shapeB] using h
theorem join_zero {p : Pkt} (h : joinS p = false) : p.j1 = 0 ∧ p.j2 = 0 ∧ p.j3 = 0 := by
  simpa [joinS] using h
theorem bea_zero {p : Pkt} (h : beaS p = false) : p.b1 = 0 ∧ p.b2 = 0 ∧ p.b3 = 0 := by
  simpa [beaS] using h
theorem com_zero {x : Cmt} (h : comS x = false) : x = zCmt := by
  obtain ⟨a, b, c, d, e⟩ := x
  simp only [comS, Bool.or_eq_false_iff, Bool.not_eq_false', decide_eq_true_eq, decide_eq_false_iff_not, List.cons.injEq, and_true] at h
  have hb : e = [] := List.eq_nil_of_length_eq_zero (by omega)
  simp only [zCmt]
  simp_all
theorem parse_body {p : Pkt} (h : chkP p = true) : parseP (bodyP p, 0) = (p, ([], 0)) := by
  obtain ⟨hm, hs⟩ := chk_may h
  obtain ⟨ok1, ok2, hr, hn⟩ := may_num hm
  have e0 : (bodyP p, (0 : Int)) = (enc p.kind.toNat ++ (enc p.to.toNat ++ (encs (numsP p) ++ tailP p)), 0) := by
    unfold bodyP
    simp only [encs_cons, encs_nil, List.append_assoc, List.nil_append]
  unfold parseP
  rw [e0, gV_enc ok1, gT_enc ok1]
  have e1 : startS p.kind (enc p.to.toNat ++ (encs (numsP p) ++ tailP p), 0) = (enc p.to.toNat ++ (encs (numsP p) ++ tailP p), 0) := by
    unfold startS
    rw [if_neg (by simp only; omega)]
  rw [e1, gV_enc ok2, gT_enc ok2]
  unfold numsP at hn ⊢
  unfold tailP parseK
  rcases may_kinds hm with hk | hk | hk | hk | hk
  · simp only [hk] at hn hs ⊢
    simp only [reduceIte, List.mem_cons, List.not_mem_nil, or_false, forall_eq_or_imp, forall_eq] at hn ⊢
    obtain ⟨n1, n2, n3, n4, n5⟩ := hn
    obtain ⟨z1, z2, z3, z4, z5⟩ := shape_of (show shapeB p = [true, false, false, false, false] from hs)
    have hc := may_msg hm hk
    have em := msgR_code hc []
    rw [List.append_nil] at em
    have y2 := tok_zero z2
    have y3 := join_zero z3
    have y4 := com_zero z4
    have y5 := bea_zero z5
    simp only [encs_cons, encs_nil, List.append_assoc, List.nil_append, gV_enc n1, gV_enc n2, gV_enc n3, gV_enc n4, gV_enc n5, gT_enc n1, gT_enc n2, gT_enc n3, gT_enc n4, gT_enc n5, em]
    obtain ⟨kind, to, d, t, j1, j2, j3, c, b1, b2, b3⟩ := p
    simp only at *
    simp_all [zPkt]
  · simp only [hk] at hn hs ⊢
    simp (config := { decide := true }) only [reduceIte, List.mem_cons, List.not_mem_nil, or_false, forall_eq_or_imp, forall_eq] at hn ⊢
    obtain ⟨n1, n2, n3, n4, n5, n6, n7, n8⟩ := hn
    obtain ⟨z1, z2, z3, z4, z5⟩ := shape_of (show shapeB p = [false, true, false, false, false] from hs)
    have hc := may_ask hm hk
    have em := lstR_code (most := 16) (P := okN) int1 [] hc.2 (by omega) (by decide)
    rw [List.append_nil, ← encs_flat] at em
    have y1 := data_zero z1
    have y3 := join_zero z3
    have y4 := com_zero z4
    have y5 := bea_zero z5
    simp only [encs_cons, encs_nil, List.append_assoc, List.nil_append, gV_enc n1, gT_enc n1, gV_enc n2, gT_enc n2, gV_enc n3, gT_enc n3, gV_enc n4, gT_enc n4, gV_enc n5, gT_enc n5, gV_enc n6, gT_enc n6, gV_enc n7, gT_enc n7, gV_enc n8, gT_enc n8, em]
    obtain ⟨kind, to, d, t, j1, j2, j3, c, b1, b2, b3⟩ := p
    simp only at *
    simp_all [zPkt]
  · simp only [hk] at hn hs ⊢
    simp (config := { decide := true }) only [reduceIte, List.mem_cons, List.not_mem_nil, or_false, forall_eq_or_imp, forall_eq] at hn ⊢
    obtain ⟨n1, n2, n3⟩ := hn
    obtain ⟨z1, z2, z3, z4, z5⟩ := shape_of (show shapeB p = [false, false, true, false, false] from hs)
    have y1 := data_zero z1
    have y2 := tok_zero z2
    have y4 := com_zero z4
    have y5 := bea_zero z5
    simp only [encs_cons, encs_nil, List.append_assoc, List.nil_append, gV_enc n1, gT_enc n1, gV_enc n2, gT_enc n2, gV_enc n3, gT_enc n3]
    obtain ⟨kind, to, d, t, j1, j2, j3, c, b1, b2, b3⟩ := p
    simp only at *
    simp_all [zPkt]
  · simp only [hk] at hn hs ⊢
    simp (config := { decide := true }) only [reduceIte, List.mem_cons, List.not_mem_nil, or_false, forall_eq_or_imp, forall_eq] at hn ⊢
    obtain ⟨n1, n2, n3, n4⟩ := hn
    obtain ⟨z1, z2, z3, z4, z5⟩ := shape_of (show shapeB p = [false, false, false, true, false] from hs)
    have hc := may_ents hm hk
    have em := lstR_code (most := 8) (code := fun e : Ent => encs e.nums) (P := fun e : Ent => ∀ x ∈ e.nums, okN x) (l := p.c.ents) (fun e r h => getE_enc h) [] hc.2 (by omega) (by decide)
    rw [List.append_nil, ← encs_ents] at em
    have y1 := data_zero z1
    have y2 := tok_zero z2
    have y3 := join_zero z3
    have y5 := bea_zero z5
    simp only [encs_cons, encs_nil, List.append_assoc, List.nil_append, gV_enc n1, gT_enc n1, gV_enc n2, gT_enc n2, gV_enc n3, gT_enc n3, gV_enc n4, gT_enc n4, em]
    obtain ⟨kind, to, d, t, j1, j2, j3, c, b1, b2, b3⟩ := p
    simp only at *
    simp_all [zPkt]
  · simp only [hk] at hn hs ⊢
    simp (config := { decide := true }) only [reduceIte, List.mem_cons, List.not_mem_nil, or_false, forall_eq_or_imp, forall_eq] at hn ⊢
    obtain ⟨n1, n2, n3⟩ := hn
    obtain ⟨z1, z2, z3, z4, z5⟩ := shape_of (show shapeB p = [false, false, false, false, true] from hs)
    have y1 := data_zero z1
    have y2 := tok_zero z2
    have y3 := join_zero z3
    have y4 := com_zero z4
    simp only [encs_cons, encs_nil, List.append_assoc, List.nil_append, gV_enc n1, gT_enc n1, gV_enc n2, gT_enc n2, gV_enc n3, gT_enc n3]
    obtain ⟨kind, to, d, t, j1, j2, j3, c, b1, b2, b3⟩ := p
    simp only at *
    simp_all [zPkt]
end Go.Proofs.YtkolmkdbjagfcaaGreat

namespace Go.Proofs.YtkolmkdbjagfcaaGreat
open Go.Hb
set_option linter.unusedSimpArgs false
set_option linter.unusedVariables false
set_option maxRecDepth 100000

theorem encs_len8 : ∀ (xs : List Int), (∀ x ∈ xs, okN x) → (encs xs).length ≤ 8 * xs.length
  | [], _ => by simp [encs_nil]
  | x :: xs, h => by
    rw [encs_cons, List.length_append, List.length_cons]
    have h1 := h x (by simp)
    have h2 : (enc x.toNat).length ≤ 8 := enc_len8 (by unfold okN at h1; omega)
    have h3 := encs_len8 xs fun y hy => h y (by simp [hy])
    omega
theorem body_508 {p : Pkt} (h : mayP p = true) : (bodyP p).length ≤ 508 := by
  obtain ⟨ok1, ok2, hr, hn⟩ := may_num h
  unfold bodyP
  simp only [List.length_append]
  have h1 := encs_len8 [p.kind, p.to] (fun x hx => by simp only [List.mem_cons, List.not_mem_nil, or_false] at hx; rcases hx with rfl | rfl; (· exact ok1); (· exact ok2))
  have h2 := encs_len8 (numsP p) hn
  simp only [List.length_cons, List.length_nil] at h1
  rcases may_kinds h with k | k | k | k | k
  · have h3 : (numsP p).length = 5 := by unfold numsP; simp [k]
    have h4 : (tailP p).length ≤ 290 := by
      unfold tailP
      rw [if_pos k, List.length_append]
      have h4 := bytesM_len p.d.msg
      have h5 := (check_ok (may_msg h k)).1
      have h6 : (enc (bytesM p.d.msg).length).length ≤ 2 := enc_len2 (by omega)
      omega
    omega
  · have h3 : (numsP p).length = 8 := by unfold numsP; simp [k]
    have h4 : (tailP p).length ≤ 140 := by
      unfold tailP
      rw [if_neg (by omega), if_pos k, List.length_append]
      have h4 := may_ask h k
      have h5 := encs_len8 p.t.ask h4.2
      have h6 : (enc p.t.ask.length).length ≤ 2 := enc_len2 (by omega)
      omega
    omega
  · have h3 : (numsP p).length = 3 := by unfold numsP; simp [k]
    have h4 : (tailP p).length = 0 := by unfold tailP; simp [k]
    omega
  · have h3 : (numsP p).length = 4 := by unfold numsP; simp [k]
    have h4 : (tailP p).length ≤ 390 := by
      unfold tailP
      rw [if_neg (by omega), if_neg (by omega), if_pos k, List.length_append]
      have h4 := may_ents h k
      have h5 := encs_len8 (p.c.ents.flatMap Ent.nums) (fun x hx => by
        obtain ⟨e, he, hx⟩ := List.mem_flatMap.1 hx
        exact h4.2 e he x hx)
      rw [encsF_len] at h5
      have h6 : (enc p.c.ents.length).length ≤ 2 := enc_len2 (by omega)
      omega
    omega
  · have h3 : (numsP p).length = 3 := by unfold numsP; simp [k]
    have h4 : (tailP p).length = 0 := by unfold tailP; simp [k]
    omega
/-- What is packed is unpacked again. -/
theorem unpack_pack {p : Pkt} (h : chkP p = true) : unpackP (sealL (bodyP p)) = (p, 0) ∧ (sealL (bodyP p)).length ≤ 512 := by
  have hl := body_508 (chk_may h).1
  refine ⟨?_, by rw [sealL_len]; omega⟩
  unfold unpackP
  rw [if_neg (by rw [sealL_len]; omega), open_seal]
  simp only
  rw [if_neg (by simp), parse_body h]
  simp only
  rw [if_neg (by simp), if_neg (by simp [h])]
/-! ### one form only -/
theorem getS_canon {s : RS} (hB : Byt s.1) (h : (getS s).2.2 = 0) : s.2 = 0 ∧ s.1 = enc (getS s).1.toNat ++ (getS s).2.1 := by
  by_cases he : s.2 = 0
  · refine ⟨he, ?_⟩
    rw [getS_ok he] at h ⊢
    simp only at h ⊢
    obtain ⟨r, h1, h2, h3⟩ := dec_canon hB h
    rw [h2, Int.toNat_natCast]
    generalize (dec s.1).1 = n at h1 h2
    rw [h1, List.drop_left]
  · rw [getS_err he] at h
    exact absurd h he
theorem gT_canon {s : RS} (hB : Byt s.1) (h : (gT s).2 = 0) : s.2 = 0 ∧ s.1 = enc (gV s).toNat ++ (gT s).1 := getS_canon hB h
theorem getE_canon {s : RS} (hB : Byt s.1) (h : (getE s).2.2 = 0) : s.2 = 0 ∧ s.1 = encs (getE s).1.nums ++ (getE s).2.1 := by
  have b1 := gT_byt hB
  have b2 := gT_byt b1
  have b3 := gT_byt b2
  have b4 := gT_byt b3
  have b5 := gT_byt b4
  have c6 := gT_canon b5 (show (gT (gT (gT (gT (gT (gT s)))))).2 = 0 from h)
  have c5 := gT_canon b4 c6.1
  have c4 := gT_canon b3 c5.1
  have c3 := gT_canon b2 c4.1
  have c2 := gT_canon b1 c3.1
  have c1 := gT_canon hB c2.1
  refine ⟨c1.1, ?_⟩
  show s.1 = encs [gV s, gV (gT s), gV (gT (gT s)), gV (gT (gT (gT s))), gV (gT (gT (gT (gT s)))), gV (gT (gT (gT (gT (gT s)))))] ++ (gT (gT (gT (gT (gT (gT s)))))).1
  simp only [encs_cons, encs_nil, List.append_assoc, List.nil_append]
  rw [← c6.2, ← c5.2, ← c4.2, ← c3.2, ← c2.2, ← c1.2]
theorem rdL_canon {α : Type} {f : RS → α × RS} {code : α → List Int} (hb : ∀ s, Byt s.1 → Byt (f s).2.1) (hf : ∀ s, Byt s.1 → (f s).2.2 = 0 → s.2 = 0 ∧ s.1 = code (f s).1 ++ (f s).2.1) : ∀ (k : Nat) (s : RS), Byt s.1 → (rdL f k s).2.2 = 0 → s.2 = 0 ∧ s.1 = (rdL f k s).1.flatMap code ++ (rdL f k s).2.1
  | 0, s, _, h => ⟨h, rfl⟩
  | k + 1, s, hB, h => by
    rw [rdL_cons] at h ⊢
    simp only at h ⊢
    have ih := rdL_canon hb hf k (f s).2 (hb s hB) h
    have h1 := hf s hB ih.1
    refine ⟨h1.1, ?_⟩
    rw [List.flatMap_cons, List.append_assoc, ← ih.2, ← h1.2]
theorem lstR_canon {α : Type} {f : RS → α × RS} {code : α → List Int} {most : Int} (hb : ∀ s, Byt s.1 → Byt (f s).2.1) (hf : ∀ s, Byt s.1 → (f s).2.2 = 0 → s.2 = 0 ∧ s.1 = code (f s).1 ++ (f s).2.1) {s : RS} (hB : Byt s.1) (h : (lstR f most s).2.2 = 0) : s.2 = 0 ∧ s.1 = enc (lstR f most s).1.length ++ ((lstR f most s).1.flatMap code ++ (lstR f most s).2.1) := by
  unfold lstR at h ⊢
  by_cases h1 : (getS s).2.2 ≠ 0
  · rw [if_pos h1] at h
    exact absurd h h1
  rw [if_neg h1] at h ⊢
  have h1 : (getS s).2.2 = 0 := by simpa using h1
  by_cases h2 : most < (getS s).1
  · rw [if_pos h2] at h
    cases h
  rw [if_neg h2] at h ⊢
  have h3 := getS_canon hB h1
  have h4 := rdL_canon hb hf (getS s).1.toNat (getS s).2 (getS_byt hB) h
  refine ⟨h3.1, ?_⟩
  rw [rdL_len, ← h4.2, ← h3.2]
theorem msgR_canon {s : RS} (hB : Byt s.1) (h : (msgR s).2.2 = 0) : s.2 = 0 ∧ s.1 = enc (bytesM (msgR s).1).length ++ (bytesM (msgR s).1 ++ (msgR s).2.1) := by
  unfold msgR at h ⊢
  by_cases h1 : s.2 ≠ 0
  · rw [if_pos h1] at h
    exact absurd h h1
  rw [if_neg h1] at h ⊢
  by_cases h2 : (octs 512 s.1).2.1 ≠ 0
  · rw [if_pos h2] at h
    exact absurd h h2
  rw [if_neg h2] at h ⊢
  have h2 : (octs 512 s.1).2.1 = 0 := by simpa using h2
  have h3 := octs_canon hB h2
  have h4 := octs_facts h2
  have h5 := unpack_canon (l := (octs 512 s.1).1) (fun x hx => hB x (h4.2 x hx)) h
  refine ⟨by simpa using h1, ?_⟩
  simp only
  rw [h5.2, ← List.append_assoc]
  exact h3.1
theorem parse_canon {b : List Int} {p : Pkt} (hB : Byt b) (h : parseP (b, 0) = (p, ([], 0))) (hc : chkP p = true) : bodyP p = b := by
  have hm := (chk_may hc).1
  have hr := (may_num hm).2.2.1
  unfold parseP at h
  obtain ⟨k, hk⟩ : ∃ k, gV (b, 0) = k := ⟨_, rfl⟩
  obtain ⟨s1, hs1⟩ : ∃ r, startS k (gT (b, 0)) = r := ⟨_, rfl⟩
  obtain ⟨tt, htt⟩ : ∃ k, gV s1 = k := ⟨_, rfl⟩
  obtain ⟨u, hu⟩ : ∃ r, gT s1 = r := ⟨_, rfl⟩
  rw [hk, hs1, htt, hu] at h
  have hBg : Byt (gT (b, 0)).1 := gT_byt hB
  have hs : startS k (gT (b, 0)) = gT (b, 0) ∨ (startS k (gT (b, 0))).2 ≠ 0 := by
    unfold startS
    split
    · exact .inr (by simp)
    · exact .inl rfl
  have hBs : Byt s1.1 := by
    rw [← hs1]
    unfold startS
    split <;> exact hBg
  have hBu : Byt u.1 := by rw [← hu]; exact gT_byt hBs
  have head : u.2 = 0 → b = enc k.toNat ++ (enc tt.toNat ++ u.1) := by
    intro h0
    rw [← hu] at h0 ⊢
    have c1 := gT_canon hBs h0
    rw [htt] at c1
    rcases hs with h1 | h1
    · rw [hs1] at h1
      rw [h1] at c1
      have c0 := gT_canon (s := (b, 0)) hB c1.1
      rw [hk] at c0
      rw [h1, ← c1.2]
      exact c0.2
    · rw [hs1] at h1
      exact absurd c1.1 h1
  have hbody : bodyP p = enc p.kind.toNat ++ (enc p.to.toNat ++ (encs (numsP p) ++ tailP p)) := by
    unfold bodyP
    simp only [encs_cons, encs_nil, List.append_assoc, List.nil_append]
  have B1 := gT_byt hBu
  have B2 := gT_byt B1
  have B3 := gT_byt B2
  have B4 := gT_byt B3
  have B5 := gT_byt B4
  have B6 := gT_byt B5
  have B7 := gT_byt B6
  have B8 := gT_byt B7
  unfold parseK at h
  rw [hbody]
  by_cases k1 : k = 1
  · rw [if_pos k1] at h
    obtain ⟨h1, h2⟩ := Prod.mk.inj h
    have m := msgR_canon B5 (by rw [h2])
    rw [h2, List.append_nil] at m
    have c4 := gT_canon B4 m.1
    have c3 := gT_canon B3 c4.1
    have c2 := gT_canon B2 c3.1
    have c1 := gT_canon B1 c2.1
    have c0 := gT_canon hBu c1.1
    rw [head c0.1, c0.2, c1.2, c2.2, c3.2, c4.2, m.2]
    subst h1
    unfold numsP tailP
    simp only [k1, reduceIte, encs_cons, encs_nil, List.append_assoc, List.nil_append]
  rw [if_neg k1] at h
  by_cases k2 : k = 2
  · rw [if_pos k2] at h
    obtain ⟨h1, h2⟩ := Prod.mk.inj h
    have m := lstR_canon (most := 16) (code := fun x => encs [x]) (fun s => getS_byt) (fun s hB h => by (have := getS_canon hB h); rw [encs_cons, encs_nil, List.append_nil]; exact this) B8 (by rw [h2])
    rw [h2, List.append_nil, ← encs_flat] at m
    have c7 := gT_canon B7 m.1
    have c6 := gT_canon B6 c7.1
    have c5 := gT_canon B5 c6.1
    have c4 := gT_canon B4 c5.1
    have c3 := gT_canon B3 c4.1
    have c2 := gT_canon B2 c3.1
    have c1 := gT_canon B1 c2.1
    have c0 := gT_canon hBu c1.1
    rw [head c0.1, c0.2, c1.2, c2.2, c3.2, c4.2, c5.2, c6.2, c7.2, m.2]
    subst h1
    unfold numsP tailP
    simp (config := { decide := true }) only [k2, reduceIte, encs_cons, encs_nil, List.append_assoc, List.nil_append]
  rw [if_neg k2] at h
  by_cases k3 : k = 3
  · rw [if_pos k3] at h
    obtain ⟨h1, h2⟩ := Prod.mk.inj h
    have c2 := gT_canon B2 (by rw [h2])
    have c1 := gT_canon B1 c2.1
    have c0 := gT_canon hBu c1.1
    rw [head c0.1, c0.2, c1.2, c2.2, h2]
    subst h1
    unfold numsP tailP
    simp (config := { decide := true }) only [k3, reduceIte, encs_cons, encs_nil, List.append_assoc, List.nil_append]
  rw [if_neg k3] at h
  by_cases k4 : k = 4
  · rw [if_pos k4] at h
    obtain ⟨h1, h2⟩ := Prod.mk.inj h
    have m := lstR_canon (most := 8) (code := fun e : Ent => encs e.nums) (fun s => getE_byt) (fun s hB h => getE_canon hB h) B4 (by rw [h2])
    rw [h2, List.append_nil, ← encs_ents] at m
    have c3 := gT_canon B3 m.1
    have c2 := gT_canon B2 c3.1
    have c1 := gT_canon B1 c2.1
    have c0 := gT_canon hBu c1.1
    rw [head c0.1, c0.2, c1.2, c2.2, c3.2, m.2]
    subst h1
    unfold numsP tailP
    simp (config := { decide := true }) only [k4, reduceIte, encs_cons, encs_nil, List.append_assoc, List.nil_append]
  rw [if_neg k4] at h
  by_cases k5 : k = 5
  · rw [if_pos k5] at h
    obtain ⟨h1, h2⟩ := Prod.mk.inj h
    have c2 := gT_canon B2 (by rw [h2])
    have c1 := gT_canon B1 c2.1
    have c0 := gT_canon hBu c1.1
    rw [head c0.1, c0.2, c1.2, c2.2, h2]
    subst h1
    unfold numsP tailP
    simp (config := { decide := true }) only [k5, reduceIte, encs_cons, encs_nil, List.append_assoc, List.nil_append]
  · rw [if_neg k5] at h
    obtain ⟨h1, h2⟩ := Prod.mk.inj h
    subst h1
    exfalso
    simp only at hr
    omega
/-- What is unpacked is packed as it was. -/
theorem pack_unpack {b : List Int} (hB : Byt b) (h : (unpackP (sealL b)).2 = 0) : packP (unpackP (sealL b)).1 = (sealL b, 0) := by
  unfold unpackP at h ⊢
  by_cases h1 : 512 < (sealL b).length
  · rw [if_pos h1] at h
    cases h
  rw [if_neg h1] at h ⊢
  rw [open_seal] at h ⊢
  simp only at h ⊢
  rw [if_neg (by simp)] at h ⊢
  by_cases h2 : (parseP (b, 0)).2.2 ≠ 0
  · rw [if_pos h2] at h
    exact absurd h h2
  rw [if_neg h2] at h ⊢
  by_cases h3 : 0 < (parseP (b, 0)).2.1.length ∨ chkP (parseP (b, 0)).1 = false
  · rw [if_pos h3] at h
    cases h
  rw [if_neg h3]
  simp only
  have hl : (parseP (b, 0)).2.1 = [] := List.eq_nil_of_length_eq_zero (by omega)
  have he : (parseP (b, 0)).2.2 = 0 := by simpa using h2
  have hc : chkP (parseP (b, 0)).1 = true := by
    cases hx : chkP (parseP (b, 0)).1
    · exact absurd (.inr hx) h3
    · rfl
  have hp : parseP (b, 0) = ((parseP (b, 0)).1, ([], 0)) := Prod.ext rfl (Prod.ext hl he)
  unfold packP
  rw [if_pos hc, parse_canon hB hp hc]
theorem unpack_bad {l : List Int} (h : (unpackP l).2 ≠ 0) : (unpackP l).1 = zPkt := by
  unfold unpackP at h ⊢
  repeat' split
  all_goals first | rfl | (exfalso; simp_all)
end Go.Proofs.YtkolmkdbjagfcaaGreat

namespace Go.Hb
theorem zeroCells_one (z : Value) (m : Nat) : (Builtin.zeroCells [z].toArray m).toList = List.replicate m z := by
  simp [Builtin.zeroCells]
  apply List.ext_getElem
  · simp
  · intro i h1 h2
    simp [Nat.mod_one]
theorem run_clear {P : Program} {w : World} {t E ty : TypeId} {z : Value} {by_ : Nat} (h : SliceOf P t E 1 by_) (hz : ZeroOf P E [z]) (h1 : z.oneCell' = true) {a : Option Addr} {n c j : Nat} {xs : List Value} (hw : ownsAt w E 1 (.slice a n c) n xs) (hj : j ≤ n) :
    ∃ w', (Builtin.clear_ #[t] ty #[.slice (subA a c j 1) (n - j) (c - j)]).run P w = .ok (.tuple #[]) w' ∧ Step (odl (.slice a n c) E 1 n xs) (odl (.slice a n c) E 1 n (xs.take j ++ List.replicate (n - j) z)) w w' := by
  obtain ⟨hl, hr⟩ := hw
  have hl' : xs.length = n := by omega
  by_cases hm : n - j = 0
  · refine ⟨w, ?_, ?_⟩
    · rw [hm]
      cases subA a c j 1 <;> simp [Builtin.clear_, run_underlying h.und]
    · have e : xs.take j ++ List.replicate (n - j) z = xs := by rw [hm, List.take_of_length_le (by omega)]; simp
      rw [e]
      exact ⟨St.refl w _, ⟨hl, hr⟩, fun k hk => .inl hk⟩
  · rcases hr with ⟨he, hn0⟩ | ⟨g, o, cap, cur, he, hg, hnc, hcm, hcs, htake⟩
    · omega
    simp only [Value.slice.injEq] at he
    obtain ⟨rfl, _, rfl⟩ := he
    obtain ⟨v, hv, hvc⟩ := hz.zero
    have hsub : subA (some ⟨g, o, none⟩) c j 1 = some ⟨g, o + j, none⟩ := by
      unfold subA
      rw [if_neg (by omega)]
      simp [addr_add]
    have hst := run_storeCells_at P g (o + j) E (List.replicate (n - j) z) 0 cur w (by simpa using hg) (by simp; omega) (fun u hu => by rw [List.eq_of_mem_replicate hu]; exact h1)
    have e : ∀ (D vs : List Value), D.take (o + j + 0) ++ vs ++ D.drop (o + j + 0 + vs.length) = splice D (o + j) vs := fun _ _ => rfl
    rw [e] at hst
    obtain ⟨m, hm'⟩ : ∃ m, n - j = m + 1 := ⟨n - j - 1, by omega⟩
    have hg' : w.heap[g]? = some (.cells cur.toList.toArray E (0, 0)) := by simpa using hg
    have hsz : cur.toList.length = cur.size := Array.length_toList
    refine ⟨w.setRow g (splice cur.toList (o + j) (List.replicate (n - j) z)).toArray, ?_, Keep.setRow w g _ _ E hg rfl, ⟨by simp; omega, .inr ⟨g, o, c, _, rfl, setRow_heap w g _ _ E (0, 0) hg, hnc, hcm, ?_, ?_⟩⟩, fun k hk => .inl hk⟩
    · rw [hsub]
      have hzc := zeroCells_one z (n - j)
      rw [hm'] at hzc hst ⊢
      simp [Builtin.clear_, run_underlying h.und, hv, hvc, hzc, hst]
    · simp [splice]; omega
    · show ((splice cur.toList (o + j) (List.replicate (n - j) z)).drop o).take (n * 1) = _
      rw [splice_drop (by omega), splice_take (by simp; omega) (by simp; omega), htake]
      unfold splice
      rw [List.drop_eq_nil_of_le (by simp; omega), List.append_nil]
theorem fill_mono {p q : Nat → Option (Nat × Nat)} (h : ∀ i x, p i = some x → q i = some x) : ∀ (l : List (Nat × Value)) (cells r : Array Value), Instr.fill p cells l = some r → Instr.fill q cells l = some r
  | [], cells, r, hf => hf
  | (i, v) :: rest, cells, r, hf => by
    simp only [Instr.fill] at hf ⊢
    cases hp : p i with
    | none => rw [hp] at hf; cases hf
    | some x =>
      obtain ⟨off, size⟩ := x
      rw [hp] at hf
      rw [h i _ hp]
      simp only at hf ⊢
      split at hf
      · cases hf
      · rename_i hn
        rw [if_neg hn]
        exact fill_mono h rest _ r hf
/-- The places of an array of one-cell elements. -/
def arrPlaces (n : Nat) : List (Nat × Nat) := (List.range n).map fun i => (i, 1)
theorem arrPlaces_get {n i : Nat} {x : Nat × Nat} (h : (arrPlaces n).toArray[i]? = some x) : some (i * 1, 1) = some x := by
  unfold arrPlaces at h
  rw [List.getElem?_toArray, List.getElem?_map, Option.map_eq_some_iff] at h
  obtain ⟨j, hj, rfl⟩ := h
  have hi : i < n := by
    have := (List.getElem?_eq_some_iff.1 hj).1
    simpa using this
  rw [List.getElem?_range hi] at hj
  cases hj
  rw [Nat.mul_one]
section
variable {P : Program} {f : Frm} {T T' : TypeId} {x : Operand} {w0 : World} {F : Nat → Prop} {L L' : List Asrt}
variable {n' : Nat} {ops rest : List Oper} {Q : Post} {p : String} {af : Array Edge}
theorem LR.clear {E : TypeId} {z : Value} {by_ n c j : Nat} {a : Option Addr} {xs : List Value} [h : SliceOf P T E 1 by_] [hz : ZeroOf P E [z]] (hx : f.ev x = .slice (subA a c j 1) (n - j) (c - j)) (h1 : z.oneCell' = true)
    (hs : Sel L (odl (.slice a n c) E 1 n xs) (odl (.slice a n c) E 1 n (xs.take j ++ List.replicate (n - j) z)) L') (hj : j ≤ n)
    (k : LR false P n' ops rest Q f (St w0 F L')) : LR false P n' ops (⟨none, .call ⟨.builtin .clear, [x].toArray, [T].toArray⟩, T', p, af, none⟩ :: rest) Q f (St w0 F L) := by
  intro w hw b hb
  refine wpList_plain rfl fun K hK => ?_
  obtain ⟨w', hr, st⟩ := run_clear (P := P) (ty := T') h hz h1 (hw.holds _ hs.mem) hj
  have hr' : (execOp f.ev ⟨none, .call ⟨.builtin .clear, [x].toArray, [T].toArray⟩, T', p, af, none⟩).run P w = .ok (.value (.tuple #[])) w' := by
    simp only [execOp, resolve, invoke, builtin, Sem.run_bind, Sem.run_pure, Result.andThen_ok, List.map_toArray, List.map_cons, List.map_nil, hx, hr]
  rw [← hb.eval] at hr'
  simp only [Oper.wp, hr', Oper.upon_value]
  exact hK _ _ (k _ (hw.did hs rfl st (odl.dep _ _ _ _ _)) _ (hb.put_none _))
theorem LR.qcall_fv {m : Bool} {C : World → Prop} {v : Value} {d : Nat} {g : FuncId} {xs : List Operand} {ts : Array TypeId} {cap args : List Value} (hx : f.ev x = .func (.func g) #[] cap.toArray) (ha : xs.map f.ev ++ cap = args) [own : Own P g] (hd : Nat.blt d n' = true)
    (h : ∀ w, C w → CallsTo P g args w fun u w' => u = v ∧ C w') (k : LR m P n' ops rest Q (upd f d v) C) :
    LR m P n' ops (⟨some d, .call ⟨.value x, xs.toArray, ts⟩, T, p, af, none⟩ :: rest) Q f C :=
  LR.qcall_val hx hd (ha ▸ h) k
theorem Ev.load_odl {v : Value} {b o q k c sz : Nat} {E : TypeId} {xs : List Value} [h : One P T] (hx : f.ev x = .pointer (some ⟨b, o + q, none⟩)) (hm : odl (.slice (some ⟨b, o, none⟩) k c) E sz k xs ∈ L) (hc : xs[q]? = some v) : Ev P (St w0 F L) f (.load T x) T' v :=
  Ev.load hx fun w hw => (hw.rd_of_odl hm).cell hc
theorem Ev.field {C : World → Prop} {v : Value} {i : Nat} {fs : Array Field} {fd : Field} {cs : List Value} (hu : P.underlying T = some (.struct fs)) (hf : fs[i]? = some fd) (h : One P fd.type) (hx : f.ev x = .agg cs.toArray) (hc : cs[fd.offset]? = some v) : Ev P C f (.field T x i) T' v := by
  unfold Ev
  intro w _ d p af g
  simp [execOp, hx, Instr.field, run_underlying hu, hf, part, h.agg, asAgg, hc]
theorem LR.mapUpdate {T : TypeId} {x y z : Operand} {v zv : Value} {q : IntKind} {b : Nat} {l : List (Int × Value)} {key : Int} [h : MapOf P T q zv] (hx : f.ev x = .map (some b)) (hy : f.ev y = .int q key) (hz : f.ev z = v)
    (hs : Sel L (.own b (mapObj q l)) (.own b (mapObj q (l ++ [(key, v)]))) L') (hnew : (findI key l 0).isNone = true)
    (k : LR false P n' ops rest Q f (St w0 F L')) : LR false P n' ops (⟨none, .mapUpdate T x y z, T', p, af, none⟩ :: rest) Q f (St w0 F L) := by
  intro w hw a ha
  refine wpList_plain rfl fun K hK => ?_
  obtain ⟨kt, et, ht, hk, _⟩ := h.ex
  have hb : w.heap[b]? = some (.map (ents q 0 l).toArray l.length) := hw.own_at hs.mem
  have hfind : (Instr.findKey kt (.int q key) (ents q 0 l)).run P w = .ok none w := by
    refine MapKept.run_findKey hk ?_
    rw [findNow_ents]
    cases hf : findI key l 0 with
    | none => rfl
    | some r => rw [hf] at hnew; cases hnew
  have hr : (execOp a.eval ⟨none, .mapUpdate T x y z, T', p, af, none⟩).run P w = .ok .skip { w with heap := w.heap.setIfInBounds b (mapObj q (l ++ [(key, v)])) } := by
    rw [ha.eval]
    have e : Obj.map ((ents q 0 l).toArray.push ⟨.int q key, v, l.length⟩) (l.length + 1) = mapObj q (l ++ [(key, v)]) := by
      simp [mapObj, ents_snoc]
    simp only [execOp, hx, hy, hz, Instr.mapUpdate, Sem.run_bind, run_underlying ht, Result.andThen_ok, MapKept.run_getObj_map hb, MapKept.run_checkKey (k := .int q key) hk (by rfl) _ 9999, hfind, MapKept.run_setObj_map _ hb, e, Sem.run_pure]
  simp only [Oper.wp, hr, Oper.upon_skip]
  have hsz : b < w.heap.size := (Array.getElem?_eq_some_iff.1 hb).1
  refine hK _ _ (k _ ?_ _ (ha.put_none undef))
  exact hw.turn hs rfl (Keep.setObj w b _ rfl) (by show (w.heap.setIfInBounds b _)[b]? = _; simp [hsz]) (fun k hk => .inl hk) (Asrt.dep_own _ _)
theorem Ev.lookupC {C : World → Prop} {T : TypeId} {x y : Operand} {zv : Value} {q : IntKind} {b : Nat} {l : List (Int × Value)} {key : Int} {r : Option (Nat × Value)} [h : MapOf P T q zv] (hx : f.ev x = .map (some b)) (hy : f.ev y = .int q key) (hm : ∀ w, C w → w.heap[b]? = some (mapObj q l)) (hr : findI key l 0 = r) :
    Ev P C f (.lookup T x y true) T' (.tuple [(r.map Prod.snd).getD zv, .bool r.isSome].toArray) := fun w hw d p af g => by
  obtain ⟨kt, et, ht, hk, hz⟩ := h.ex
  have hb : w.heap[b]? = some (.map (ents q 0 l).toArray l.length) := hm w hw
  have hfind : (Instr.findKey kt (.int q key) (ents q 0 l)).run P w = .ok r w := by
    refine MapKept.run_findKey hk ?_
    rw [findNow_ents, hr]
  cases r with
  | none => simp [execOp, hx, hy, Instr.lookup, run_underlying ht, MapKept.run_getObj_map hb, MapKept.run_checkKey (k := .int q key) hk (by rfl) _ 9999, hfind, hz, Result.andThen]
  | some s => simp [execOp, hx, hy, Instr.lookup, run_underlying ht, MapKept.run_getObj_map hb, MapKept.run_checkKey (k := .int q key) hk (by rfl) _ 9999, hfind, Result.andThen]
theorem Ev.lookup1C {C : World → Prop} {T : TypeId} {x y : Operand} {zv : Value} {q : IntKind} {b : Nat} {l : List (Int × Value)} {key : Int} {r : Option (Nat × Value)} [h : MapOf P T q zv] (hx : f.ev x = .map (some b)) (hy : f.ev y = .int q key) (hm : ∀ w, C w → w.heap[b]? = some (mapObj q l)) (hr : findI key l 0 = r) :
    Ev P C f (.lookup T x y false) T' ((r.map Prod.snd).getD zv) := fun w hw d p af g => by
  obtain ⟨kt, et, ht, hk, hz⟩ := h.ex
  have hb : w.heap[b]? = some (.map (ents q 0 l).toArray l.length) := hm w hw
  have hfind : (Instr.findKey kt (.int q key) (ents q 0 l)).run P w = .ok r w := by
    refine MapKept.run_findKey hk ?_
    rw [findNow_ents, hr]
  cases r with
  | none => simp [execOp, hx, hy, Instr.lookup, run_underlying ht, MapKept.run_getObj_map hb, MapKept.run_checkKey (k := .int q key) hk (by rfl) _ 9999, hfind, hz, Result.andThen]
  | some s => simp [execOp, hx, hy, Instr.lookup, run_underlying ht, MapKept.run_getObj_map hb, MapKept.run_checkKey (k := .int q key) hk (by rfl) _ 9999, hfind, Result.andThen]
end
end Go.Hb

namespace Go.Hb
section
variable {P : Program} {C : World → Prop} {f : Frm} {T T' : TypeId} {x : Operand}
theorem Ev.fieldA {i n : Nat} {fs : Array Field} {fd : Field} {cs : List Value} (hu : P.underlying T = some (.struct fs)) (hf : fs[i]? = some fd) (h : Agg P fd.type n) (hx : f.ev x = .agg cs.toArray) : Ev P C f (.field T x i) T' (.agg ((cs.drop fd.offset).take n).toArray) := by
  unfold Ev
  intro w _ d p af g
  simp [execOp, hx, Instr.field, run_underlying hu, hf, part, h.agg, h.size, asAgg]
end
end Go.Hb

namespace Go.Proofs.YtkolmkdbjagfcaaGreat
open Go.Hb
attribute [local irreducible] LR CW At Ev thn blk finK noG again CallsTo DW QL dnext TW DP
set_option linter.unusedSimpArgs false
set_option linter.unusedVariables false
set_option maxRecDepth 100000

def joinedP : Pkt := { zPkt with kind := 3, j1 := 2, j2 := 6, j3 := 300 }
def roundP : Pkt := { zPkt with kind := 2, to := 2, t := ⟨4, 1, 7, 9, 8, 3, 20, 2, [9]⟩ }
def rA (b : Nat) : PAd := { zA with ta := some ⟨b, 0, none⟩, tc := 1 }
theorem joined_chk : chkP joinedP = true := by decide
theorem round_chk : chkP roundP = true := by decide
theorem joined_body : bodyP joinedP = [3, 0, 2, 6, 172, 2] := by decide
theorem round_body : bodyP roundP = [2, 2, 4, 1, 7, 9, 8, 3, 20, 2, 1, 9] := by decide
theorem joined_pack : packP joinedP = (sealL [3, 0, 2, 6, 172, 2], 0) := by unfold packP; rw [if_pos joined_chk, joined_body]
theorem round_pack : packP roundP = (sealL [2, 2, 4, 1, 7, 9, 8, 3, 20, 2, 1, 9], 0) := by unfold packP; rw [if_pos round_chk, round_body]
theorem joined_unpack : unpackP (sealL [3, 0, 2, 6, 172, 2]) = (joinedP, 0) := by rw [← joined_body]; exact (unpack_pack joined_chk).1
theorem Rd.pre {w : World} {a : Option Addr} {x y : List Value} (h : Rd w a (x ++ y)) : Rd w a x := fun j v hj => h j v (by rw [List.getElem?_append_left (List.getElem?_eq_some_iff.1 hj).1]; exact hj)
theorem bv_app (x y : List Int) : bv (x ++ y) = bv x ++ bv y := by unfold bv; rw [List.map_append]
theorem seal_pre {w : World} {a : Option Addr} {l : List Int} (h : Rd w a (bv (sealL l))) : Rd w a (bv l) := by
  unfold sealL at h
  rw [bv_app] at h
  exact Rd.pre h
set_option maxHeartbeats 2000000 in
theorem p52 (w : World) : CallsTo Tryz.prog 55 [] w fun v w' => v = joinedP.val zA ∧ Grew w w' := by
  refine go_in (n := 3) (St.refl _ NoF) Tryz.func55 rfl rfl ?_
  repeat'(first|refine kv' ?_|apply jJ|refine jE' ?_|refine jp' ?_|(apply jc;kernel_rfl)|refine kg' ?_|refine kG' ?_|refine kB' fun _=>?_|refine kA' fun _=>?_|refine kK' fun _=>?_|refine kU' ?_|((first|refine kR' ?_ ?_|refine kQ' ?_ ?_);all_goals(intro hc;try simp only[hcs]at hc;try(exfalso;first|contradiction|omega))))
  (apply ret1c; (· exact rfl); (· exact inferInstance); (· exact rfl); (· (repeat (first | exact List.Mem.head _ | apply List.Mem.tail))); (· exact rfl); intro w' hS)
  exact ⟨rfl, hS.toKeep⟩
set_option maxHeartbeats 2000000 in
theorem p53 (w : World) : CallsTo Tryz.prog 56 [] w fun v w' => ∃ b, v = roundP.val (rA b) ∧ New1 (.own b (.cells [Value.int .i64 9].toArray 3 (0, 0))) w w' := by
  refine go_in (n := 5) (St.refl _ NoF) Tryz.func56 rfl rfl ?_
  repeat'(first|(apply Go.Hb.kK;(iterate 4 exact rfl);intro bs)|refine kv' ?_|apply jJ|refine jE' ?_|refine jp' ?_|(apply jc;kernel_rfl)|refine kg' ?_|refine kG' ?_|refine kB' fun _=>?_|refine kA' fun _=>?_|refine kK' fun _=>?_|refine kU' ?_|((first|refine kR' ?_ ?_|refine kQ' ?_ ?_);all_goals(intro hc;try simp only[hcs]at hc;try(exfalso;first|contradiction|omega))))
  (apply ret1c; (· exact rfl); (· exact inferInstance); (· exact rfl); (· (repeat (first | exact List.Mem.head _ | apply List.Mem.tail))); (· exact rfl); intro w' hS)
  exact ⟨bs, rfl, hS.new1 rfl⟩
theorem seal_byt {l : List Int} (h : Byt l) : Byt (sealL l) := by
  unfold sealL
  refine Byt.append h fun x hx => ?_
  simp only [List.mem_cons, List.not_mem_nil, or_false] at hx
  rcases hx with rfl | rfl | rfl | rfl <;> exact byteK_bd _ _
def SJ : List Int := [3, 0, 2, 6, 172, 2]
def SR : List Int := [2, 2, 4, 1, 7, 9, 8, 3, 20, 2, 1, 9]
theorem joinedR (w : World) : PktR w joinedP zA := (PktM.toR (p := joinedP) (A := zA) ⟨Rd.nil _ _, fun _ => rfl, Rd.nil _ _, fun _ => rfl, Rd.nil _ _, fun _ => rfl⟩ (fun x hx => by simp [joinedP, zPkt, zeroDat, zeroMsg] at hx) (by decide) (by decide) (by decide))
theorem roundR {w : World} {b : Nat} (h : (Asrt.own b (.cells [Value.int .i64 9].toArray 3 (0, 0))).holds w) : PktR w roundP (rA b) := (PktM.toR (p := roundP) (A := rA b) ⟨Rd.nil _ _, fun _ => rfl, own_rd h, fun e => (by cases e), Rd.nil _ _, fun _ => rfl⟩ (fun x hx => by simp [roundP, zPkt, zeroDat, zeroMsg] at hx) (by decide) (by decide) (by decide))
theorem packedJ (w : World) : CallsTo Tryz.prog 7 [joinedP.val zA] w fun v w' => ∃ a c, v = .tuple [.slice a (sealL SJ).length c, .int .i64 0].toArray ∧ NewSl w w' (.slice a (sealL SJ).length c) 5 1 (sealL SJ).length (bv (sealL SJ)) := by
  have hq := p30 joinedP zA w (joinedR w) ⟨by decide, by decide⟩
  rw [joined_pack] at hq
  exact hq
theorem packedR {w : World} {b : Nat} (h : (Asrt.own b (.cells [Value.int .i64 9].toArray 3 (0, 0))).holds w) : CallsTo Tryz.prog 7 [roundP.val (rA b)] w fun v w' => ∃ a c, v = .tuple [.slice a (sealL SR).length c, .int .i64 0].toArray ∧ NewSl w w' (.slice a (sealL SR).length c) 5 1 (sealL SR).length (bv (sealL SR)) := by
  have hq := p30 roundP (rA b) w (roundR h) ⟨by decide, by decide⟩
  rw [round_pack] at hq
  exact hq
theorem unpackedJ (a : Option Addr) (c : Nat) (w : World) (h : (osl (.slice a (sealL SJ).length c) 5 1 (sealL SJ).length (bv (sealL SJ))).holds w) : CallsTo Tryz.prog 15 [.slice a (sealL SJ).length c] w fun v w' => UnpP (joinedP, 0) v w w' := by
  have hq := p32 a c (sealL SJ) w (ownsRow_rd h) (seal_byt (by intro x hx; simp only [SJ, List.mem_cons, List.not_mem_nil, or_false] at hx; omega)) (fun e => (ownsRow_some h e).2) (ownsRow_cap h) (by rw [sealL_len]; decide)
  rw [show unpackP (sealL SJ) = (joinedP, 0) from joined_unpack] at hq
  exact hq
set_option maxHeartbeats 16000000 in
theorem p29 (w : World) : CallsTo Tryz.prog 13 [] w fun v w' => v = .bool true ∧ Grew w w' := by
  have lj : (sealL SJ).length = 10 := by rw [sealL_len]; rfl
  have lr : (sealL SR).length = 16 := by rw [sealL_len]; rfl
  refine go_in (n := 59) (St.refl _ NoF) Tryz.func13 rfl rfl ?_
  repeat'(first|(apply Go.Hb.kK;(iterate 4 exact rfl);intro bs)|refine kv' ?_|apply jJ|refine jE' ?_|refine jp' ?_|(apply jc;kernel_rfl)|refine kg' ?_|refine kG' ?_|refine kB' fun _=>?_|refine kA' fun _=>?_|refine kK' fun _=>?_|refine kU' ?_|(apply kq; (· exact rfl); (· intro w1 h1; exact CallsTo.q (p52 w1) h1))|(apply LR.call; (· exact rfl); (intro w1 h1; first | (refine CallsTo.mono (show CallsTo Tryz.prog 7 [joinedP.val zA] w1 _ from packedJ w1) ?_; rintro v w2 ⟨a1, c1, rfl, hn⟩; have ca1 := own_cap (ownsRow_zero hn.own); refine LR.back (h1.newSl hn) ?_; clear hn h1) | (refine CallsTo.mono (show CallsTo Tryz.prog 56 [] w1 _ from p53 w1) ?_; rintro v w2 ⟨br, rfl, hn⟩; refine LR.back (h1.got hn (Asrt.dep_own _ _)) ?_; clear hn h1) | (refine CallsTo.mono (show CallsTo Tryz.prog 7 [roundP.val (rA br)] w1 _ from packedR (h1.holds (.own br (.cells [Value.int .i64 9].toArray 3 (0, 0))) (by (repeat (first | exact mH _ _ | apply mT))))) ?_; rintro v w2 ⟨a2, c2, rfl, hn⟩; have ca2 := own_cap (ownsRow_zero hn.own); refine LR.back (h1.newSl hn) ?_; clear hn h1) | (refine CallsTo.mono (show CallsTo Tryz.prog 15 [.slice a1 (sealL SJ).length c1] w1 _ from unpackedJ a1 c1 w1 (h1.holds _ (by (repeat (first | exact mH _ _ | apply mT))))) ?_; rintro v w2 ⟨A, X, rfl, hn, hXd, hXe, hX⟩; refine LR.back (h1.got hn hXd) ?_; clear hn h1)))|(apply LR.ev; (· first | (apply Ev.fieldA Tryz.underlying42; (· exact rfl); (· exact (inferInstance : Agg Tryz.prog 35 3)); (· exact rfl)) | exact Ev.slice_hi0 (a := a1) (c := c1) (j := 6) (subA_own ca1.2.2) rfl (by omega) rfl rfl | exact Ev.slice_hi0 (a := a2) (c := c2) (j := 12) (subA_own ca2.2.2) rfl (by omega) rfl rfl); (· exact rfl))|(apply kq; (· exact rfl); (· intro w1 h1; first | exact CallsTo.q (show CallsTo Tryz.prog 11 [.slice a1 6 c1, .slice (some ⟨bs, 0, none⟩) 6 6] w1 _ from c19 a1 (some ⟨bs, 0, none⟩) c1 6 SJ SJ w1 (seal_pre (h1.rd_of_own (by (repeat (first | exact mH _ _ | apply mT))))) (h1.rd_of_blk (by (repeat (first | exact mH _ _ | apply mT)))) (by decide)) h1 | exact CallsTo.q (show CallsTo Tryz.prog 11 [.slice a2 12 c2, .slice (some ⟨bs, 0, none⟩) 12 12] w1 _ from c19 a2 (some ⟨bs, 0, none⟩) c2 12 SR SR w1 (seal_pre (h1.rd_of_own (by (repeat (first | exact mH _ _ | apply mT))))) (h1.rd_of_blk (by (repeat (first | exact mH _ _ | apply mT)))) (by decide)) h1))|((first|refine kR' ?_ ?_|refine kQ' ?_ ?_);all_goals(intro hc;try simp only[hcs]at hc;try(exfalso;first|contradiction|omega))))
  (apply ret1; (· exact rfl); intro w' hS)
  exact ⟨rfl, hS.toKeep⟩
end Go.Proofs.YtkolmkdbjagfcaaGreat

namespace Go.Proofs.YtkolmkdbjagfcaaGreat
open Go.Hb
attribute [local irreducible] LR CW At Ev thn blk finK noG again CallsTo DW QL dnext TW DP
set_option linter.unusedSimpArgs false
set_option linter.unusedVariables false
set_option maxRecDepth 100000

theorem unp_facts {l : List Int} (hb : Byt l) : Byt (unpackP l).1.d.msg.body ∧ (unpackP l).1.d.msg.body.length ≤ 140737488351232 ∧ (unpackP l).1.t.ask.length ≤ 16 ∧ (unpackP l).1.c.ents.length ≤ 8 ∧ PktI (unpackP l).1 := by
  have hz : Byt zPkt.d.msg.body ∧ zPkt.d.msg.body.length ≤ 140737488351232 ∧ zPkt.t.ask.length ≤ 16 ∧ zPkt.c.ents.length ≤ 8 ∧ PktI zPkt := ⟨fun x hx => by simp [zPkt, zeroDat, zeroMsg] at hx, by decide, by decide, by decide, ⟨by decide, by decide⟩⟩
  unfold unpackP
  by_cases h1 : 512 < l.length
  · rw [if_pos h1]; exact hz
  rw [if_neg h1]
  have ho := open_byt hb
  have hp := @parse_facts ((openL l).1, 0) ho.1
  repeat' split
  all_goals first | exact hz | exact ⟨hp.1, by have := hp.2.1; have := ho.2; simp only at *; omega, hp.2.2.1, hp.2.2.2.1, hp.2.2.2.2⟩
set_option maxHeartbeats 16000000 in
theorem p7 (a : Option Addr) (c : Nat) (l : List Int) (w : World) (hr : Rd w a (bv l)) (hb : Byt l) (hz : a = none → c = 0) (hm : l.length ≤ 140737488351232) : CallsTo Tryz.prog 22 [.slice a l.length c] w fun v w' => v = .bool true ∧ Grew w w' := by
  refine go_in (n := 58) (St.rd1 hr) Tryz.func22 rfl rfl ?_
  have hsb := seal_byt hb
  have hsl := sealL_len l
  have hf := unp_facts hsb
  have hbad := @unpack_bad (sealL l)
  have hgood := @pack_unpack l hb
  obtain ⟨⟨p, e⟩, hp⟩ : ∃ r, unpackP (sealL l) = r := ⟨_, rfl⟩
  rw [hp] at hf hbad hgood
  simp only at hf hbad hgood
  obtain ⟨hpb, hpl, hpa, hpe, hpi⟩ := hf
  repeat'(first|refine kv' ?_|apply jJ|refine jE' ?_|refine jp' ?_|(apply jc;kernel_rfl)|refine kg' ?_|refine kG' ?_|refine kB' fun _=>?_|refine kA' fun _=>?_|refine kK' fun _=>?_|refine kU' ?_|(apply kq; (· exact rfl); (· intro w1 h1; exact CallsTo.q (p29 w1) h1))|(apply LR.call; (· exact rfl); (intro w1 h1; refine (p34 a c l w1 (h1.rd_of (a := a) (xs := bv l) (by (repeat (first | exact mH _ _ | apply mT)))) hb hz (by omega)).mono ?_; rintro v w2 ⟨a1, c1, rfl, hn⟩; have ca1 := ownsRow_cap hn.own; refine LR.back (h1.newSl hn) ?_; clear hn h1))|((first|refine kR' ?_ ?_|refine kQ' ?_ ?_);all_goals(intro hc;try simp only[hcs]at hc;try(exfalso;first|contradiction|omega))))
  apply LR.call
  · exact rfl
  intro w1 h1
  refine CallsTo.mono (show CallsTo Tryz.prog 15 [.slice a1 (sealL l).length c1] w1 _ from p32 a1 c1 (sealL l) w1 (h1.rd_of_own (by (repeat (first | exact mH _ _ | apply mT)))) hsb (fun e => (ownsRow_some h1.g0 e).2) ca1 (by omega)) ?_
  rw [hp]
  rintro v w2 ⟨A, X, hv, hn, hXd, hXe, hX⟩
  replace hv : v = .tuple [p.val A, .int .i64 e].toArray := hv
  subst hv
  replace hX : ∀ w2, X.holds w2 → PktM w2 p A := hX
  refine LR.back (h1.got hn hXd) ?_
  clear hn h1
  by_cases he : e = 0
  · subst he
    have hpk := hgood rfl
    repeat'(first|refine kv' ?_|apply jJ|refine jE' ?_|refine jp' ?_|(apply jc;kernel_rfl)|refine kg' ?_|refine kG' ?_|refine kB' fun _=>?_|refine kA' fun _=>?_|refine kK' fun _=>?_|refine kU' ?_|(apply LR.call; (· exact rfl); (intro w1 h1; refine CallsTo.mono (show CallsTo Tryz.prog 7 [p.val A] w1 (fun v w' => ∃ a' c', v = .tuple [.slice a' (sealL l).length c', .int .i64 0].toArray ∧ NewSl w1 w' (.slice a' (sealL l).length c') 5 1 (sealL l).length (bv (sealL l))) from by (have hq := p30 p A w1 ((hX w1 (h1.holds X (by (repeat (first | exact mH _ _ | apply mT))))).toR hpb hpl hpa hpe) hpi); rw [hpk] at hq; exact hq) ?_; rintro v w2 ⟨a2, c2, rfl, hn⟩; refine LR.back (h1.newSl hn) ?_; clear hn h1))|(apply kq; (· exact rfl); (· intro w1 h1; have hq := CallsTo.q (show CallsTo Tryz.prog 11 [.slice a2 (sealL l).length c2, .slice a1 (sealL l).length c1] w1 _ from c19 a2 a1 c2 c1 (sealL l) (sealL l) w1 (ownsRow_rd (h1.holds (osl (.slice a2 (sealL l).length c2) 5 1 (sealL l).length (bv (sealL l))) (by (repeat (first | exact mH _ _ | apply mT))))) (ownsRow_rd (h1.holds (osl (.slice a1 (sealL l).length c1) 5 1 (sealL l).length (bv (sealL l))) (by (repeat (first | exact mH _ _ | apply mT))))) (by omega)) h1; rw [decide_eq_true rfl] at hq; exact hq))|((first|refine kR' ?_ ?_|refine kQ' ?_ ?_);all_goals(intro hc;try simp only[hcs]at hc;try(exfalso;first|contradiction|omega))))
    all_goals (
      (apply ret1; (· exact rfl); intro w' hS)
      exact ⟨rfl, hS.toKeep⟩)
  · have hpz := hbad he
    subst hpz
    repeat'(first|refine kv' ?_|apply jJ|refine jE' ?_|refine jp' ?_|(apply jc;kernel_rfl)|refine kg' ?_|refine kG' ?_|refine kB' fun _=>?_|refine kA' fun _=>?_|refine kK' fun _=>?_|refine kU' ?_|((first|refine kR' ?_ ?_|refine kQ' ?_ ?_);all_goals(intro hc;try simp only[hcs]at hc;try(exfalso;first|contradiction|omega))))
    all_goals (
      (apply ret1; (· exact rfl); intro w' hS)
      exact ⟨rfl, hS.toKeep⟩)
end Go.Proofs.YtkolmkdbjagfcaaGreat

namespace Go.Proofs.YtkolmkdbjagfcaaGreat
open Go.Hb
attribute [local irreducible] LR CW At Ev thn blk finK noG again CallsTo
set_option linter.unusedSimpArgs false
set_option linter.unusedVariables false
set_option maxRecDepth 100000

def rmay (s r : Int) : Bool := !(decide (s = 0 ∧ r = 0)) && ringB s r
structure Tk where
  r1 : Int
  r2 : Int
  hop : Int
  seq : Int
  aru : Int
  low : Int
  stamp : Int
  idle : Int
  ask : List Int
deriving DecidableEq
def Tk.cells (t : Tk) (a : Option Addr) (c : Nat) : List Value := [.int .i64 t.r1, .int .i64 t.r2, .int .i64 t.hop, .int .i64 t.seq, .int .i64 t.aru, .int .i64 t.low, .int .i64 t.stamp, .int .i64 t.idle, .slice a t.ask.length c]
def Tk.val (t : Tk) (a : Option Addr) (c : Nat) : Value := .agg (t.cells a c).toArray
def noTk : Tk := ⟨0, 0, 0, 0, 0, 0, 0, 0, []⟩
def Tk.headB (t : Tk) : Bool := rmay t.r1 t.r2 && withinB t.hop 1 9007199254740991 && withinB t.seq 0 9007199254740991 && withinB t.aru 0 t.seq && withinB t.low 0 8 && withinB t.stamp 0 9007199254740991 && withinB t.idle 0 9007199254740991 && decide (t.ask.length ≤ 16)
def askB (q : Int) : Int → List Int → Bool
  | _, [] => true
  | z, x :: l => withinB x (z + 1) q && askB q x l
def lastI (z : Int) (l : List Int) : Int := l.getLastD z
theorem askB_snoc (q : Int) : ∀ (l : List Int) (z x : Int), askB q z (l ++ [x]) = (askB q z l && withinB x (lastI z l + 1) q)
  | [], z, x => by simp [askB, lastI]
  | y :: l, z, x => by
    rw [List.cons_append, askB, askB, askB_snoc q l y x, Bool.and_assoc]
    congr 3
    unfold lastI
    cases l <;> simp [List.getLastD]
theorem askB_last (q : Int) : ∀ (l : List Int) (z : Int), askB q z l = true → z ≤ lastI z l ∧ (l ≠ [] → lastI z l ≤ q)
  | [], z, _ => ⟨by simp [lastI], fun h => absurd rfl h⟩
  | y :: l, z, h => by
    rw [askB, Bool.and_eq_true] at h
    have h1 := h.1
    unfold withinB at h1
    simp only [Bool.and_eq_true, decide_eq_true_eq] at h1
    have h2 := askB_last q l y h.2
    have e : lastI z (y :: l) = lastI y l := by unfold lastI; cases l <;> simp [List.getLastD]
    rw [e]
    refine ⟨by omega, fun _ => ?_⟩
    by_cases hl : l = []
    · subst hl; simp [lastI]; omega
    · exact h2.2 hl
def tokB (t : Tk) : Bool := t.headB && askB t.seq 0 t.ask
def tokE (t : Tk) : Int := if tokB t then 0 else 2
def mayAt (t : Tk) (i : Nat) : Bool := t.headB && askB t.seq 0 (t.ask.take i)
def lastAt (t : Tk) (i : Nat) : Int := lastI 0 (t.ask.take i)
theorem lastAt_bd {t : Tk} {i : Nat} (h : mayAt t i = true) : 0 ≤ lastAt t i ∧ lastAt t i ≤ 9007199254740991 := by
  unfold mayAt at h
  rw [Bool.and_eq_true] at h
  have h2 := askB_last t.seq _ 0 h.2
  have h1 := h.1
  unfold Tk.headB withinB at h1
  simp only [Bool.and_eq_true, decide_eq_true_eq] at h1
  unfold lastAt
  by_cases hl : t.ask.take i = []
  · rw [hl]; simp [lastI]
  · have := h2.2 hl; omega
theorem mayAt_succ {t : Tk} {i : Nat} (h : i < t.ask.length) : mayAt t (i + 1) = (mayAt t i && withinB t.ask[i] (lastAt t i + 1) t.seq) := by
  unfold mayAt lastAt
  rw [List.take_add_one, List.getElem?_eq_getElem h, Option.toList_some, askB_snoc, Bool.and_assoc]
theorem lastAt_succ {t : Tk} {i : Nat} (h : i < t.ask.length) : lastAt t (i + 1) = t.ask[i] := by
  unfold lastAt lastI
  rw [List.take_add_one, List.getElem?_eq_getElem h, Option.toList_some, List.getLastD_eq_getLast?, List.getLast?_append]
  simp
end Go.Proofs.YtkolmkdbjagfcaaGreat

namespace Go.Proofs.YtkolmkdbjagfcaaGreat
open Go.Hb
attribute [local irreducible] LR CW At Ev thn blk finK noG again CallsTo
set_option linter.unusedSimpArgs false
set_option linter.unusedVariables false
set_option maxRecDepth 100000

abbrev il (a : Option Addr) (c : Nat) (l : List Int) : Asrt := osl (.slice a l.length c) 3 1 l.length (iv l)
abbrev idl (a : Option Addr) (c : Nat) (l : List Int) : Asrt := odl (.slice a l.length c) 3 1 l.length (iv l)
theorem iv1 (l : List Int) : (iv l).all Value.oneCell' = true := by simp [iv, Value.oneCell']
theorem rd_none0 {w : World} {a : Option Addr} {l : List Int} (hr : Rd w a (iv l)) (h : a = none) : l.length = 0 := by
  subst h
  cases l with
  | nil => rfl
  | cons x t =>
    obtain ⟨ad, he, _⟩ := hr 0 _ rfl
    cases he
theorem t13 (a : Option Addr) (ca : Nat) (l : List Int) (w : World) (hr : Rd w a (iv l)) (hz : a = none → ca = 0) (hm : l.length ≤ 17592186043904) :
    CallsTo Tryz.prog 24 [.slice a l.length ca] w fun v w' => ∃ a' c', v = .slice a' l.length c' ∧ NewSl w w' (.slice a' l.length c') 3 1 l.length (iv l) := by
  refine go_in (n := 8) (St.rd1 hr) Tryz.func24 rfl rfl ?_
  repeat'(first|refine kv' ?_|apply jJ|refine jE' ?_|refine jp' ?_|(apply jc;kernel_rfl)|refine kg' ?_|refine kG' ?_|refine kB' fun _=>?_|refine kA' fun _=>?_|refine kK' fun _=>?_|refine kU' ?_|((first|refine kR' ?_ ?_|refine kQ' ?_ ?_);all_goals(intro hc;try simp only[hcs]at hc;try(exfalso;first|contradiction|omega))))
  refine LR.append_nil (news := iv l) rfl rfl (fun w' hw' => hw'.rd_of (List.Mem.head _)) (fun hx => ⟨rd_none0 hr hx, hz hx⟩) (by simp) (iv1 l) (by omega) (by unfold maxLen; omega) rfl ?_; intro a' c'
  repeat'(first|refine kv' ?_|apply jJ|refine jE' ?_|refine jp' ?_|(apply jc;kernel_rfl)|refine kg' ?_|refine kG' ?_|refine kB' fun _=>?_|refine kA' fun _=>?_|refine kK' fun _=>?_|refine kU' ?_|((first|refine kR' ?_ ?_|refine kQ' ?_ ?_);all_goals(intro hc;try simp only[hcs]at hc;try(exfalso;first|contradiction|omega))))
  (apply ret1; (· exact rfl); intro w' hS)
  exact ⟨_, _, rfl, hS.toNew (List.Mem.head _)⟩
theorem take_succ_eq' {l r : List Int} {i : Nat} (h : i < l.length) (hr : i < r.length) (he : l.take i = r.take i) (hx : l[i] = r[i]) : l.take (i + 1) = r.take (i + 1) := by
  rw [List.take_add_one, List.take_add_one, List.getElem?_eq_getElem h, List.getElem?_eq_getElem hr, he, hx]
theorem t19 (a b : Option Addr) (ca cb : Nat) (la lb : List Int) (w : World) (ha : Rd w a (iv la)) (hb : Rd w b (iv lb)) (hm : la.length ≤ 17592186043904) :
    CallsTo Tryz.prog 69 [.slice a la.length ca, .slice b lb.length cb] w fun v w' => v = .bool (decide (la = lb)) ∧ Grew w w' := by
  refine go_in (n := 26) (St.rd2 ha hb) Tryz.func69 rfl rfl ?_
  repeat'(first|refine kv' ?_|apply jJ|refine jE' ?_|refine jp' ?_|(apply jc;kernel_rfl)|refine kg' ?_|refine kG' ?_|refine kB' fun _=>?_|refine kA' fun _=>?_|refine kK' fun _=>?_|refine kU' ?_|((first|refine kR' ?_ ?_|refine kQ' ?_ ?_);all_goals(intro hc;try simp only[hcs]at hc;try(exfalso;first|contradiction|omega))))
  · (apply ret1; (· exact rfl); intro w' hS)
    refine ⟨congrArg Value.bool ?_, hS.toKeep⟩
    have : la ≠ lb := fun e => by subst e; simp at hc
    simp [this]
  · apply CW.loop [4, 5, 11, 12, 13, 14, 15, 16, 17, 18, 19, 20, 21, 22, 23, 24, 25] (fun i : Nat => i ≤ la.length ∧ la.take i = lb.take i) (fun i : Nat => [(5, Value.int .i64 i)]) (fun i => St w NoF [rdA a (iv la), rdA b (iv lb)]) (fun i => la.length - i)
    · exact fun w' hw' => ⟨0, ⟨by omega, by simp⟩, ⟨rfl, trivial⟩, hw'⟩
    intro i g ⟨hi, heq⟩
    by_cases hlt : i < la.length
    · obtain ⟨ba, oa, rfl⟩ := ha.form (fun e => by have := congrArg List.length e; simp at this; subst this; simp at hlt)
      obtain ⟨bb, ob, rfl⟩ := hb.form (fun e => by have := congrArg List.length e; simp at this; subst this; simp at hc; simp [hc] at hlt)
      have hlb : i < lb.length := by omega
      repeat'(first|refine kv' ?_|apply jJ|refine jE' ?_|refine jp' ?_|(apply jc;kernel_rfl)|refine kg' ?_|refine kG' ?_|refine kB' fun _=>?_|refine kA' fun _=>?_|refine kK' fun _=>?_|refine kU' ?_|(apply idxX;(iterate 2 exact rfl);(iterate 2(first|omega|(dsimp only;omega)));exact rfl)|(apply LR.ev; (· apply Ev.load_rd; (· exact rfl); (· repeat (first | exact mH _ _ | apply mT)); (· exact iv_at (i := i) (by simp) (by omega))); (· exact rfl))|(apply addX;(iterate 2 exact rfl);(iterate 2(first|omega|(dsimp only;omega)));exact rfl)|((first|refine kR' ?_ ?_|refine kQ' ?_ ?_);all_goals(intro hc;try simp only[hcs]at hc;try(exfalso;first|contradiction|omega))))
      · (apply ret1; (· exact rfl); intro w' hS)
        refine ⟨congrArg Value.bool ?_, hS.toKeep⟩
        have : la ≠ lb := fun e => by subst e; simp_all
        simp [this]
      · apply At.again (i + 1) ⟨by omega, take_succ_eq' hlt hlb heq (by simpa using ‹_›)⟩
        · (repeat (first | exact Out.refl _ _ | exact Out.mix | (apply Out.upd; (· exact rfl)) | (apply Out.updL; (· exact rfl)) | (apply Out.mixs; (· exact rfl))))
        · exact ⟨rfl, trivial⟩
        · exact fun w' hw' => hw'
        · omega
    · have hie : i = la.length := by omega
      subst hie
      repeat'(first|refine kv' ?_|apply jJ|refine jE' ?_|refine jp' ?_|(apply jc;kernel_rfl)|refine kg' ?_|refine kG' ?_|refine kB' fun _=>?_|refine kA' fun _=>?_|refine kK' fun _=>?_|refine kU' ?_|((first|refine kR' ?_ ?_|refine kQ' ?_ ?_);all_goals(intro hc;try simp only[hcs]at hc;try(exfalso;first|contradiction|omega))))
      (apply ret1; (· exact rfl); intro w' hS)
      refine ⟨congrArg Value.bool ?_, hS.toKeep⟩
      have hl : la.length = lb.length := by omega
      rw [List.take_length, hl, List.take_length] at heq
      simp [heq]
set_option maxHeartbeats 1000000 in
theorem t18 (s t : Tk) (a b : Option Addr) (ca cb : Nat) (w : World) (ha : Rd w a (iv s.ask)) (hb : Rd w b (iv t.ask)) (hm : s.ask.length ≤ 17592186043904) :
    CallsTo Tryz.prog 53 [s.val a ca, t.val b cb] w fun v w' => v = .bool (decide (s = t)) ∧ Grew w w' := by
  refine go_in (n := 59) (St.rd2 ha hb) Tryz.func53 rfl rfl ?_
  repeat'(first|refine kv' ?_|apply jJ|refine jE' ?_|refine jp' ?_|(apply jc;kernel_rfl)|refine kg' ?_|refine kG' ?_|refine kB' fun _=>?_|refine kA' fun _=>?_|refine kK' fun _=>?_|refine kU' ?_|(apply kq; (· exact rfl); (· intro w1 h1; exact CallsTo.q (t19 a b ca cb s.ask t.ask w1 (h1.rd_of (by (repeat (first | exact mH _ _ | apply mT)))) (h1.rd_of (by (repeat (first | exact mH _ _ | apply mT)))) hm) h1))|((first|refine kR' ?_ ?_|refine kQ' ?_ ?_);all_goals(intro hc;try simp only[hcs]at hc;try(exfalso;first|contradiction|omega))))
  all_goals (
    (apply ret1; (· exact rfl); intro w' hS)
    refine ⟨congrArg Value.bool ?_, hS.toKeep⟩
    cases s
    cases t
    simp_all)
def newTk (r1 r2 s : Int) : Tk × Int := if rmay r1 r2 && withinB s 0 9007199254740991 then (⟨r1, r2, 1, 0, 0, 0, s, 0, []⟩, 0) else (noTk, 2)
end Go.Proofs.YtkolmkdbjagfcaaGreat

namespace Go.Proofs.YtkolmkdbjagfcaaGreat
open Go.Hb
attribute [local irreducible] LR CW At Ev thn blk finK noG again CallsTo DW QL dnext TW DP
set_option linter.unusedSimpArgs false
set_option linter.unusedVariables false
set_option maxRecDepth 100000

theorem e45 (n : Int) (w : World) : CallsTo Tryz.prog 45 [.int .i64 n] w fun v w' => v = .bool (numB n) ∧ Grew w w' := by
  refine go_in (n := 9) (St.refl _ NoF) Tryz.func45 rfl rfl ?_
  repeat'(first|refine kv' ?_|apply jJ|refine jE' ?_|refine jp' ?_|(apply jc;kernel_rfl)|refine kg' ?_|refine kG' ?_|refine kB' fun _=>?_|refine kA' fun _=>?_|refine kK' fun _=>?_|refine kU' ?_|((first|refine kR' ?_ ?_|refine kQ' ?_ ?_);all_goals(intro hc;try simp only[hcs]at hc;try(exfalso;first|contradiction|omega))))
  all_goals (
    (apply ret1; (· exact rfl); intro w' hS)
    refine ⟨congrArg Value.bool ?_, hS.toKeep⟩
    unfold numB
    simp_all
    try (intros; omega))
theorem e46 (n : Int) (w : World) : CallsTo Tryz.prog 46 [.int .i64 n] w fun v w' => v = .bool (nodeB n) ∧ Grew w w' := by
  refine go_in (n := 9) (St.refl _ NoF) Tryz.func46 rfl rfl ?_
  repeat'(first|refine kv' ?_|apply jJ|refine jE' ?_|refine jp' ?_|(apply jc;kernel_rfl)|refine kg' ?_|refine kG' ?_|refine kB' fun _=>?_|refine kA' fun _=>?_|refine kK' fun _=>?_|refine kU' ?_|((first|refine kR' ?_ ?_|refine kQ' ?_ ?_);all_goals(intro hc;try simp only[hcs]at hc;try(exfalso;first|contradiction|omega))))
  all_goals (
    (apply ret1; (· exact rfl); intro w' hS)
    refine ⟨congrArg Value.bool ?_, hS.toKeep⟩
    unfold nodeB
    simp_all
    try (intros; omega))
theorem e44 (s r : Int) (w : World) : CallsTo Tryz.prog 44 [.agg [.int .i64 s, .int .i64 r].toArray] w fun v w' => v = .bool (liveR s r) ∧ Grew w w' := by
  refine go_in (n := 11) (St.refl _ NoF) Tryz.func44 rfl rfl ?_
  repeat'(first|(apply kB;(iterate 2 exact rfl);intro b1)|refine kv' ?_|apply jJ|refine jE' ?_|refine jp' ?_|(apply jc;kernel_rfl)|refine kg' ?_|refine kG' ?_|refine kB' fun _=>?_|refine kA' fun _=>?_|refine kK' fun _=>?_|refine kU' ?_|(apply kq; (· exact rfl); (· intro w1 h1; exact CallsTo.q (show CallsTo Tryz.prog 89 [.agg [.int .i64 s, .int .i64 r].toArray] w1 _ from c97 s r w1) h1))|((first|refine kR' ?_ ?_|refine kQ' ?_ ?_);all_goals(intro hc;try simp only[hcs]at hc;try(exfalso;first|contradiction|omega))))
  all_goals (
    (apply ret1; (· exact rfl); intro w' hS)
    refine ⟨congrArg Value.bool ?_, hS.toKeep⟩
    unfold liveR
    simp_all)
def sameT (t u : Tkn) : Bool := decide ([t.r1, t.r2] = [u.r1, u.r2]) && decide (t.hop = u.hop) && decide (t.seq = u.seq) && decide (t.aru = u.aru) && decide (t.low = u.low) && decide (t.stamp = u.stamp) && decide (t.idle = u.idle) && decide (t.ask = u.ask)
set_option maxHeartbeats 4000000 in
theorem e53 (t u : Tkn) (a b : Option Addr) (c d : Nat) (w : World) (ha : Rd w a (iv t.ask)) (hb : Rd w b (iv u.ask)) (hm : t.ask.length ≤ 17592186043904) : CallsTo Tryz.prog 53 [t.val a c, u.val b d] w fun v w' => v = .bool (sameT t u) ∧ Grew w w' := by
  refine go_in (n := 59) (St.rd2 ha hb) Tryz.func53 rfl rfl ?_
  repeat'(first|(apply kB;(iterate 2 exact rfl);intro b1)|refine kv' ?_|apply jJ|refine jE' ?_|refine jp' ?_|(apply jc;kernel_rfl)|refine kg' ?_|refine kG' ?_|refine kB' fun _=>?_|refine kA' fun _=>?_|refine kK' fun _=>?_|refine kU' ?_|(apply kq; (· exact rfl); (· intro w1 h1; exact CallsTo.q (show CallsTo Tryz.prog 69 [.slice a t.ask.length c, .slice b u.ask.length d] w1 _ from t19 a b c d t.ask u.ask w1 (h1.rd_of (a := a) (xs := iv t.ask) (by (repeat (first | exact mH _ _ | apply mT)))) (h1.rd_of (a := b) (xs := iv u.ask) (by (repeat (first | exact mH _ _ | apply mT)))) hm) h1))|((first|refine kR' ?_ ?_|refine kQ' ?_ ?_);all_goals(intro hc;try simp only[hcs]at hc;try(exfalso;first|contradiction|omega))))
  all_goals (
    (apply ret1; (· exact rfl); intro w' hS)
    refine ⟨congrArg Value.bool ?_, hS.toKeep⟩
    unfold sameT
    simp_all)
def sameC (x y : Cmt) : Bool := decide ([x.r1, x.r2] = [y.r1, y.r2]) && decide (x.mem = y.mem) && decide (x.hop = y.hop) && decide (x.ents.map Ent.nums = y.ents.map Ent.nums)
set_option maxHeartbeats 4000000 in
theorem e54 (x y : Cmt) (a b : Option Addr) (c d : Nat) (w : World) (ha : Rd w a (x.ents.flatMap Ent.cells)) (hb : Rd w b (y.ents.flatMap Ent.cells)) (hm : x.ents.length ≤ 17592186043904) : CallsTo Tryz.prog 54 [x.val a c, y.val b d] w fun v w' => v = .bool (sameC x y) ∧ Grew w w' := by
  refine go_in (n := 52) (St.rd2 ha hb) Tryz.func54 rfl rfl ?_
  repeat'(first|(apply kB;(iterate 2 exact rfl);intro b1)|refine kv' ?_|apply jJ|refine jE' ?_|refine jp' ?_|(apply jc;kernel_rfl)|refine kg' ?_|refine kG' ?_|refine kB' fun _=>?_|refine kA' fun _=>?_|refine kK' fun _=>?_|refine kU' ?_|((first|refine kR' ?_ ?_|refine kQ' ?_ ?_);all_goals(intro hc;try simp only[hcs]at hc;try(exfalso;first|contradiction|omega))))
  all_goals try (
    (apply ret1; (· exact rfl); intro w' hS)
    refine ⟨congrArg Value.bool ?_, hS.toKeep⟩
    unfold sameC
    have hne : ¬ (x.ents.length : Int) = y.ents.length → x.ents.map Ent.nums ≠ y.ents.map Ent.nums := fun h e => h (by have := congrArg List.length e; simp only [List.length_map] at this; omega)
    simp_all
    done)
  rename_i b2 hr hmm hh
  have hl : x.ents.length = y.ents.length := by omega
  have hsc : sameC x y = decide (x.ents.map Ent.nums = y.ents.map Ent.nums) := by unfold sameC; simp_all
  rw [hsc]
  apply CW.loop [4, 5, 34, 35, 36, 37, 38, 39, 40, 41, 42, 43, 44, 45, 46, 47, 48, 49, 50, 51] (fun i : Nat => i ≤ x.ents.length ∧ (x.ents.take i).map Ent.nums = (y.ents.take i).map Ent.nums) (fun i => [(5, Value.int .i64 (i : Int))])
    (fun i => St w NoF [.own b1 (.cells (y.cells b d).toArray 38 (0, 0)), .own b2 (.cells (x.cells a c).toArray 38 (0, 0)), rdA a (x.ents.flatMap Ent.cells), rdA b (y.ents.flatMap Ent.cells)]) (fun i => x.ents.length - i)
  · exact fun w' hw' => ⟨0, ⟨by omega, by simp⟩, ⟨rfl, trivial⟩, hw'⟩
  intro i g ⟨hi, heq⟩
  by_cases hlt : i < x.ents.length
  · have hly : i < y.ents.length := by omega
    obtain ⟨ba, oa, rfl⟩ := ha.form (rows_ne Ent.cells_len (by omega) hlt)
    obtain ⟨bb, ob, rfl⟩ := hb.form (rows_ne Ent.cells_len (by omega) hly)
    obtain ⟨e, he⟩ : ∃ e, x.ents[i] = e := ⟨_, rfl⟩
    obtain ⟨f, hf⟩ : ∃ f, y.ents[i] = f := ⟨_, rfl⟩
    have hcx : ∀ w', Rd w' (some ⟨ba, oa, none⟩) (x.ents.flatMap Ent.cells) → ∀ j v, e.cells[j]? = some v → w'.cell? ((⟨ba, oa + (i : Int).toNat * 6, none⟩ : Addr).add j) = some v := fun w' h => by
      rw [← he]
      exact rd_row Ent.cells_len h hlt (by omega)
    have hcy : ∀ w', Rd w' (some ⟨bb, ob, none⟩) (y.ents.flatMap Ent.cells) → ∀ j v, f.cells[j]? = some v → w'.cell? ((⟨bb, ob + (i : Int).toNat * 6, none⟩ : Addr).add j) = some v := fun w' h => by
      rw [← hf]
      exact rd_row Ent.cells_len h hly (by omega)
    have e1 : (x.ents.take (i + 1)).map Ent.nums = (x.ents.take i).map Ent.nums ++ [e.nums] := by
      rw [List.take_add_one, List.getElem?_eq_getElem hlt, List.map_append, he]
      rfl
    have e2 : (y.ents.take (i + 1)).map Ent.nums = (y.ents.take i).map Ent.nums ++ [f.nums] := by
      rw [List.take_add_one, List.getElem?_eq_getElem hly, List.map_append, hf]
      rfl
    repeat'(first|(apply CW.reg_heldC)|refine kv' ?_|apply jJ|refine jE' ?_|refine jp' ?_|(apply jc;kernel_rfl)|refine kg' ?_|refine kG' ?_|refine kB' fun _=>?_|refine kA' fun _=>?_|refine kK' fun _=>?_|refine kU' ?_|((first|refine kR' ?_ ?_|refine kQ' ?_ ?_);all_goals(intro hc;try simp only[hcs]at hc;try(exfalso;first|contradiction|omega))))
    all_goals (
      apply DW.quiet [0, 1, 2, 3, 4, 5, 6, 7, 8, 9, 10]
      · decide +kernel
      · first | exact fun _ h => h | exact fun _ h => St.sub h (by repeat (first | exact List.Sublist.refl _ | apply List.Sublist.cons_cons | apply List.Sublist.cons))
      repeat'(first|refine yv' ?_|(apply QL.ev; (· exact rfl); (· first | (apply Ev.indexAddr; (· exact rfl); (· exact rfl); (· omega); (· omega)) | (apply Ev.load_agg_at (cs := e.cells); (· exact rfl); (· exact rfl); (· intro w' hw'; exact hcx w' (hw'.rd_of (by (repeat (first | exact mH _ _ | apply mT)))))) | (apply Ev.load_agg_at (cs := f.cells); (· exact rfl); (· exact rfl); (· intro w' hw'; exact hcy w' (hw'.rd_of (by (repeat (first | exact mH _ _ | apply mT))))))); (· exact rfl))|refine uv' ?_|refine un' ?_|(refine us' ?_ ?_;all_goals(intro hc;try simp only[hcs]at hc;try(exfalso;first|contradiction|omega)))|apply QL.nil)
      all_goals (show DW _ _ _ _ _ _ _ _))
    all_goals (first | (apply DW.done_thn; (· decide +kernel)) | (apply DW.done; (· decide +kernel)))
    repeat'(first|refine kv' ?_|apply jJ|refine jE' ?_|refine jp' ?_|(apply jc;kernel_rfl)|refine kg' ?_|refine kG' ?_|refine kB' fun _=>?_|refine kA' fun _=>?_|refine kK' fun _=>?_|refine kU' ?_|(apply addX;(iterate 2 exact rfl);(iterate 2(first|omega|(dsimp only;omega)));exact rfl)|((first|refine kR' ?_ ?_|refine kQ' ?_ ?_);all_goals(intro hc;try simp only[hcs]at hc;try(exfalso;first|contradiction|omega))))
    · (apply ret1; (· exact rfl); intro w' hS)
      refine ⟨congrArg Value.bool ?_, hS.toKeep⟩
      rename_i hne
      have hne2 : x.ents.map Ent.nums ≠ y.ents.map Ent.nums := fun h => by
        have h2 := congrArg (fun l => l[i]?) h
        simp only [List.getElem?_map, List.getElem?_eq_getElem hlt, List.getElem?_eq_getElem hly, Option.map_some, Option.some.injEq, he, hf] at h2
        exact absurd h2 (by unfold Ent.nums; simpa using hc)
      exact (decide_eq_false hne2).symm
    · have hee : e.nums = f.nums := by unfold Ent.nums; simpa using hc
      refine At.again (i + 1) ⟨by omega, by rw [e1, e2, heq, hee]⟩ ?_ ⟨rfl, trivial⟩ (fun w' hw' => hw'.sub (by (repeat (first | exact List.Sublist.refl _ | apply List.Sublist.cons_cons | apply List.Sublist.cons)))) (by omega)
      (repeat (first | exact Out.refl _ _ | exact Out.mix | (apply Out.upd; (· exact rfl)) | (apply Out.updL; (· exact rfl)) | (apply Out.mixs; (· exact rfl))))
  · have hie : i = x.ents.length := by omega
    subst hie
    rw [List.take_length, hl, List.take_length] at heq
    repeat'(first|refine kv' ?_|apply jJ|refine jE' ?_|refine jp' ?_|(apply jc;kernel_rfl)|refine kg' ?_|refine kG' ?_|refine kB' fun _=>?_|refine kA' fun _=>?_|refine kK' fun _=>?_|refine kU' ?_|((first|refine kR' ?_ ?_|refine kQ' ?_ ?_);all_goals(intro hc;try simp only[hcs]at hc;try(exfalso;first|contradiction|omega))))
    (apply ret1; (· exact rfl); intro w' hS)
    exact ⟨congrArg Value.bool (decide_eq_true heq).symm, hS.toKeep⟩
def sameP (p q : Pkt) : Bool := decide (p.kind = q.kind) && decide (p.to = q.to) && sameD p.d q.d && sameT p.t q.t && decide ([p.j1, p.j2, p.j3] = [q.j1, q.j2, q.j3]) && sameC p.c q.c && decide ([p.b1, p.b2, p.b3] = [q.b1, q.b2, q.b3])
theorem sameP_self (p : Pkt) : sameP p p = true := by simp [sameP, sameD_self, sameT, sameC]
/-- What reading a packet's lists wants. -/
structure PktS (w : World) (p : Pkt) (A : PAd) : Prop where
  hd : Rd w A.da (bv p.d.msg.body)
  hdm : p.d.msg.body.length ≤ 140737488355328
  ht : Rd w A.ta (iv p.t.ask)
  htm : p.t.ask.length ≤ 17592186043904
  hc : Rd w A.ca (p.c.ents.flatMap Ent.cells)
  hcm : p.c.ents.length ≤ 17592186043904
theorem PktS.old {w w' : World} {L : List Asrt} {p : Pkt} {A : PAd} (h : PktS w p A) (hS : St w NoF L w') : PktS w' p A :=
  ⟨hS.oldRd h.hd, h.hdm, hS.oldRd h.ht, h.htm, hS.oldRd h.hc, h.hcm⟩
theorem PktR.toS {w : World} {p : Pkt} {A : PAd} (h : PktR w p A) : PktS w p A := ⟨h.hd, by have := h.hdm; omega, h.ht, h.htm, h.hc, by have := h.hcm; omega⟩
set_option maxHeartbeats 8000000 in
theorem e12 (p q : Pkt) (A B : PAd) (w : World) (hp : PktS w p A) (hq : PktS w q B) : CallsTo Tryz.prog 12 [p.val A, q.val B] w fun v w' => v = .bool (sameP p q) ∧ Grew w w' := by
  refine go_in (n := 52) (St.refl _ NoF) Tryz.func12 rfl rfl ?_
  repeat'(first|(apply kB;(iterate 2 exact rfl);intro b1)|refine kv' ?_|apply jJ|refine jE' ?_|refine jp' ?_|(apply jc;kernel_rfl)|refine kg' ?_|refine kG' ?_|refine kB' fun _=>?_|refine kA' fun _=>?_|refine kK' fun _=>?_|refine kU' ?_|(apply kq; (· exact rfl); (· intro w1 h1; first | exact CallsTo.q (show CallsTo Tryz.prog 52 [p.d.val A.da A.dc, q.d.val B.da B.dc] w1 _ from c84 p.d q.d A.da B.da A.dc B.dc w1 (hp.old h1).hd (hq.old h1).hd (by have := hp.hdm; omega)) h1 | exact CallsTo.q (show CallsTo Tryz.prog 53 [p.t.val A.ta A.tc, q.t.val B.ta B.tc] w1 _ from e53 p.t q.t A.ta B.ta A.tc B.tc w1 (hp.old h1).ht (hq.old h1).ht hp.htm) h1 | exact CallsTo.q (show CallsTo Tryz.prog 54 [p.c.val A.ca A.cc, q.c.val B.ca B.cc] w1 _ from e54 p.c q.c A.ca B.ca A.cc B.cc w1 (hp.old h1).hc (hq.old h1).hc hp.hcm) h1))|((first|refine kR' ?_ ?_|refine kQ' ?_ ?_);all_goals(intro hc;try simp only[hcs]at hc;try(exfalso;first|contradiction|omega))))
  all_goals (
    (apply ret1; (· exact rfl); intro w' hS)
    refine ⟨congrArg Value.bool ?_, hS.toKeep⟩
    unfold sameP
    simp_all)
end Go.Proofs.YtkolmkdbjagfcaaGreat

namespace Go.Proofs.YtkolmkdbjagfcaaGreat
open Go.Hb
attribute [local irreducible] LR CW At Ev thn blk finK noG again CallsTo DW QL dnext TW DP
set_option linter.unusedSimpArgs false
set_option linter.unusedVariables false
set_option maxRecDepth 100000

def keptP (p : Pkt) : Pkt :=
  if p.kind = 1 then { zPkt with kind := p.kind, to := p.to, d := p.d }
  else if p.kind = 2 then { zPkt with kind := p.kind, to := p.to, t := p.t }
  else if p.kind = 3 then { zPkt with kind := p.kind, to := p.to, j1 := p.j1, j2 := p.j2, j3 := p.j3 }
  else if p.kind = 4 then { zPkt with kind := p.kind, to := p.to, c := p.c }
  else if p.kind = 5 then { zPkt with kind := p.kind, to := p.to, b1 := p.b1, b2 := p.b2, b3 := p.b3 }
  else { zPkt with kind := p.kind, to := p.to }
def keptA (p : Pkt) (A : PAd) : PAd :=
  if p.kind = 1 then { zA with da := A.da, dc := A.dc }
  else if p.kind = 2 then { zA with ta := A.ta, tc := A.tc }
  else if p.kind = 3 then zA
  else if p.kind = 4 then { zA with ca := A.ca, cc := A.cc }
  else zA
set_option maxHeartbeats 8000000 in
theorem e43 (p : Pkt) (A : PAd) (w : World) : CallsTo Tryz.prog 43 [p.val A] w fun v w' => v = (keptP p).val (keptA p A) ∧ Grew w w' := by
  refine go_in (n := 37) (St.refl _ NoF) Tryz.func43 rfl rfl ?_
  by_cases hk1 : p.kind = 1
  · repeat'(first|(apply kB;(iterate 2 exact rfl);intro b1)|refine kv' ?_|apply jJ|refine jE' ?_|refine jp' ?_|(apply jc;kernel_rfl)|refine kg' ?_|refine kG' ?_|refine kB' fun _=>?_|refine kA' fun _=>?_|refine kK' fun _=>?_|refine kU' ?_|((first|refine kR' ?_ ?_|refine kQ' ?_ ?_);all_goals(intro hc;try simp only[hcs]at hc;try(exfalso;first|contradiction|omega))))
    (apply ret1c; (· exact rfl); (· exact inferInstance); (· exact rfl); (· (repeat (first | exact List.Mem.head _ | apply List.Mem.tail))); (· exact rfl); intro w' hS)
    refine ⟨?_, hS.toKeep⟩
    unfold keptP keptA
    rw [if_pos hk1, if_pos hk1]
    rfl
  by_cases hk2 : p.kind = 2
  · repeat'(first|(apply kB;(iterate 2 exact rfl);intro b1)|refine kv' ?_|apply jJ|refine jE' ?_|refine jp' ?_|(apply jc;kernel_rfl)|refine kg' ?_|refine kG' ?_|refine kB' fun _=>?_|refine kA' fun _=>?_|refine kK' fun _=>?_|refine kU' ?_|((first|refine kR' ?_ ?_|refine kQ' ?_ ?_);all_goals(intro hc;try simp only[hcs]at hc;try(exfalso;first|contradiction|omega))))
    (apply ret1c; (· exact rfl); (· exact inferInstance); (· exact rfl); (· (repeat (first | exact List.Mem.head _ | apply List.Mem.tail))); (· exact rfl); intro w' hS)
    refine ⟨?_, hS.toKeep⟩
    unfold keptP keptA
    rw [if_neg hk1, if_neg hk1, if_pos hk2, if_pos hk2]
    rfl
  by_cases hk3 : p.kind = 3
  · repeat'(first|(apply kB;(iterate 2 exact rfl);intro b1)|refine kv' ?_|apply jJ|refine jE' ?_|refine jp' ?_|(apply jc;kernel_rfl)|refine kg' ?_|refine kG' ?_|refine kB' fun _=>?_|refine kA' fun _=>?_|refine kK' fun _=>?_|refine kU' ?_|((first|refine kR' ?_ ?_|refine kQ' ?_ ?_);all_goals(intro hc;try simp only[hcs]at hc;try(exfalso;first|contradiction|omega))))
    (apply ret1c; (· exact rfl); (· exact inferInstance); (· exact rfl); (· (repeat (first | exact List.Mem.head _ | apply List.Mem.tail))); (· exact rfl); intro w' hS)
    refine ⟨?_, hS.toKeep⟩
    unfold keptP keptA
    rw [if_neg hk1, if_neg hk1, if_neg hk2, if_neg hk2, if_pos hk3, if_pos hk3]
    rfl
  by_cases hk4 : p.kind = 4
  · repeat'(first|(apply kB;(iterate 2 exact rfl);intro b1)|refine kv' ?_|apply jJ|refine jE' ?_|refine jp' ?_|(apply jc;kernel_rfl)|refine kg' ?_|refine kG' ?_|refine kB' fun _=>?_|refine kA' fun _=>?_|refine kK' fun _=>?_|refine kU' ?_|((first|refine kR' ?_ ?_|refine kQ' ?_ ?_);all_goals(intro hc;try simp only[hcs]at hc;try(exfalso;first|contradiction|omega))))
    (apply ret1c; (· exact rfl); (· exact inferInstance); (· exact rfl); (· (repeat (first | exact List.Mem.head _ | apply List.Mem.tail))); (· exact rfl); intro w' hS)
    refine ⟨?_, hS.toKeep⟩
    unfold keptP keptA
    rw [if_neg hk1, if_neg hk1, if_neg hk2, if_neg hk2, if_neg hk3, if_neg hk3, if_pos hk4, if_pos hk4]
    rfl
  by_cases hk5 : p.kind = 5
  · repeat'(first|(apply kB;(iterate 2 exact rfl);intro b1)|refine kv' ?_|apply jJ|refine jE' ?_|refine jp' ?_|(apply jc;kernel_rfl)|refine kg' ?_|refine kG' ?_|refine kB' fun _=>?_|refine kA' fun _=>?_|refine kK' fun _=>?_|refine kU' ?_|((first|refine kR' ?_ ?_|refine kQ' ?_ ?_);all_goals(intro hc;try simp only[hcs]at hc;try(exfalso;first|contradiction|omega))))
    (apply ret1c; (· exact rfl); (· exact inferInstance); (· exact rfl); (· (repeat (first | exact List.Mem.head _ | apply List.Mem.tail))); (· exact rfl); intro w' hS)
    refine ⟨?_, hS.toKeep⟩
    unfold keptP keptA
    rw [if_neg hk1, if_neg hk1, if_neg hk2, if_neg hk2, if_neg hk3, if_neg hk3, if_neg hk4, if_neg hk4, if_pos hk5]
    rfl
  · repeat'(first|(apply kB;(iterate 2 exact rfl);intro b1)|refine kv' ?_|apply jJ|refine jE' ?_|refine jp' ?_|(apply jc;kernel_rfl)|refine kg' ?_|refine kG' ?_|refine kB' fun _=>?_|refine kA' fun _=>?_|refine kK' fun _=>?_|refine kU' ?_|((first|refine kR' ?_ ?_|refine kQ' ?_ ?_);all_goals(intro hc;try simp only[hcs]at hc;try(exfalso;first|contradiction|omega))))
    (apply ret1c; (· exact rfl); (· exact inferInstance); (· exact rfl); (· (repeat (first | exact List.Mem.head _ | apply List.Mem.tail))); (· exact rfl); intro w' hS)
    refine ⟨?_, hS.toKeep⟩
    unfold keptP keptA
    rw [if_neg hk1, if_neg hk1, if_neg hk2, if_neg hk2, if_neg hk3, if_neg hk3, if_neg hk4, if_neg hk4, if_neg hk5]
    rfl
theorem kept_S {w : World} {p : Pkt} {A : PAd} (h : PktS w p A) : PktS w (keptP p) (keptA p A) := by
  have z : PktS w { zPkt with kind := p.kind, to := p.to } zA := ⟨Rd.nil _ _, Nat.zero_le _, Rd.nil _ _, Nat.zero_le _, Rd.nil _ _, Nat.zero_le _⟩
  unfold keptP keptA
  by_cases hk1 : p.kind = 1
  · rw [if_pos hk1, if_pos hk1]
    exact ⟨h.hd, h.hdm, z.ht, z.htm, z.hc, z.hcm⟩
  rw [if_neg hk1, if_neg hk1]
  by_cases hk2 : p.kind = 2
  · rw [if_pos hk2, if_pos hk2]
    exact ⟨z.hd, z.hdm, h.ht, h.htm, z.hc, z.hcm⟩
  rw [if_neg hk2, if_neg hk2]
  by_cases hk3 : p.kind = 3
  · rw [if_pos hk3, if_pos hk3]
    exact ⟨z.hd, z.hdm, z.ht, z.htm, z.hc, z.hcm⟩
  rw [if_neg hk3, if_neg hk3]
  by_cases hk4 : p.kind = 4
  · rw [if_pos hk4, if_pos hk4]
    exact ⟨z.hd, z.hdm, z.ht, z.htm, h.hc, h.hcm⟩
  rw [if_neg hk4, if_neg hk4]
  by_cases hk5 : p.kind = 5
  · rw [if_pos hk5]
    exact ⟨z.hd, z.hdm, z.ht, z.htm, z.hc, z.hcm⟩
  rw [if_neg hk5]
  exact z
/-- Which kinds' fields, but for the packet's own, are zero. -/
def keptB (p : Pkt) : Bool := (decide (p.kind = 1) || !dataS p.d) && (decide (p.kind = 2) || !tokS p.t) && (decide (p.kind = 3) || !joinS p) && (decide (p.kind = 4) || !comS p.c) && (decide (p.kind = 5) || !beaS p)
theorem sameD_z (d : Dat) : sameD d zeroDat = !dataS d := by
  rw [Bool.eq_iff_iff]
  simp [sameD, dataS, zeroDat, zeroMsg, sameB, and_assoc]
theorem sameT_z (t : Tkn) : sameT t zTkn = !tokS t := by
  rw [Bool.eq_iff_iff]
  simp only [sameT, Bool.and_eq_true, decide_eq_true_eq]
  simp [tokS, zTkn, and_assoc]
theorem sameC_z (x : Cmt) : sameC x zCmt = !comS x := by
  rw [Bool.eq_iff_iff]
  simp only [sameC, Bool.and_eq_true, decide_eq_true_eq]
  simp [comS, zCmt, and_assoc]
theorem sameT_self (t : Tkn) : sameT t t = true := by simp [sameT]
theorem sameC_self (x : Cmt) : sameC x x = true := by simp [sameC]
theorem same_kept (p : Pkt) : sameP p (keptP p) = keptB p := by
  have j0 : decide ([p.j1, p.j2, p.j3] = [zPkt.j1, zPkt.j2, zPkt.j3]) = !joinS p := by unfold joinS; rw [Bool.not_not]; rfl
  have b0 : decide ([p.b1, p.b2, p.b3] = [zPkt.b1, zPkt.b2, zPkt.b3]) = !beaS p := by unfold beaS; rw [Bool.not_not]; rfl
  have d0 : sameD p.d zPkt.d = !dataS p.d := sameD_z p.d
  have t0 : sameT p.t zPkt.t = !tokS p.t := sameT_z p.t
  have c0 : sameC p.c zPkt.c = !comS p.c := sameC_z p.c
  unfold keptP
  by_cases hk1 : p.kind = 1
  · rw [if_pos hk1]
    simp only [sameP, keptB, j0, b0, d0, t0, c0, sameD_self]
    simp [hk1]
  rw [if_neg hk1]
  by_cases hk2 : p.kind = 2
  · rw [if_pos hk2]
    simp only [sameP, keptB, j0, b0, d0, t0, c0, sameT_self]
    simp [hk2]
  rw [if_neg hk2]
  by_cases hk3 : p.kind = 3
  · rw [if_pos hk3]
    simp only [sameP, keptB, j0, b0, d0, t0, c0]
    simp [hk3]
  rw [if_neg hk3]
  by_cases hk4 : p.kind = 4
  · rw [if_pos hk4]
    simp only [sameP, keptB, j0, b0, d0, t0, c0, sameC_self]
    simp [hk4]
  rw [if_neg hk4]
  by_cases hk5 : p.kind = 5
  · rw [if_pos hk5]
    simp only [sameP, keptB, j0, b0, d0, t0, c0]
    simp [hk5]
  rw [if_neg hk5]
  simp only [sameP, keptB, j0, b0, d0, t0, c0]
  simp [hk1, hk2, hk3, hk4, hk5]
/-! ### Copy -/
theorem ent_flat_one (es : List Ent) : (es.flatMap Ent.cells).all Value.oneCell' = true := by
  rw [List.all_eq_true]
  intro v hv
  obtain ⟨e, _, he⟩ := List.mem_flatMap.1 hv
  simp only [Ent.cells, List.mem_cons, List.not_mem_nil, or_false] at he
  rcases he with rfl | rfl | rfl | rfl | rfl | rfl <;> rfl
theorem ent_flat_len (es : List Ent) : (es.flatMap Ent.cells).length = es.length * 6 := Go.Hb.rows_len Ent.cells_len es
theorem Rd.none_ents {w : World} {es : List Ent} (h : Rd w none (es.flatMap Ent.cells)) : es.length = 0 := by
  have h1 := congrArg List.length h.none_nil
  rw [ent_flat_len] at h1
  simp only [List.length_nil] at h1
  omega
theorem Rd.none_iv {w : World} {l : List Int} (h : Rd w none (iv l)) : l.length = 0 := by
  have h1 := congrArg List.length h.none_nil
  simpa using h1
/-- A packet whose lists are new. -/
def NewP (p : Pkt) (v : Value) (w w' : World) : Prop := ∃ A X, v = p.val A ∧ New1 X w w' ∧ X.dep ∧ X.excl = true ∧ ∀ w2, X.holds w2 → PktM w2 p A
set_option maxHeartbeats 8000000 in
theorem e6 (p : Pkt) (A : PAd) (w : World) (hR : PktR w p A) : CallsTo Tryz.prog 6 [p.val A] w fun v w' => NewP p v w w' := by
  refine go_in (n := 29) ((((St.refl w NoF).addRd hR.hc (fun _ _ h => h)).addRd hR.ht (fun _ _ h => h)).addRd hR.hd (fun _ _ h => h)) Tryz.func6 rfl rfl ?_
  repeat'(first|(apply kB;(iterate 2 exact rfl);intro b1)|refine kv' ?_|apply jJ|refine jE' ?_|refine jp' ?_|(apply jc;kernel_rfl)|refine kg' ?_|refine kG' ?_|refine kB' fun _=>?_|refine kA' fun _=>?_|refine kK' fun _=>?_|refine kU' ?_|(apply LR.call; (· exact rfl); (intro w1 h1; refine CallsTo.mono (show CallsTo Tryz.prog 23 [p.d.msg.val A.da A.dc] w1 _ from c14 p.d.msg A.da A.dc w1 (h1.rd_of (a := A.da) (xs := bv p.d.msg.body) (by (repeat (first | exact mH _ _ | apply mT)))) hR.hdz (by have := hR.hdm; omega)) ?_; rintro v w2 ⟨a1, c1, rfl, hn⟩; refine LR.back (h1.newSl hn) ?_; clear hn h1))|(apply LR.call; (· exact rfl); (intro w1 h1; refine CallsTo.mono (show CallsTo Tryz.prog 24 [.slice A.ta p.t.ask.length A.tc] w1 _ from t13 A.ta A.tc p.t.ask w1 (h1.rd_of (a := A.ta) (xs := iv p.t.ask) (by (repeat (first | exact mH _ _ | apply mT)))) hR.htz hR.htm) ?_; rintro v w2 ⟨a2, c2, rfl, hn⟩; refine LR.back (h1.newSl hn) ?_; clear hn h1))|((first|refine kR' ?_ ?_|refine kQ' ?_ ?_);all_goals(intro hc;try simp only[hcs]at hc;try(exfalso;first|contradiction|omega))))
  refine LR.append_nil (m := p.c.ents.length) (news := p.c.ents.flatMap Ent.cells) (ax := A.ca) (cx := A.cc) ?_ ?_ (fun w' hw' => hw'.rd_of (a := A.ca) (xs := p.c.ents.flatMap Ent.cells) (by (repeat (first | exact mH _ _ | apply mT)))) (fun hx => ⟨by have h2 := hR.hc; rw [hx] at h2; exact Rd.none_ents h2, hR.hcz hx⟩) (ent_flat_len _) (ent_flat_one _) (by have := hR.hcm; omega) (by have := hR.hcm; unfold maxLen; omega) (by rfl) ?_
  · rfl
  · rfl
  intro a3 c3
  repeat'(first|refine kv' ?_|apply jJ|refine jE' ?_|refine jp' ?_|(apply jc;kernel_rfl)|refine kg' ?_|refine kG' ?_|refine kB' fun _=>?_|refine kA' fun _=>?_|refine kK' fun _=>?_|refine kU' ?_|((first|refine kR' ?_ ?_|refine kQ' ?_ ?_);all_goals(intro hc;try simp only[hcs]at hc;try(exfalso;first|contradiction|omega))))
  (apply ret1c; (· exact rfl); (· exact inferInstance); (· exact rfl); (· (repeat (first | exact List.Mem.head _ | apply List.Mem.tail))); (· exact rfl); intro w' hS)
  refine ⟨⟨a1, c1, a2, c2, a3, c3⟩, both (osl (.slice a1 p.d.msg.body.length c1) 5 1 p.d.msg.body.length (bv p.d.msg.body)) (both (osl (.slice a2 p.t.ask.length c2) 3 1 p.t.ask.length (iv p.t.ask)) (osl (.slice a3 p.c.ents.length c3) 77 6 p.c.ents.length (p.c.ents.flatMap Ent.cells))), rfl, ?_, both_dep (osl.dep _ _ _ _ _) (both_dep (osl.dep _ _ _ _ _) (osl.dep _ _ _ _ _)), rfl, ?_⟩
  · have h1 : St w NoF [osl (.slice a2 p.t.ask.length c2) 3 1 p.t.ask.length (iv p.t.ask), osl (.slice a3 p.c.ents.length c3) 77 6 p.c.ents.length (p.c.ents.flatMap Ent.cells), osl (.slice a1 p.d.msg.body.length c1) 5 1 p.d.msg.body.length (bv p.d.msg.body)] w' := front (hS.sub (L' := [osl (.slice a3 p.c.ents.length c3) 77 6 p.c.ents.length (p.c.ents.flatMap Ent.cells), osl (.slice a2 p.t.ask.length c2) 3 1 p.t.ask.length (iv p.t.ask), osl (.slice a1 p.d.msg.body.length c1) 5 1 p.d.msg.body.length (bv p.d.msg.body)]) (by (repeat (first | exact List.Sublist.refl _ | apply List.Sublist.cons_cons | apply List.Sublist.cons)))) 1 rfl rfl
    exact (St.join (St.swap (St.join h1 rfl rfl)) rfl rfl).new1 rfl
  · intro w2 h2
    exact ⟨ownsRow_rd h2.1, fun e => (ownsRow_some h2.1 e).2, ownsRow_rd h2.2.1.1, fun e => (ownsRow_some h2.2.1.1 e).2, ownsRow_rd h2.2.1.2.1, fun e => (ownsRow_some h2.2.1.2.1 e).2⟩
end Go.Proofs.YtkolmkdbjagfcaaGreat

namespace Go.Proofs.YtkolmkdbjagfcaaGreat
open Go.Hb
attribute [local irreducible] LR CW At Ev thn blk finK noG again CallsTo DW QL dnext TW DP
set_option linter.unusedSimpArgs false
set_option linter.unusedVariables false
set_option maxRecDepth 100000

theorem tokHead_iff (t : Tkn) : tokHead t = true ↔ (liveR t.r1 t.r2 = true ∧ 1 ≤ t.hop ∧ numB t.hop = true ∧ numB t.seq = true ∧ 0 ≤ t.aru ∧ t.aru ≤ t.seq ∧ 0 ≤ t.low ∧ t.low ≤ 8 ∧ numB t.stamp = true ∧ numB t.idle = true ∧ (t.ask.length : Int) ≤ 16) := by
  unfold tokHead numB
  simp only [Bool.and_eq_true, List.all_cons, List.all_nil, and_true, Bool.not_eq_true', decide_eq_false_iff_not, decide_eq_true_eq]
  constructor
  · rintro ⟨⟨⟨⟨⟨h1, h2⟩, h3, h4, h5, h6, h7⟩, h8⟩, h9⟩, h10⟩
    exact ⟨h1, by omega, h3, h4, by omega, by omega, by omega, by omega, h6, h7, by omega⟩
  · rintro ⟨h1, h2, h3, h4, h5, h6, h7, h8, h9, h10, h11⟩
    exact ⟨⟨⟨⟨⟨h1, by omega⟩, h3, h4, by omega, h9, h10⟩, by omega⟩, by omega⟩, by omega⟩
set_option maxHeartbeats 8000000 in
theorem e48 (t : Tkn) (a : Option Addr) (c : Nat) (w : World) (hr : Rd w a (iv t.ask)) : CallsTo Tryz.prog 48 [t.val a c] w fun v w' => v = .bool (mayT t) ∧ Grew w w' := by
  refine go_in (n := 106) (St.rd1 hr) Tryz.func48 rfl rfl ?_
  cases hth : tokHead t
  · repeat'(first|(apply kB;(iterate 2 exact rfl);intro b1)|refine kv' ?_|apply jJ|refine jE' ?_|refine jp' ?_|(apply jc;kernel_rfl)|refine kg' ?_|refine kG' ?_|refine kB' fun _=>?_|refine kA' fun _=>?_|refine kK' fun _=>?_|refine kU' ?_|(apply kq; (· exact rfl); (· intro w1 h1; first | exact CallsTo.q (e44 t.r1 t.r2 w1) h1 | exact CallsTo.q (e45 _ w1) h1))|((first|refine kR' ?_ ?_|refine kQ' ?_ ?_);all_goals(intro hc;try simp only[hcs]at hc;try(exfalso;first|contradiction|omega))))
    all_goals try (exfalso; rw [(tokHead_iff t).2 ⟨by assumption, by assumption, by assumption, by assumption, by assumption, by assumption, by assumption, by assumption, by assumption, by assumption, by assumption⟩] at hth; cases hth)
    all_goals (
      (apply ret1; (· exact rfl); intro w' hS)
      refine ⟨congrArg Value.bool ?_, hS.toKeep⟩
      unfold mayT
      rw [hth]
      rfl)
  · have hseq : 0 ≤ t.seq ∧ t.seq ≤ 9007199254740991 := by
      unfold tokHead at hth
      simp only [Bool.and_eq_true, List.all_cons] at hth
      have := hth.1.1.1.2.2.1
      unfold numB at this
      simpa using this
    have hlen : t.ask.length ≤ 16 := by
      unfold tokHead at hth
      simp only [Bool.and_eq_true, Bool.not_eq_true', decide_eq_false_iff_not] at hth
      omega
    have hmt : mayT t = askOk t.seq 0 t.ask := by unfold mayT; rw [hth]; rfl
    obtain ⟨g1, g2, g3, g4, g5, g6, g7, g8, g9, g10, g11⟩ := (tokHead_iff t).1 hth
    rw [hmt]
    repeat'(first|(apply kB;(iterate 2 exact rfl);intro b1)|refine kv' ?_|apply jJ|refine jE' ?_|refine jp' ?_|(apply jc;kernel_rfl)|refine kg' ?_|refine kG' ?_|refine kB' fun _=>?_|refine kA' fun _=>?_|refine kK' fun _=>?_|refine kU' ?_|(apply kq; (· exact rfl); (· intro w1 h1; first | exact CallsTo.q (e44 t.r1 t.r2 w1) h1 | exact CallsTo.q (e45 _ w1) h1))|((first|refine kR' ?_ ?_|refine kQ' ?_ ?_);all_goals(intro hc;try simp only[hcs]at hc;try(exfalso;first|contradiction|omega))))
    all_goals try (exfalso; first | omega | (simp only [g1, g3, g4, g9, g10] at *; contradiction) | (simp_all; done))
    have hgd : ∀ i, i < t.ask.length → t.ask.getD i 0 = t.ask[i]! := fun i hi => by simp [List.getD_eq_getElem?_getD, hi]
    apply CW.loop [2, 3, 65, 66, 67, 68, 69, 70, 71, 72, 73, 74, 75, 76, 77, 78, 79, 80, 81, 82, 83, 84, 85, 86, 87, 88, 89, 90, 91, 92, 93, 94, 95, 96, 97, 98, 99, 100, 101, 102, 103, 104, 105] (fun i : Nat => i ≤ t.ask.length ∧ (0 < i → 1 ≤ t.ask.getD (i - 1) 0 ∧ t.ask.getD (i - 1) 0 ≤ t.seq) ∧ askOk t.seq 0 t.ask = askOk t.seq (if i = 0 then 0 else t.ask.getD (i - 1) 0) (t.ask.drop i)) (fun i => [(3, Value.int .i64 (i : Int))])
      (fun _ => St w NoF [.own b1 (.cells (t.cells a c).toArray 33 (0, 0)), rdA a (iv t.ask)]) (fun i => t.ask.length - i)
    · intro w' hw'
      exact ⟨0, ⟨by simp, fun h => absurd h (by omega), by simp⟩, ⟨rfl, trivial⟩, hw'.sub (by (repeat (first | exact List.Sublist.refl _ | apply List.Sublist.cons_cons | apply List.Sublist.cons)))⟩
    intro i g1 ⟨hi, hbd, heq⟩
    by_cases hlt : i < t.ask.length
    · obtain ⟨bg, og, rfl⟩ := hr.form (fun e => by have h2 := congrArg List.length e; simp only [iv_length, List.length_nil] at h2; omega)
      rw [List.drop_eq_getElem_cons hlt, askOk_cons] at heq
      have hnx : t.ask.getD (i + 1 - 1) 0 = t.ask[i] := by
        rw [Nat.add_sub_cancel, List.getD_eq_getElem?_getD, List.getElem?_eq_getElem hlt]
        rfl
      obtain ⟨x, hx⟩ : ∃ x, t.ask[i] = x := ⟨_, rfl⟩
      have hvx : (iv t.ask)[(i : Int).toNat * 1]? = some (.int .i64 x) := by rw [← hx]; exact iv_at (by omega) hlt
      rw [hx] at heq hnx
      by_cases h0 : i = 0
      · rw [if_pos h0] at heq
        subst h0
        repeat'(first|(apply CW.reg_heldC)|refine kv' ?_|apply jJ|refine jE' ?_|refine jp' ?_|(apply jc;kernel_rfl)|refine kg' ?_|refine kG' ?_|refine kB' fun _=>?_|refine kA' fun _=>?_|refine kK' fun _=>?_|refine kU' ?_|((first|refine kR' ?_ ?_|refine kQ' ?_ ?_);all_goals(intro hc;try simp only[hcs]at hc;try(exfalso;first|contradiction|omega))))
        all_goals (
          apply DW.quiet [0, 1, 2, 3, 4, 5, 6, 7, 8, 9, 10, 11, 12, 13, 14, 15, 16, 17, 18, 19, 20, 21, 22, 23, 24, 25, 26, 27, 28, 29, 30, 31, 32, 33]
          · decide +kernel
          · first | exact fun _ h => h | exact fun _ h => St.sub h (by repeat (first | exact List.Sublist.refl _ | apply List.Sublist.cons_cons | apply List.Sublist.cons))
          repeat'(first|refine yv' ?_|(apply QL.ev; (· exact rfl); (· first | (apply Ev.indexAddr; (· exact rfl); (· exact rfl); (· omega); (· omega)) | (apply Ev.load_rd; (· exact rfl); (· (repeat (first | exact mH _ _ | apply mT))); (· exact hvx))); (· exact rfl))|(apply QL.evg; (· exact rfl); (· exact rfl); (· exact rfl); (· first | (apply Ev.indexAddr; (· exact rfl); (· exact rfl); (· omega); (· omega)) | (apply Ev.load_rd; (· exact rfl); (· (repeat (first | exact mH _ _ | apply mT))); (· exact hvx))); (· exact rfl))|refine uv' ?_|refine un' ?_|(refine us' ?_ ?_;all_goals(intro hc;try simp only[hcs]at hc;try(exfalso;first|contradiction|omega)))|apply QL.nil)
          all_goals (show DW _ _ _ _ _ _ _ _))
        all_goals (first | (apply DW.done_thn; (· decide +kernel)) | (apply DW.done; (· decide +kernel)))
        repeat'(first|refine kv' ?_|apply jJ|refine jE' ?_|refine jp' ?_|(apply jc;kernel_rfl)|refine kg' ?_|refine kG' ?_|refine kB' fun _=>?_|refine kA' fun _=>?_|refine kK' fun _=>?_|refine kU' ?_|(apply addX;(iterate 2 exact rfl);(iterate 2(first|omega|(dsimp only;omega)));exact rfl)|((first|refine kR' ?_ ?_|refine kQ' ?_ ?_);all_goals(intro hc;try simp only[hcs]at hc;try(exfalso;first|contradiction|omega))))
        all_goals try (
          (apply ret1; (· exact rfl); intro w' hS)
          refine ⟨congrArg Value.bool ?_, hS.toKeep⟩
          rw [heq, decide_eq_false (by omega)]
          rfl)
        rw [decide_eq_true (by omega), Bool.true_and] at heq
        refine At.again (0 + 1) ⟨by omega, fun _ => by rw [hnx]; omega, by rw [if_neg (by omega), hnx]; exact heq⟩ ?_ ⟨rfl, trivial⟩ (fun w' hw' => hw') (by omega)
        (repeat (first | exact Out.refl _ _ | exact Out.mix | (apply Out.upd; (· exact rfl)) | (apply Out.updL; (· exact rfl)) | (apply Out.mixs; (· exact rfl))))
      · rw [if_neg h0] at heq
        have hb2 := hbd (by omega)
        obtain ⟨y, hy⟩ : ∃ y, t.ask.getD (i - 1) 0 = y := ⟨_, rfl⟩
        rw [hy] at heq hb2
        have hvy : (iv t.ask)[((i : Int) - 1).toNat * 1]? = some (.int .i64 y) := by
          rw [← hy, show ((i : Int) - 1).toNat * 1 = i - 1 by omega, iv_get (by omega), List.getD_eq_getElem?_getD, List.getElem?_eq_getElem (by omega)]
          rfl
        repeat'(first|(apply CW.reg_heldC)|refine kv' ?_|apply jJ|refine jE' ?_|refine jp' ?_|(apply jc;kernel_rfl)|refine kg' ?_|refine kG' ?_|refine kB' fun _=>?_|refine kA' fun _=>?_|refine kK' fun _=>?_|refine kU' ?_|((first|refine kR' ?_ ?_|refine kQ' ?_ ?_);all_goals(intro hc;try simp only[hcs]at hc;try(exfalso;first|contradiction|omega))))
        all_goals (
          apply DW.quiet [0, 1, 2, 3, 4, 5, 6, 7, 8, 9, 10, 11, 12, 13, 14, 15, 16, 17, 18, 19, 20, 21, 22, 23, 24, 25, 26, 27, 28, 29, 30, 31, 32, 33]
          · decide +kernel
          · first | exact fun _ h => h | exact fun _ h => St.sub h (by repeat (first | exact List.Sublist.refl _ | apply List.Sublist.cons_cons | apply List.Sublist.cons))
          repeat'(first|refine yv' ?_|(apply QL.ev; (· exact rfl); (· first | (apply Ev.indexAddr; (· exact rfl); (· exact rfl); (· omega); (· omega)) | (apply Ev.load_rd; (· exact rfl); (· (repeat (first | exact mH _ _ | apply mT))); (· first | exact hvx | exact hvy)) | (apply Ev.sub; (· exact rfl); (· exact rfl); (· omega); (· omega))); (· exact rfl))|(apply QL.evg; (· exact rfl); (· exact rfl); (· exact rfl); (· first | (apply Ev.indexAddr; (· exact rfl); (· exact rfl); (· omega); (· omega)) | (apply Ev.load_rd; (· exact rfl); (· (repeat (first | exact mH _ _ | apply mT))); (· first | exact hvx | exact hvy)) | (apply Ev.sub; (· exact rfl); (· exact rfl); (· omega); (· omega))); (· exact rfl))|refine uv' ?_|refine un' ?_|(refine us' ?_ ?_;all_goals(intro hc;try simp only[hcs]at hc;try(exfalso;first|contradiction|omega)))|apply QL.nil)
          all_goals (show DW _ _ _ _ _ _ _ _))
        all_goals (first | (apply DW.done_thn; (· decide +kernel)) | (apply DW.done; (· decide +kernel)))
        repeat'(first|refine kv' ?_|apply jJ|refine jE' ?_|refine jp' ?_|(apply jc;kernel_rfl)|refine kg' ?_|refine kG' ?_|refine kB' fun _=>?_|refine kA' fun _=>?_|refine kK' fun _=>?_|refine kU' ?_|(apply addX;(iterate 2 exact rfl);(iterate 2(first|omega|(dsimp only;omega)));exact rfl)|((first|refine kR' ?_ ?_|refine kQ' ?_ ?_);all_goals(intro hc;try simp only[hcs]at hc;try(exfalso;first|contradiction|omega))))
        all_goals try (
          (apply ret1; (· exact rfl); intro w' hS)
          refine ⟨congrArg Value.bool ?_, hS.toKeep⟩
          rw [heq, decide_eq_false (by omega)]
          rfl)
        rw [decide_eq_true (by omega), Bool.true_and] at heq
        refine At.again (i + 1) ⟨by omega, fun _ => by rw [hnx]; omega, by rw [if_neg (by omega), hnx]; exact heq⟩ ?_ ⟨rfl, trivial⟩ (fun w' hw' => hw') (by omega)
        (repeat (first | exact Out.refl _ _ | exact Out.mix | (apply Out.upd; (· exact rfl)) | (apply Out.updL; (· exact rfl)) | (apply Out.mixs; (· exact rfl))))
    · have hie : i = t.ask.length := by omega
      subst hie
      rw [List.drop_length] at heq
      repeat'(first|refine kv' ?_|apply jJ|refine jE' ?_|refine jp' ?_|(apply jc;kernel_rfl)|refine kg' ?_|refine kG' ?_|refine kB' fun _=>?_|refine kA' fun _=>?_|refine kK' fun _=>?_|refine kU' ?_|((first|refine kR' ?_ ?_|refine kQ' ?_ ?_);all_goals(intro hc;try simp only[hcs]at hc;try(exfalso;first|contradiction|omega))))
      (apply ret1; (· exact rfl); intro w' hS)
      exact ⟨congrArg Value.bool heq.symm, hS.toKeep⟩
theorem entOk_iff (e : Ent) (n : Int) : entOk e n = true ↔ (e.node = n ∧ liveR e.o1 e.o2 = true ∧ 0 ≤ e.aru ∧ e.aru ≤ e.high ∧ numB e.high = true ∧ numB e.clock = true) := by
  unfold entOk numB
  simp only [Bool.and_eq_true, List.all_cons, List.all_nil, and_true, decide_eq_true_eq]
  constructor
  · rintro ⟨⟨⟨h1, h2⟩, h3, h4, h5⟩, h6⟩
    exact ⟨h1, h2, by omega, h6, h4, h5⟩
  · rintro ⟨h1, h2, h3, h4, h5, h6⟩
    exact ⟨⟨⟨h1, h2⟩, by omega, h5, h6⟩, h4⟩
set_option maxHeartbeats 8000000 in
theorem e51 (x : Cmt) (to : Int) (a : Option Addr) (c : Nat) (w : World) (hr : Rd w a (x.ents.flatMap Ent.cells)) :
    CallsTo Tryz.prog 51 [x.val a c, .int .i64 to] w fun v w' => v = .bool (mayCm x to) ∧ Grew w w' := by
  refine go_in (n := 118) (St.rd1 hr) Tryz.func51 rfl rfl ?_
  cases hh : comHead x
  · have hmt : mayCm x to = false := by unfold mayCm; rw [hh]; rfl
    rw [hmt]
    repeat'(first|(apply kB;(iterate 2 exact rfl);intro b1)|refine kv' ?_|apply jJ|refine jE' ?_|refine jp' ?_|(apply jc;kernel_rfl)|refine kg' ?_|refine kG' ?_|refine kB' fun _=>?_|refine kA' fun _=>?_|refine kK' fun _=>?_|refine kU' ?_|(apply kq; (· exact rfl); (· intro w1 h1; first | exact CallsTo.q (q83 x.mem w1) h1 | exact CallsTo.q (e44 x.r1 x.r2 w1) h1))|((first|refine kR' ?_ ?_|refine kQ' ?_ ?_);all_goals(intro hc;try simp only[hcs]at hc;try(exfalso;first|contradiction|omega))))
    all_goals try (exfalso; unfold comHead at hh; simp_all; done)
    all_goals (
      (apply ret1; (· exact rfl); intro w' hS)
      exact ⟨rfl, hS.toKeep⟩)
  · have hh' := hh
    unfold comHead at hh'
    simp only [Bool.and_eq_true, Bool.not_eq_true', decide_eq_false_iff_not] at hh'
    obtain ⟨⟨hck, hm0⟩, hlv⟩ := hh'
    have hlp := crewL_pos hck hm0
    have hl8 : (crewL x.mem).length ≤ 8 := crewTo_len x.mem 8
    have hq61 : (if crewOk x.mem = true then (0 : Int) else 2) = 0 := by rw [if_pos hck]
    have hmt : mayCm x to = (comMid x to (crewL x.mem) && entsOk x.ents (crewL x.mem)) := by unfold mayCm; rw [hh]; rfl
    rw [hmt]
    repeat'(first|(apply kB;(iterate 2 exact rfl);intro b1)|refine kv' ?_|apply jJ|refine jE' ?_|refine jp' ?_|(apply jc;kernel_rfl)|refine kg' ?_|refine kG' ?_|refine kB' fun _=>?_|refine kA' fun _=>?_|refine kK' fun _=>?_|refine kU' ?_|(apply kq; (· exact rfl); (· intro w1 h1; first | (have hq := CallsTo.q (q83 x.mem w1) h1; rw [hq61] at hq; exact hq) | (have hq := CallsTo.q (e44 x.r1 x.r2 w1) h1; rw [hlv] at hq; exact hq)))|((first|refine kR' ?_ ?_|refine kQ' ?_ ?_);all_goals(intro hc;try simp only[hcs]at hc;try(exfalso;first|contradiction|omega))))
    apply LR.call
    · exact rfl
    intro w1 h1
    refine (q109 x.mem w1).mono ?_
    rintro v w2 ⟨a2, c2, rfl, hn⟩
    obtain ⟨l, hl⟩ : ∃ l, crewL x.mem = l := ⟨_, rfl⟩
    rw [hl] at hn hlp hl8 ⊢
    obtain ⟨bg, og, rfl⟩ := (ownsRow_rd (ownsRow_zero hn.own)).form (fun e => by have h2 := congrArg List.length e; simp only [iv_length, List.length_nil] at h2; omega)
    refine LR.back (h1.newSl hn) ?_
    clear hn h1
    have hl0 : (iv l)[(0 : Int).toNat * 1]? = some (.int .i64 (l.getD 0 0)) := by
      rw [show (0 : Int).toNat * 1 = 0 from rfl, iv_get hlp, List.getD_eq_getElem?_getD, List.getElem?_eq_getElem hlp]
      rfl
    have htm : 1 ≤ x.hop → 0 ≤ x.hop.tmod (l.length : Int) ∧ x.hop.tmod (l.length : Int) < (l.length : Int) := fun h => ⟨Int.tmod_nonneg _ (by omega), (tmod_bdP x.hop l.length (by omega)).2⟩
    have hlk : 1 ≤ x.hop → (iv l)[(x.hop.tmod (l.length : Int)).toNat * 1]? = some (.int .i64 (l.getD (x.hop.tmod (l.length : Int)).toNat 0)) := fun h => by
      have h2 := htm h
      rw [Nat.mul_one, iv_get (by omega), List.getD_eq_getElem?_getD, List.getElem?_eq_getElem (by omega)]
      rfl
    repeat'(first|(apply CW.reg_heldC)|refine kv' ?_|apply jJ|refine jE' ?_|refine jp' ?_|(apply jc;kernel_rfl)|refine kg' ?_|refine kG' ?_|refine kB' fun _=>?_|refine kA' fun _=>?_|refine kK' fun _=>?_|refine kU' ?_|((first|refine kR' ?_ ?_|refine kQ' ?_ ?_);all_goals(intro hc;try simp only[hcs]at hc;try(exfalso;first|contradiction|omega))))
    all_goals (
      apply DW.quiet [0, 1, 2, 3, 4, 5, 6, 7, 8, 9, 10, 11, 12, 13, 14, 15, 16, 17, 18, 19, 20, 21, 22, 23, 24, 25, 26, 27, 28, 29, 30, 31, 32, 33, 34, 35, 36, 37, 38, 39]
      · decide +kernel
      · first | exact fun _ h => h | exact fun _ h => St.sub h (by repeat (first | exact List.Sublist.refl _ | apply List.Sublist.cons_cons | apply List.Sublist.cons))
      repeat'(first|refine yv' ?_|(apply QL.ev; (· exact rfl); (· first | (apply Ev.indexAddr; (· exact rfl); (· exact rfl); (· omega); (· omega)) | (apply Ev.load_osl; (· exact rfl); (· (repeat (first | exact mH _ _ | apply mT))); (· first | exact hl0 | exact hlk (by omega))) | (apply Ev.rem; (· exact rfl); (· exact rfl); (· omega)) | (apply Ev.mul; (· exact rfl); (· exact rfl); (· omega); (· omega)) | (exact Ev.min2 rfl rfl)); (· exact rfl))|(apply QL.evg; (· exact rfl); (· exact rfl); (· exact rfl); (· first | (apply Ev.indexAddr; (· exact rfl); (· exact rfl); (· have := htm (by omega); omega); (· have := htm (by omega); omega)) | (apply Ev.load_osl; (· exact rfl); (· (repeat (first | exact mH _ _ | apply mT))); (· first | exact hl0 | exact hlk (by omega))) | (apply Ev.rem; (· exact rfl); (· exact rfl); (· omega)) | (apply Ev.mul; (· exact rfl); (· exact rfl); (· omega); (· omega)) | (exact Ev.min2 rfl rfl)); (· exact rfl))|refine uv' ?_|refine un' ?_|(refine us' ?_ ?_;all_goals(intro hc;try simp only[hcs]at hc;try(exfalso;first|contradiction|omega)))|apply QL.nil)
      all_goals (show DW _ _ _ _ _ _ _ _))
    all_goals (first | (apply DW.done_thn; (· decide +kernel)) | (apply DW.done; (· decide +kernel)))
    repeat'(first|refine kv' ?_|apply jJ|refine jE' ?_|refine jp' ?_|(apply jc;kernel_rfl)|refine kg' ?_|refine kG' ?_|refine kB' fun _=>?_|refine kA' fun _=>?_|refine kK' fun _=>?_|refine kU' ?_|((first|refine kR' ?_ ?_|refine kQ' ?_ ?_);all_goals(intro hc;try simp only[hcs]at hc;try(exfalso;first|contradiction|omega))))
    all_goals try (
      (apply ret1; (· exact rfl); intro w' hS)
      refine ⟨congrArg Value.bool ?_, hS.toKeep⟩
      cases hcm : comMid x to l
      · rfl
      · exfalso
        unfold comMid minE at hcm
        simp only [Bool.and_eq_true, decide_eq_true_eq] at hcm
        obtain ⟨⟨⟨g1, g2⟩, g3⟩, g4⟩ := hcm
        first | exact absurd g1 (by assumption) | (exfalso; omega) | exact absurd g3 (by assumption) | exact absurd g4 (by assumption))
    have hcm : comMid x to l = true := by
      unfold comMid minE
      simp only [Bool.and_eq_true, decide_eq_true_eq]
      exact ⟨⟨⟨by assumption, by omega⟩, by assumption⟩, by assumption⟩
    have hel : x.ents.length ≤ l.length ∧ x.ents.length ≤ 1000 := by
      unfold comMid minE at hcm
      simp only [Bool.and_eq_true, decide_eq_true_eq] at hcm
      have := hcm.1.2
      split at this <;> omega
    rw [hcm, Bool.true_and]
    apply CW.loop [4, 7, 8, 69, 70, 71, 72, 73, 74, 75, 76, 77, 78, 79, 80, 81, 82, 83, 84, 85, 86, 87, 88, 89, 90, 91, 92, 93, 94, 95, 96, 97, 98, 99, 100, 101, 102, 103, 104, 105, 106, 107, 108, 109, 110, 111, 112, 113, 114, 115, 116, 117] (fun i : Nat => i ≤ x.ents.length ∧ entsOk x.ents l = entsOk (x.ents.drop i) (l.drop i)) (fun i => [(7, Value.int .i64 (i : Int))])
      (fun _ => St w NoF [osl (.slice (some ⟨bg, og, none⟩) l.length c2) 3 1 l.length (iv l), .own b1 (.cells (x.cells a c).toArray 38 (0, 0)), rdA a (x.ents.flatMap Ent.cells)]) (fun i => x.ents.length - i)
    · intro w' hw'
      exact ⟨0, ⟨by simp, by simp⟩, ⟨rfl, trivial⟩, hw'.sub (by (repeat (first | exact List.Sublist.refl _ | apply List.Sublist.cons_cons | apply List.Sublist.cons)))⟩
    intro i g1 ⟨hi, heq⟩
    by_cases hlt : i < x.ents.length
    · have hil : i < l.length := by omega
      obtain ⟨be, oe, rfl⟩ := hr.form (rows_ne Ent.cells_len (by omega) hlt)
      rw [List.drop_eq_getElem_cons hlt, List.drop_eq_getElem_cons hil, entsOk_cons] at heq
      obtain ⟨e, he⟩ : ∃ e, x.ents[i] = e := ⟨_, rfl⟩
      have hcl : ∀ w', Rd w' (some ⟨be, oe, none⟩) (x.ents.flatMap Ent.cells) → ∀ j v, e.cells[j]? = some v → w'.cell? ((⟨be, oe + (i : Int).toNat * 6, none⟩ : Addr).add j) = some v := fun w' h => by
        rw [← he]
        exact rd_row Ent.cells_len h hlt (by omega)
      rw [he] at heq
      have hnv : (iv l)[(i : Int).toNat * 1]? = some (.int .i64 l[i]) := iv_at (by omega) hil
      obtain ⟨n, hn⟩ : ∃ n, l[i] = n := ⟨_, rfl⟩
      rw [hn] at hnv heq
      repeat'(first|(apply CW.reg_heldC)|refine kv' ?_|apply jJ|refine jE' ?_|refine jp' ?_|(apply jc;kernel_rfl)|refine kg' ?_|refine kG' ?_|refine kB' fun _=>?_|refine kA' fun _=>?_|refine kK' fun _=>?_|refine kU' ?_|(apply idxX;(iterate 2 exact rfl);(iterate 2(first|omega|(dsimp only;omega)));exact rfl)|(apply LR.ev; (· apply Ev.load_agg_at (cs := e.cells); (· exact rfl); (· exact rfl); (· intro w' hw'; exact hcl w' (hw'.rd_of (by (repeat (first | exact mH _ _ | apply mT)))))); (· exact rfl))|((first|refine kR' ?_ ?_|refine kQ' ?_ ?_);all_goals(intro hc;try simp only[hcs]at hc;try(exfalso;first|contradiction|omega))))
      all_goals (
        apply DW.quiet [0, 1, 2, 3, 4, 5, 6, 7, 8, 9]
        · decide +kernel
        · first | exact fun _ h => h | exact fun _ h => St.sub h (by repeat (first | exact List.Sublist.refl _ | apply List.Sublist.cons_cons | apply List.Sublist.cons))
        repeat'(first|refine yv' ?_|(apply QL.ev; (· exact rfl); (· first | (apply Ev.indexAddr; (· exact rfl); (· exact rfl); (· omega); (· omega)) | (apply Ev.load_osl; (· exact rfl); (· (repeat (first | exact mH _ _ | apply mT))); (· exact hnv))); (· exact rfl))|refine uv' ?_|refine un' ?_|(refine us' ?_ ?_;all_goals(intro hc;try simp only[hcs]at hc;try(exfalso;first|contradiction|omega)))|apply QL.nil)
        all_goals (show DW _ _ _ _ _ _ _ _))
      all_goals (
        apply DW.loud 10
        · exact rfl
        · decide +kernel
        repeat'(first|refine kg' ?_|refine kG' ?_|apply kM|refine kv' ?_|refine kK' fun _=>?_|refine kU' ?_|refine kB' fun _=>?_|refine kA' fun _=>?_|(apply kq; (· exact rfl); (· intro w1 h1; first | exact CallsTo.q (e44 e.o1 e.o2 w1) h1 | exact CallsTo.q (e45 _ w1) h1)))
        all_goals (refine At.stage_same (fun _ h => St.sub h (by repeat (first | exact List.Sublist.refl _ | apply List.Sublist.cons_cons | apply List.Sublist.cons))) ?_))
      all_goals (
        apply DW.quiet [11, 12, 13, 14, 15, 16, 17, 18, 19, 20, 21, 22, 23, 24, 25, 26, 27]
        · decide +kernel
        · first | exact fun _ h => h | exact fun _ h => St.sub h (by repeat (first | exact List.Sublist.refl _ | apply List.Sublist.cons_cons | apply List.Sublist.cons))
        repeat'(first|refine yv' ?_|(apply QL.ev; (· exact rfl); (· first | (apply Ev.indexAddr; (· exact rfl); (· exact rfl); (· omega); (· omega)) | (apply Ev.load_osl; (· exact rfl); (· (repeat (first | exact mH _ _ | apply mT))); (· exact hnv))); (· exact rfl))|refine uv' ?_|refine un' ?_|(refine us' ?_ ?_;all_goals(intro hc;try simp only[hcs]at hc;try(exfalso;first|contradiction|omega)))|apply QL.nil)
        all_goals (show DW _ _ _ _ _ _ _ _))
      all_goals (
        apply DW.loud 28
        · exact rfl
        · decide +kernel
        repeat'(first|refine kg' ?_|refine kG' ?_|apply kM|refine kv' ?_|refine kK' fun _=>?_|refine kU' ?_|refine kB' fun _=>?_|refine kA' fun _=>?_|(apply kq; (· exact rfl); (· intro w1 h1; first | exact CallsTo.q (e44 e.o1 e.o2 w1) h1 | exact CallsTo.q (e45 _ w1) h1)))
        all_goals (refine At.stage_same (fun _ h => St.sub h (by repeat (first | exact List.Sublist.refl _ | apply List.Sublist.cons_cons | apply List.Sublist.cons))) ?_))
      all_goals (
        apply DW.quiet [29, 30, 31, 32, 33]
        · decide +kernel
        · first | exact fun _ h => h | exact fun _ h => St.sub h (by repeat (first | exact List.Sublist.refl _ | apply List.Sublist.cons_cons | apply List.Sublist.cons))
        repeat'(first|refine yv' ?_|(apply QL.ev; (· exact rfl); (· first | (apply Ev.indexAddr; (· exact rfl); (· exact rfl); (· omega); (· omega)) | (apply Ev.load_osl; (· exact rfl); (· (repeat (first | exact mH _ _ | apply mT))); (· exact hnv))); (· exact rfl))|refine uv' ?_|refine un' ?_|(refine us' ?_ ?_;all_goals(intro hc;try simp only[hcs]at hc;try(exfalso;first|contradiction|omega)))|apply QL.nil)
        all_goals (show DW _ _ _ _ _ _ _ _))
      all_goals (
        apply DW.loud 34
        · exact rfl
        · decide +kernel
        repeat'(first|refine kg' ?_|refine kG' ?_|apply kM|refine kv' ?_|refine kK' fun _=>?_|refine kU' ?_|refine kB' fun _=>?_|refine kA' fun _=>?_|(apply kq; (· exact rfl); (· intro w1 h1; first | exact CallsTo.q (e44 e.o1 e.o2 w1) h1 | exact CallsTo.q (e45 _ w1) h1)))
        all_goals (refine At.stage_same (fun _ h => St.sub h (by repeat (first | exact List.Sublist.refl _ | apply List.Sublist.cons_cons | apply List.Sublist.cons))) ?_))
      all_goals (
        apply DW.quiet [35, 36]
        · decide +kernel
        · first | exact fun _ h => h | exact fun _ h => St.sub h (by repeat (first | exact List.Sublist.refl _ | apply List.Sublist.cons_cons | apply List.Sublist.cons))
        repeat'(first|refine yv' ?_|(apply QL.ev; (· exact rfl); (· first | (apply Ev.indexAddr; (· exact rfl); (· exact rfl); (· omega); (· omega)) | (apply Ev.load_osl; (· exact rfl); (· (repeat (first | exact mH _ _ | apply mT))); (· exact hnv))); (· exact rfl))|refine uv' ?_|refine un' ?_|(refine us' ?_ ?_;all_goals(intro hc;try simp only[hcs]at hc;try(exfalso;first|contradiction|omega)))|apply QL.nil)
        all_goals (show DW _ _ _ _ _ _ _ _))
      all_goals (first | (apply DW.done_thn; (· decide +kernel)) | (apply DW.done; (· decide +kernel)))
      repeat'(first|refine kv' ?_|apply jJ|refine jE' ?_|refine jp' ?_|(apply jc;kernel_rfl)|refine kg' ?_|refine kG' ?_|refine kB' fun _=>?_|refine kA' fun _=>?_|refine kK' fun _=>?_|refine kU' ?_|(apply addX;(iterate 2 exact rfl);(iterate 2(first|omega|(dsimp only;omega)));exact rfl)|((first|refine kR' ?_ ?_|refine kQ' ?_ ?_);all_goals(intro hc;try simp only[hcs]at hc;try(exfalso;first|contradiction|omega))))
      all_goals try (
        (apply ret1; (· exact rfl); intro w' hS)
        refine ⟨congrArg Value.bool ?_, hS.toKeep⟩
        rw [heq]
        cases hen : entOk e n
        · rfl
        · exfalso
          obtain ⟨y1, y2, y3, y4, y5, y6⟩ := (entOk_iff e n).1 hen
          first | contradiction | omega | (rw [hc] at y2; cases y2) | (rw [hc] at y5; cases y5) | (rw [hc] at y6; cases y6))
      have hen : entOk e n = true := (entOk_iff e n).2 ⟨by assumption, by assumption, by assumption, by assumption, by assumption, by assumption⟩
      rw [hen, Bool.true_and] at heq
      refine At.again (i + 1) ⟨by omega, heq⟩ ?_ ⟨rfl, trivial⟩ (fun w' hw' => hw'.sub (by (repeat (first | exact List.Sublist.refl _ | apply List.Sublist.cons_cons | apply List.Sublist.cons)))) (by omega)
      (repeat (first | exact Out.refl _ _ | exact Out.mix | (apply Out.upd; (· exact rfl)) | (apply Out.updL; (· exact rfl)) | (apply Out.mixs; (· exact rfl))))
    · have hie : i = x.ents.length := by omega
      subst hie
      rw [List.drop_length] at heq
      repeat'(first|refine kv' ?_|apply jJ|refine jE' ?_|refine jp' ?_|(apply jc;kernel_rfl)|refine kg' ?_|refine kG' ?_|refine kB' fun _=>?_|refine kA' fun _=>?_|refine kK' fun _=>?_|refine kU' ?_|((first|refine kR' ?_ ?_|refine kQ' ?_ ?_);all_goals(intro hc;try simp only[hcs]at hc;try(exfalso;first|contradiction|omega))))
      (apply ret1; (· exact rfl); intro w' hS)
      exact ⟨congrArg Value.bool heq.symm, hS.toKeep⟩
end Go.Proofs.YtkolmkdbjagfcaaGreat

namespace Go.Proofs.YtkolmkdbjagfcaaGreat
open Go.Hb
attribute [local irreducible] LR CW At Ev thn blk finK noG again CallsTo DW QL dnext TW DP
set_option linter.unusedSimpArgs false
set_option linter.unusedVariables false
set_option maxRecDepth 100000

theorem ne_two {a b : Int} (h : 1 ≤ a) : ¬ [a, b] = [0, 0] := fun e => by simp only [List.cons.injEq] at e; omega
theorem own_shape {p : Pkt} (h : mayP p = true) : (p.kind = 1 → dataS p.d = true) ∧ (p.kind = 2 → tokS p.t = true) ∧ (p.kind = 3 → joinS p = true) ∧ (p.kind = 4 → comS p.c = true) ∧ (p.kind = 5 → beaS p = true) := by
  unfold mayP at h
  refine ⟨fun k => ?_, fun k => ?_, fun k => ?_, fun k => ?_, fun k => ?_⟩
  · rw [if_pos k] at h
    unfold mayD at h
    simp only [Bool.and_eq_true] at h
    have h1 := (live_ok h.2.1.1.1.1).2.2.1
    unfold dataS
    rw [decide_eq_false (ne_two h1)]
    simp
  · rw [if_neg (by omega), if_pos k] at h
    unfold mayT tokHead at h
    simp only [Bool.and_eq_true] at h
    have h1 := (live_ok h.2.1.1.1.1.1.1).2.2.1
    unfold tokS
    rw [decide_eq_false (ne_two h1)]
    simp
  · rw [if_neg (by omega), if_neg (by omega), if_pos k] at h
    simp only [Bool.and_eq_true] at h
    have h1 := (node_ok h.1.1.1.2).1
    unfold joinS
    have h2 : ¬ [p.j1, p.j2, p.j3] = [0, 0, 0] := fun e => by simp only [List.cons.injEq] at e; omega
    rw [decide_eq_false h2]
    rfl
  · rw [if_neg (by omega), if_neg (by omega), if_neg (by omega), if_pos k] at h
    unfold mayCm comHead at h
    simp only [Bool.and_eq_true] at h
    have h1 := (live_ok h.1.1.2).2.2.1
    unfold comS
    rw [decide_eq_false (ne_two h1)]
    simp
  · rw [if_neg (by omega), if_neg (by omega), if_neg (by omega), if_neg (by omega), if_pos k] at h
    simp only [Bool.and_eq_true] at h
    have h1 := (live_ok h.1.2).2.2.1
    unfold beaS
    have h2 : ¬ [p.b1, p.b2, p.b3] = [0, 0, 0] := fun e => by simp only [List.cons.injEq] at e; omega
    rw [decide_eq_false h2]
    rfl
theorem chk_kept (p : Pkt) : chkP p = (mayP p && keptB p) := by
  unfold chkP
  cases hm : mayP p
  · rfl
  rw [Bool.true_and, Bool.true_and]
  obtain ⟨h1, h2, h3, h4, h5⟩ := own_shape hm
  rw [Bool.eq_iff_iff]
  rcases may_kinds hm with h | h | h | h | h
  · simp [shapeB, wantK, keptB, h, h1 h, and_assoc]
  · simp [shapeB, wantK, keptB, h, h2 h, and_assoc]
  · simp [shapeB, wantK, keptB, h, h3 h, and_assoc]
  · simp [shapeB, wantK, keptB, h, h4 h, and_assoc]
  · simp [shapeB, wantK, keptB, h, h5 h, and_assoc]
theorem kept_yes {p : Pkt} (h : keptB p = true) (hm : mayP p = true) : (0 : Int) = if chkP p then 0 else 2 := by rw [chk_kept, h, hm]; rfl
theorem kept_no {p : Pkt} (hm : mayP p = false) : (2 : Int) = if chkP p then 0 else 2 := by rw [chk_kept, hm]; rfl
theorem kept_no2 {p : Pkt} (h : keptB p = false) : (2 : Int) = if chkP p then 0 else 2 := by rw [chk_kept, h, Bool.and_false]; rfl
theorem may1_iff {p : Pkt} (k : p.kind = 1) : mayP p = true ↔ (p.to = 0 ∧ liveR p.d.rseq p.d.rrep = true ∧ 1 ≤ p.d.seq ∧ numB p.d.seq = true ∧ nodeB p.d.sender = true ∧ numB p.d.stamp = true ∧ check p.d.msg = 0) := by
  unfold mayP
  rw [if_pos k]
  unfold mayD
  simp only [Bool.and_eq_true, List.all_cons, List.all_nil, and_true, decide_eq_true_eq]
  constructor
  · rintro ⟨h1, ⟨⟨⟨h2, h3⟩, h4, h5⟩, h6⟩, h7⟩
    exact ⟨h1, h2, by omega, h4, h6, h5, h7⟩
  · rintro ⟨h1, h2, h3, h4, h5, h6, h7⟩
    exact ⟨h1, ⟨⟨⟨h2, by omega⟩, h4, h6⟩, h5⟩, h7⟩
set_option maxHeartbeats 16000000 in
theorem e10 (p : Pkt) (A : PAd) (w : World) (hR : PktR w p A) : CallsTo Tryz.prog 10 [p.val A] w fun v w' => v = .int .i64 (if chkP p then 0 else 2) ∧ Grew w w' := by
  refine go_in (n := 117) (St.refl _ NoF) Tryz.func10 rfl rfl ?_
  cases hkb : keptB p
  · repeat'(first|(apply kB;(iterate 2 exact rfl);intro b1)|(apply CW.reg_heldC)|refine kv' ?_|apply jJ|refine jE' ?_|refine jp' ?_|(apply jc;kernel_rfl)|refine kg' ?_|refine kG' ?_|refine kB' fun _=>?_|refine kA' fun _=>?_|refine kK' fun _=>?_|refine kU' ?_|((first|refine kR' ?_ ?_|refine kQ' ?_ ?_);all_goals(intro hc;try simp only[hcs]at hc;try(exfalso;first|contradiction|omega))))
    all_goals (
      apply DW.quiet [0, 1]
      · decide +kernel
      · first | exact fun _ h => h | exact fun _ h => St.sub h (by repeat (first | exact List.Sublist.refl _ | apply List.Sublist.cons_cons | apply List.Sublist.cons))
      repeat'(first|refine yv' ?_|refine uv' ?_|refine un' ?_|(refine us' ?_ ?_;all_goals(intro hc;try simp only[hcs]at hc;try(exfalso;first|contradiction|omega)))|apply QL.nil)
      all_goals (show DW _ _ _ _ _ _ _ _))
    all_goals (
      apply DW.loud 2
      · exact rfl
      · decide +kernel
      repeat'(first|refine kg' ?_|refine kG' ?_|apply kM|refine kv' ?_|refine kK' fun _=>?_|refine kU' ?_|refine kB' fun _=>?_|refine kA' fun _=>?_|(apply kq; (· exact rfl); (· intro w1 h1; first | exact CallsTo.q (e43 p A w1) h1 | (have hq := CallsTo.q (e12 p (keptP p) A (keptA p A) w1 (hR.old h1).toS (kept_S (hR.old h1).toS)) h1; rw [same_kept, hkb] at hq; exact hq))))
      all_goals (refine At.stage_same (fun _ h => St.sub h (by repeat (first | exact List.Sublist.refl _ | apply List.Sublist.cons_cons | apply List.Sublist.cons))) ?_))
    all_goals (
      apply DW.loud 3
      · exact rfl
      · decide +kernel
      repeat'(first|refine kg' ?_|refine kG' ?_|apply kM|refine kv' ?_|refine kK' fun _=>?_|refine kU' ?_|refine kB' fun _=>?_|refine kA' fun _=>?_|(apply kq; (· exact rfl); (· intro w1 h1; first | exact CallsTo.q (e43 p A w1) h1 | (have hq := CallsTo.q (e12 p (keptP p) A (keptA p A) w1 (hR.old h1).toS (kept_S (hR.old h1).toS)) h1; rw [same_kept, hkb] at hq; exact hq))))
      all_goals (refine At.stage_same (fun _ h => St.sub h (by repeat (first | exact List.Sublist.refl _ | apply List.Sublist.cons_cons | apply List.Sublist.cons))) ?_))
    all_goals (
      apply DW.quiet [4]
      · decide +kernel
      · first | exact fun _ h => h | exact fun _ h => St.sub h (by repeat (first | exact List.Sublist.refl _ | apply List.Sublist.cons_cons | apply List.Sublist.cons))
      repeat'(first|refine yv' ?_|refine uv' ?_|refine un' ?_|(refine us' ?_ ?_;all_goals(intro hc;try simp only[hcs]at hc;try(exfalso;first|contradiction|omega)))|apply QL.nil)
      all_goals (show DW _ _ _ _ _ _ _ _))
    all_goals (first | (apply DW.done_thn; (· decide +kernel)) | (apply DW.done; (· decide +kernel)))
    repeat'(first|refine kv' ?_|apply jJ|refine jE' ?_|refine jp' ?_|(apply jc;kernel_rfl)|refine kg' ?_|refine kG' ?_|refine kB' fun _=>?_|refine kA' fun _=>?_|refine kK' fun _=>?_|refine kU' ?_|((first|refine kR' ?_ ?_|refine kQ' ?_ ?_);all_goals(intro hc;try simp only[hcs]at hc;try(exfalso;first|contradiction|omega))))
    (apply ret1; (· exact rfl); intro w' hS)
    exact ⟨congrArg (Value.int .i64) (kept_no2 hkb), hS.toKeep⟩
  repeat'(first|(apply kB;(iterate 2 exact rfl);intro b1)|(apply CW.reg_heldC)|refine kv' ?_|apply jJ|refine jE' ?_|refine jp' ?_|(apply jc;kernel_rfl)|refine kg' ?_|refine kG' ?_|refine kB' fun _=>?_|refine kA' fun _=>?_|refine kK' fun _=>?_|refine kU' ?_|((first|refine kR' ?_ ?_|refine kQ' ?_ ?_);all_goals(intro hc;try simp only[hcs]at hc;try(exfalso;first|contradiction|omega))))
  all_goals (
    apply DW.quiet [0, 1]
    · decide +kernel
    · first | exact fun _ h => h | exact fun _ h => St.sub h (by repeat (first | exact List.Sublist.refl _ | apply List.Sublist.cons_cons | apply List.Sublist.cons))
    repeat'(first|refine yv' ?_|refine uv' ?_|refine un' ?_|(refine us' ?_ ?_;all_goals(intro hc;try simp only[hcs]at hc;try(exfalso;first|contradiction|omega)))|apply QL.nil)
    all_goals (show DW _ _ _ _ _ _ _ _))
  all_goals (
    apply DW.loud 2
    · exact rfl
    · decide +kernel
    repeat'(first|refine kg' ?_|refine kG' ?_|apply kM|refine kv' ?_|refine kK' fun _=>?_|refine kU' ?_|refine kB' fun _=>?_|refine kA' fun _=>?_|(apply kq; (· exact rfl); (· intro w1 h1; first | exact CallsTo.q (e43 p A w1) h1 | (have hq := CallsTo.q (e12 p (keptP p) A (keptA p A) w1 (hR.old h1).toS (kept_S (hR.old h1).toS)) h1; rw [same_kept, hkb] at hq; exact hq))))
    all_goals (refine At.stage_same (fun _ h => St.sub h (by repeat (first | exact List.Sublist.refl _ | apply List.Sublist.cons_cons | apply List.Sublist.cons))) ?_))
  all_goals (
    apply DW.loud 3
    · exact rfl
    · decide +kernel
    repeat'(first|refine kg' ?_|refine kG' ?_|apply kM|refine kv' ?_|refine kK' fun _=>?_|refine kU' ?_|refine kB' fun _=>?_|refine kA' fun _=>?_|(apply kq; (· exact rfl); (· intro w1 h1; first | exact CallsTo.q (e43 p A w1) h1 | (have hq := CallsTo.q (e12 p (keptP p) A (keptA p A) w1 (hR.old h1).toS (kept_S (hR.old h1).toS)) h1; rw [same_kept, hkb] at hq; exact hq))))
    all_goals (refine At.stage_same (fun _ h => St.sub h (by repeat (first | exact List.Sublist.refl _ | apply List.Sublist.cons_cons | apply List.Sublist.cons))) ?_))
  all_goals (
    apply DW.quiet [4]
    · decide +kernel
    · first | exact fun _ h => h | exact fun _ h => St.sub h (by repeat (first | exact List.Sublist.refl _ | apply List.Sublist.cons_cons | apply List.Sublist.cons))
    repeat'(first|refine yv' ?_|refine uv' ?_|refine un' ?_|(refine us' ?_ ?_;all_goals(intro hc;try simp only[hcs]at hc;try(exfalso;first|contradiction|omega)))|apply QL.nil)
    all_goals (show DW _ _ _ _ _ _ _ _))
  all_goals (first | (apply DW.done_thn; (· decide +kernel)) | (apply DW.done; (· decide +kernel)))
  by_cases hk1 : p.kind = 1
  · have hm : mayP p = (decide (p.to = 0) && mayD p.d) := by
      unfold mayP
      rw [if_pos hk1]
    repeat'(first|refine kv' ?_|apply jJ|refine jE' ?_|refine jp' ?_|(apply jc;kernel_rfl)|refine kg' ?_|refine kG' ?_|refine kB' fun _=>?_|refine kA' fun _=>?_|refine kK' fun _=>?_|refine kU' ?_|(apply kq; (· exact rfl); (· intro w1 h1; first | exact CallsTo.q (e44 p.d.rseq p.d.rrep w1) h1 | exact CallsTo.q (e45 _ w1) h1 | exact CallsTo.q (e46 _ w1) h1 | exact CallsTo.q (show CallsTo Tryz.prog 47 [p.d.msg.val A.da A.dc] w1 _ from d18 p.d.msg A.da A.dc w1 (hR.old h1).hd hR.hdz (by have := hR.hdm; omega) hR.hdb) h1))|((first|refine kR' ?_ ?_|refine kQ' ?_ ?_);all_goals(intro hc;try simp only[hcs]at hc;try(exfalso;first|contradiction|omega))))
    all_goals (
      (apply ret1; (· exact rfl); intro w' hS)
      refine ⟨congrArg (Value.int .i64) ?_, hS.toKeep⟩
      first
        | (refine kept_no ?_; cases hx : mayP p; (· rfl); exfalso; obtain ⟨y1, y2, y3, y4, y5, y6, y7⟩ := (may1_iff hk1).1 hx; first | contradiction | omega | (rw [hc] at y2; cases y2) | (rw [hc] at y4; cases y4) | (rw [hc] at y5; cases y5) | (rw [hc] at y6; cases y6))
        | (refine kept_yes hkb ((may1_iff hk1).2 ⟨by assumption, by assumption, by assumption, by assumption, by assumption, by assumption, by assumption⟩)))
  by_cases hk2 : p.kind = 2
  · have hm : mayP p = (nodeB p.to && mayT p.t) := by
      unfold mayP
      rw [if_neg hk1, if_pos hk2]
    repeat'(first|refine kv' ?_|apply jJ|refine jE' ?_|refine jp' ?_|(apply jc;kernel_rfl)|refine kg' ?_|refine kG' ?_|refine kB' fun _=>?_|refine kA' fun _=>?_|refine kK' fun _=>?_|refine kU' ?_|(apply kq; (· exact rfl); (· intro w1 h1; first | exact CallsTo.q (e46 _ w1) h1 | exact CallsTo.q (show CallsTo Tryz.prog 48 [p.t.val A.ta A.tc] w1 _ from e48 p.t A.ta A.tc w1 (hR.old h1).ht) h1))|((first|refine kR' ?_ ?_|refine kQ' ?_ ?_);all_goals(intro hc;try simp only[hcs]at hc;try(exfalso;first|contradiction|omega))))
    all_goals (
      (apply ret1; (· exact rfl); intro w' hS)
      refine ⟨congrArg (Value.int .i64) ?_, hS.toKeep⟩
      first
        | (refine kept_no ?_; rw [hm]; simp_all; done)
        | (refine kept_yes hkb ?_; rw [hm]; simp_all; done))
  by_cases hk3 : p.kind = 3
  · have hm : mayP p = (decide (p.to = 0) && nodeB p.j1 && crewOk p.j2 && hasC p.j2 p.j1 && [p.j3].all numB) := by
      unfold mayP
      rw [if_neg hk1, if_neg hk2, if_pos hk3]
    repeat'(first|refine kv' ?_|apply jJ|refine jE' ?_|refine jp' ?_|(apply jc;kernel_rfl)|refine kg' ?_|refine kG' ?_|refine kB' fun _=>?_|refine kA' fun _=>?_|refine kK' fun _=>?_|refine kU' ?_|(apply kq; (· exact rfl); (· intro w1 h1; first | exact CallsTo.q (e46 _ w1) h1 | exact CallsTo.q (q83 p.j2 w1) h1 | exact CallsTo.q (q50 p.j2 p.j1 w1) h1 | exact CallsTo.q (e45 _ w1) h1))|((first|refine kR' ?_ ?_|refine kQ' ?_ ?_);all_goals(intro hc;try simp only[hcs]at hc;try(exfalso;first|contradiction|omega))))
    all_goals (
      (apply ret1; (· exact rfl); intro w' hS)
      refine ⟨congrArg (Value.int .i64) ?_, hS.toKeep⟩
      first
        | (refine kept_no ?_; rw [hm]; simp_all; done)
        | (refine kept_yes hkb ?_; rw [hm]; simp_all; done))
  by_cases hk4 : p.kind = 4
  · have hm : mayP p = mayCm p.c p.to := by
      unfold mayP
      rw [if_neg hk1, if_neg hk2, if_neg hk3, if_pos hk4]
    repeat'(first|refine kv' ?_|apply jJ|refine jE' ?_|refine jp' ?_|(apply jc;kernel_rfl)|refine kg' ?_|refine kG' ?_|refine kB' fun _=>?_|refine kA' fun _=>?_|refine kK' fun _=>?_|refine kU' ?_|(apply kq; (· exact rfl); (· intro w1 h1; exact CallsTo.q (show CallsTo Tryz.prog 51 [p.c.val A.ca A.cc, .int .i64 p.to] w1 _ from e51 p.c p.to A.ca A.cc w1 (hR.old h1).hc) h1))|((first|refine kR' ?_ ?_|refine kQ' ?_ ?_);all_goals(intro hc;try simp only[hcs]at hc;try(exfalso;first|contradiction|omega))))
    all_goals (
      (apply ret1; (· exact rfl); intro w' hS)
      refine ⟨congrArg (Value.int .i64) ?_, hS.toKeep⟩
      first
        | (refine kept_no ?_; rw [hm]; simp_all; done)
        | (refine kept_yes hkb ?_; rw [hm]; simp_all; done))
  by_cases hk5 : p.kind = 5
  · have hm : mayP p = (decide (p.to = 0) && liveR p.b1 p.b2 && nodeB p.b3) := by
      unfold mayP
      rw [if_neg hk1, if_neg hk2, if_neg hk3, if_neg hk4, if_pos hk5]
    repeat'(first|refine kv' ?_|apply jJ|refine jE' ?_|refine jp' ?_|(apply jc;kernel_rfl)|refine kg' ?_|refine kG' ?_|refine kB' fun _=>?_|refine kA' fun _=>?_|refine kK' fun _=>?_|refine kU' ?_|(apply kq; (· exact rfl); (· intro w1 h1; first | exact CallsTo.q (e44 p.b1 p.b2 w1) h1 | exact CallsTo.q (e46 _ w1) h1))|((first|refine kR' ?_ ?_|refine kQ' ?_ ?_);all_goals(intro hc;try simp only[hcs]at hc;try(exfalso;first|contradiction|omega))))
    all_goals (
      (apply ret1; (· exact rfl); intro w' hS)
      refine ⟨congrArg (Value.int .i64) ?_, hS.toKeep⟩
      first
        | (refine kept_no ?_; clear hkb hk1 hk2 hk3 hk4 hk5; rw [hm]; clear hm; simp_all; done)
        | (refine kept_no ?_; rw [hm]; simp [*]; done)
        | (refine kept_yes hkb ?_; rw [hm]; simp_all; done))
  · have hm : mayP p = false := by
      unfold mayP
      rw [if_neg hk1, if_neg hk2, if_neg hk3, if_neg hk4, if_neg hk5]
    repeat'(first|refine kv' ?_|apply jJ|refine jE' ?_|refine jp' ?_|(apply jc;kernel_rfl)|refine kg' ?_|refine kG' ?_|refine kB' fun _=>?_|refine kA' fun _=>?_|refine kK' fun _=>?_|refine kU' ?_|((first|refine kR' ?_ ?_|refine kQ' ?_ ?_);all_goals(intro hc;try simp only[hcs]at hc;try(exfalso;first|contradiction|omega))))
    all_goals (
      (apply ret1; (· exact rfl); intro w' hS)
      exact ⟨congrArg (Value.int .i64) (kept_no hm), hS.toKeep⟩)
end Go.Proofs.YtkolmkdbjagfcaaGreat

namespace Go.Proofs.YtkolmkdbjagfcaaGreat
open Go.Hb
attribute [local irreducible] LR CW At Ev thn blk finK noG again CallsTo DW QL dnext TW DP
set_option linter.unusedSimpArgs false
set_option linter.unusedVariables false
set_option maxRecDepth 100000

theorem u32_byte {x : Int} (h0 : 0 ≤ x) (h1 : x < 256) : IntKind.u32.wrap x = U32 (B32 x) := by
  obtain ⟨n, rfl⟩ : ∃ n : Nat, x = (n : Int) := ⟨x.toNat, by omega⟩
  rw [wrap_u32 (by omega)]
  show (n : Int) = ((BitVec.ofInt 32 (n : Int)).toNat : Int)
  rw [BitVec.toNat_ofInt]
  omega
theorem low_mod (X : BitVec 32) : (U32 X).tmod 2 = if X.getLsbD 0 then 1 else 0 := by
  have h : X.getLsbD 0 = decide (X.toNat % 2 = 1) := by
    rw [BitVec.getLsbD_eq_getElem (by omega)]
    simp [BitVec.getElem_eq_testBit_toNat, Nat.testBit_zero]
  rw [h]
  show ((X.toNat : Int)).tmod 2 = _
  rw [Int.tmod_eq_emod_of_nonneg (by omega)]
  by_cases hx : X.toNat % 2 = 1
  · rw [decide_eq_true hx]; simp; omega
  · rw [decide_eq_false hx]; simp; omega
section
variable {P : Program} {C : World → Prop} {f : Frm} {T T' T'' : TypeId} {x y : Operand}
theorem Ev.remU {X : BitVec 32} {b : Bool} (hb : X.getLsbD 0 = b) (hx : f.ev x = .int .u32 (U32 X)) (hy : f.ev y = .int .u32 2) : Ev P C f (.binOp .rem T' x y T'') T (.int .u32 (if b then 1 else 0)) := by
  rw [← hb, ← low_mod]
  exact Ev.rem hx hy (by decide)
theorem Ev.convU {b : Int} [hi : ToInt P T' T'' .u32] (h0 : 0 ≤ b) (h1 : b < 256) (hx : f.ev x = .int .u8 b) : Ev P C f (.convert T' T'' x) T (.int .u32 (U32 (B32 b))) := by
  rw [← u32_byte h0 h1]
  exact Ev.conv hx
end
set_option maxHeartbeats 4000000 in
theorem e85 (a : Option Addr) (c : Nat) (l : List Int) (w : World) (hr : Rd w a (bv l)) (hb : Byt l) (hm : l.length ≤ 140737488355328) :
    CallsTo Tryz.prog 85 [.slice a l.length c] w fun v w' => v = .int .u32 (U32 (crcL l)) ∧ Grew w w' := by
  refine go_in (n := 33) (St.rd1 hr) Tryz.func85 rfl rfl ?_
  repeat'(first|refine kv' ?_|apply jJ|refine jE' ?_|refine jp' ?_|(apply jc;kernel_rfl)|refine kg' ?_|refine kG' ?_|refine kB' fun _=>?_|refine kA' fun _=>?_|refine kK' fun _=>?_|refine kU' ?_|((first|refine kR' ?_ ?_|refine kQ' ?_ ?_);all_goals(intro hc;try simp only[hcs]at hc;try(exfalso;first|contradiction|omega))))
  apply CW.loop [3, 4, 5, 6, 7, 8, 9, 10, 11, 12, 13, 14, 15, 16, 17, 18, 19, 20, 21, 22, 23, 24, 25, 26, 27, 28, 29, 30] (fun i : Nat => i ≤ l.length) (fun i => [(4, Value.int .i64 (i : Int)), (3, Value.int .u32 (U32 (crcF 0xFFFFFFFF#32 (l.take i))))])
    (fun _ => St w NoF [rdA a (bv l)]) (fun i => l.length - i)
  · intro w' hw'
    exact ⟨0, by simp, ⟨rfl, rfl, trivial⟩, hw'⟩
  intro i g1 hi
  by_cases hlt : i < l.length
  · obtain ⟨bg, og, rfl⟩ := hr.form (fun e => by have h2 := congrArg List.length e; simp only [bv, List.length_map, List.length_nil] at h2; omega)
    have hcb := hb l[i] (List.getElem_mem hlt)
    have hsucc : crcF 0xFFFFFFFF#32 (l.take (i + 1)) = crcS (crcF 0xFFFFFFFF#32 (l.take i)) l[i] := by
      rw [List.take_add_one, List.getElem?_eq_getElem hlt, crcF_app]
      rfl
    obtain ⟨X, hX⟩ : ∃ X, crcF 0xFFFFFFFF#32 (l.take i) = X := ⟨_, rfl⟩
    rw [hX] at hsucc ⊢
    obtain ⟨x, hx⟩ : ∃ x, l[i] = x := ⟨_, rfl⟩
    rw [hx] at hsucc hcb
    have hcell : (bv l)[(i : Int).toNat * 1]? = some (.int .u8 x) := by rw [← hx]; exact bv_at (by omega) hlt
    repeat'(first|(apply LR.ev; (· first | exact Ev.convU hcb.1 hcb.2 rfl | exact Ev.xorU (X := X) (Y := B32 x) rfl rfl); (· exact rfl))|refine kv' ?_|apply jJ|refine jE' ?_|refine jp' ?_|(apply jc;kernel_rfl)|refine kg' ?_|refine kG' ?_|refine kB' fun _=>?_|refine kA' fun _=>?_|refine kK' fun _=>?_|refine kU' ?_|(apply idxX;(iterate 2 exact rfl);(iterate 2(first|omega|(dsimp only;omega)));exact rfl)|(apply LR.ev; (· apply Ev.load_rd; (· exact rfl); (· repeat (first | exact mH _ _ | apply mT)); (· exact hcell)); (· exact rfl))|((first|refine kR' ?_ ?_|refine kQ' ?_ ?_);all_goals(intro hc;try simp only[hcs]at hc;try(exfalso;first|contradiction|omega))))
    apply CW.loop [3, 5, 19, 20, 21, 22, 23, 24, 25, 26, 27, 28, 29, 30] (fun s : Nat × BitVec 32 => s.1 ≤ 8 ∧ crcN (8 - s.1) s.2 = crcS X x) (fun s => [(5, Value.int .i64 (s.1 : Int)), (3, Value.int .u32 (U32 s.2))])
      (fun s => St w NoF [rdA (some ⟨bg, og, none⟩) (bv l)]) (fun s => 8 - s.1)
    · intro w' hw'
      exact ⟨(0, X ^^^ B32 x), ⟨by simp, rfl⟩, ⟨rfl, rfl, trivial⟩, hw'⟩
    rintro ⟨k, Y⟩ g2 ⟨hk, hY⟩
    simp only at hk hY ⊢
    by_cases hlk : k < 8
    · have h8 : crcN (8 - k) Y = crcN (8 - (k + 1)) (crcB Y) := by rw [show 8 - k = (8 - (k + 1)) + 1 by omega]; rfl
      have hlm := low_mod Y
      cases hl : Y.getLsbD 0
      · have hB : crcB Y = Y >>> 1 := by unfold crcB; rw [hl]; rfl
        rw [hl] at hlm
        replace hlm : (U32 Y).tmod 2 = 0 := hlm
        repeat'(first|(apply LR.ev; (· first | exact Ev.remU hl rfl rfl | exact Ev.shrU (X := Y) (j := 1) rfl rfl rfl (by omega)); (· exact rfl))|refine kv' ?_|apply jJ|refine jE' ?_|refine jp' ?_|(apply jc;kernel_rfl)|refine kg' ?_|refine kG' ?_|refine kB' fun _=>?_|refine kA' fun _=>?_|refine kK' fun _=>?_|refine kU' ?_|(apply addX;(iterate 2 exact rfl);(iterate 2(first|omega|(dsimp only;omega)));exact rfl)|((first|refine kR' ?_ ?_|refine kQ' ?_ ?_);all_goals(intro hc;try simp only[hcs]at hc;try(exfalso;first|contradiction|omega))))
        refine At.again (k + 1, Y >>> 1) ⟨by show k + 1 ≤ 8; omega, by rw [← hY, h8, hB]⟩ ?_ ⟨rfl, rfl, trivial⟩ (fun w' hw' => hw') (by show 8 - (k + 1) < 8 - k; omega)
        (repeat (first | exact Out.refl _ _ | exact Out.mix | (apply Out.upd; (· exact rfl)) | (apply Out.updL; (· exact rfl)) | (apply Out.mixs; (· exact rfl))))
      · have hB : crcB Y = (Y >>> 1) ^^^ polC := by unfold crcB; rw [hl]; rfl
        rw [hl] at hlm
        replace hlm : (U32 Y).tmod 2 = 1 := hlm
        repeat'(first|(apply LR.ev; (· first | exact Ev.remU hl rfl rfl | exact Ev.shrU (X := Y) (j := 1) rfl rfl rfl (by omega) | exact Ev.xorU (X := Y >>> 1) (Y := polC) rfl rfl); (· exact rfl))|refine kv' ?_|apply jJ|refine jE' ?_|refine jp' ?_|(apply jc;kernel_rfl)|refine kg' ?_|refine kG' ?_|refine kB' fun _=>?_|refine kA' fun _=>?_|refine kK' fun _=>?_|refine kU' ?_|(apply addX;(iterate 2 exact rfl);(iterate 2(first|omega|(dsimp only;omega)));exact rfl)|((first|refine kR' ?_ ?_|refine kQ' ?_ ?_);all_goals(intro hc;try simp only[hcs]at hc;try(exfalso;first|contradiction|omega))))
        refine At.again (k + 1, (Y >>> 1) ^^^ polC) ⟨by show k + 1 ≤ 8; omega, by rw [← hY, h8, hB]⟩ ?_ ⟨rfl, rfl, trivial⟩ (fun w' hw' => hw') (by show 8 - (k + 1) < 8 - k; omega)
        (repeat (first | exact Out.refl _ _ | exact Out.mix | (apply Out.upd; (· exact rfl)) | (apply Out.updL; (· exact rfl)) | (apply Out.mixs; (· exact rfl))))
    · have hk8 : k = 8 := by omega
      subst hk8
      have hYe : Y = crcS X x := hY
      subst hYe
      repeat'(first|refine kv' ?_|apply jJ|refine jE' ?_|refine jp' ?_|(apply jc;kernel_rfl)|refine kg' ?_|refine kG' ?_|refine kB' fun _=>?_|refine kA' fun _=>?_|refine kK' fun _=>?_|refine kU' ?_|(apply addX;(iterate 2 exact rfl);(iterate 2(first|omega|(dsimp only;omega)));exact rfl)|((first|refine kR' ?_ ?_|refine kQ' ?_ ?_);all_goals(intro hc;try simp only[hcs]at hc;try(exfalso;first|contradiction|omega))))
      refine At.again (i + 1) (by omega) ?_ ⟨rfl, ?_, trivial⟩ (fun w' hw' => hw') (by omega)
      · (repeat (first | exact Out.refl _ _ | exact Out.mix | (apply Out.upd; (· exact rfl)) | (apply Out.updL; (· exact rfl)) | (apply Out.mixs; (· exact rfl))))
      · rw [hsucc]
        rfl
  · have hie : i = l.length := by omega
    subst hie
    rw [List.take_length]
    repeat'(first|(apply LR.ev; (· exact Ev.notU (X := crcF 0xFFFFFFFF#32 l) rfl); (· exact rfl))|refine kv' ?_|apply jJ|refine jE' ?_|refine jp' ?_|(apply jc;kernel_rfl)|refine kg' ?_|refine kG' ?_|refine kB' fun _=>?_|refine kA' fun _=>?_|refine kK' fun _=>?_|refine kU' ?_|((first|refine kR' ?_ ?_|refine kQ' ?_ ?_);all_goals(intro hc;try simp only[hcs]at hc;try(exfalso;first|contradiction|omega))))
    (apply ret1; (· exact rfl); intro w' hS)
    exact ⟨rfl, hS.toKeep⟩
set_option maxHeartbeats 4000000 in
theorem e32 (a : Option Addr) (c : Nat) (l : List Int) (w : World) (hr : Rd w a (bv l)) (hb : Byt l) (hz : a = none → c = 0) (hm : l.length ≤ 140737488355000) :
    CallsTo Tryz.prog 32 [.slice a l.length c] w fun v w' => ∃ a' c', v = .slice a' (sealL l).length c' ∧ NewSl w w' (.slice a' (sealL l).length c') 5 1 (sealL l).length (bv (sealL l)) := by
  refine go_in (n := 24) (St.rd1 hr) Tryz.func32 rfl rfl ?_
  obtain ⟨X, hX⟩ : ∃ X, crcL l = X := ⟨_, rfl⟩
  have h0 : IntKind.u8.wrap (U32 X) = byteK X 0 := by have := byte_K X 0; rwa [BitVec.ushiftRight_zero] at this
  repeat'(first|(apply Go.Hb.kK;(iterate 4 exact rfl);intro bs)|refine kv' ?_|apply jJ|refine jE' ?_|refine jp' ?_|(apply jc;kernel_rfl)|refine kg' ?_|refine kG' ?_|refine kB' fun _=>?_|refine kA' fun _=>?_|refine kK' fun _=>?_|refine kU' ?_|(apply kq; (· exact rfl); (· intro w1 h1; have hq := CallsTo.q (e85 a c l w1 (h1.rd_of (by (repeat (first | exact mH _ _ | apply mT)))) hb (by omega)) h1; rw [hX] at hq; exact hq))|(refine LR.append_nil (news := bv l) rfl rfl (fun w' hw' => hw'.rd_of (a := a) (xs := bv l) (by (repeat (first | exact mH _ _ | apply mT)))) (fun hx => ⟨hr.none_len hx, hz hx⟩) (by simp) (bv_one l) (by omega) (by unfold maxLen; omega) rfl ?_; intro a1 c1)|((first|refine kR' ?_ ?_|refine kQ' ?_ ?_);all_goals(intro hc;try simp only[hcs]at hc;try(exfalso;first|contradiction|omega))))
  have v24 : IntKind.u8.wrap ((U32 X).fdiv (2 ^ min (Int.toNat 24) IntKind.u32.bits)) = byteK X 24 := by rw [← byte_K, ← shr_U X 24 (by omega)]; rfl
  have v16 : IntKind.u8.wrap ((U32 X).fdiv (2 ^ min (Int.toNat 16) IntKind.u32.bits)) = byteK X 16 := by rw [← byte_K, ← shr_U X 16 (by omega)]; rfl
  have v8 : IntKind.u8.wrap ((U32 X).fdiv (2 ^ min (Int.toNat 8) IntKind.u32.bits)) = byteK X 8 := by rw [← byte_K, ← shr_U X 8 (by omega)]; rfl
  rw [v24, v16, v8, h0]
  repeat'(first|refine kv' ?_|apply jJ|refine jE' ?_|refine jp' ?_|(apply jc;kernel_rfl)|refine kg' ?_|refine kG' ?_|refine kB' fun _=>?_|refine kA' fun _=>?_|refine kK' fun _=>?_|refine kU' ?_|(apply LR.append (xs := bv l) (news := [Value.int .u8 (byteK X 24), .int .u8 (byteK X 16), .int .u8 (byteK X 8), .int .u8 (byteK X 0)]) (m := 4); (· exact rfl); (· exact rfl); (· intro a' c'; (repeat (first | exact sH _ _ _ | apply sT))); (· exact fun w' hw' => hw'.rd_of_blk (mH _ _)); (· exact fun hx => by cases hx); (· exact rfl); (· exact rfl); (· omega); (· unfold maxLen; omega); (· exact rfl); (intro a4 c4))|((first|refine kR' ?_ ?_|refine kQ' ?_ ?_);all_goals(intro hc;try simp only[hcs]at hc;try(exfalso;first|contradiction|omega))))
  (apply ret1; (· exact rfl); intro w' hS)
  have e : sealL l = l ++ [byteK X 24, byteK X 16, byteK X 8, byteK X 0] := by rw [← hX]; rfl
  rw [e]
  have e2 : (l ++ [byteK X 24, byteK X 16, byteK X 8, byteK X 0]).length = l.length + 4 := by simp
  have e3 : bv (l ++ [byteK X 24, byteK X 16, byteK X 8, byteK X 0]) = bv l ++ [Value.int .u8 (byteK X 24), .int .u8 (byteK X 16), .int .u8 (byteK X 8), .int .u8 (byteK X 0)] := by simp [bv]
  rw [e2, e3]
  exact ⟨a4, c4, rfl, hS.toNew (by (repeat (first | exact mH _ _ | apply mT)))⟩
set_option maxHeartbeats 2000000 in
theorem e60 (a : Option Addr) (c : Nat) (b : List Int) (w : World) (hr : Rd w a (bv b)) (hb : Byt b) (hz : a = none → c = 0) (hc : b.length ≤ c) (hm : b.length ≤ 140737488355000) :
    CallsTo Tryz.prog 60 [.slice a b.length c] w fun v w' => ∃ a' c', v = .tuple [.slice a' (openL b).1.length c', .int .i64 (openL b).2].toArray ∧ NewSl w w' (.slice a' (openL b).1.length c') 5 1 (openL b).1.length (bv (openL b).1) := by
  refine go_in (n := 20) (St.rd1 hr) Tryz.func60 rfl rfl ?_
  by_cases h4 : b.length < 4
  · repeat'(first|refine kv' ?_|apply jJ|refine jE' ?_|refine jp' ?_|(apply jc;kernel_rfl)|refine kg' ?_|refine kG' ?_|refine kB' fun _=>?_|refine kA' fun _=>?_|refine kK' fun _=>?_|refine kU' ?_|(apply subX;(iterate 2 exact rfl);(iterate 2(first|omega|(dsimp only;omega)));exact rfl)|((first|refine kR' ?_ ?_|refine kQ' ?_ ?_);all_goals(intro hc;try simp only[hcs]at hc;try(exfalso;first|contradiction|omega))))
    (apply ret2; (· exact rfl); intro w' hS)
    have e : openL b = ([], 3) := by unfold openL; rw [if_pos h4]
    rw [e]
    exact ⟨none, 0, rfl, (hS.nilsl 5 1).toNew (mH _ _)⟩
  · obtain ⟨bg, og, rfl⟩ := hr.form (fun e => by have h2 := congrArg List.length e; simp only [bv, List.length_map, List.length_nil] at h2; omega)
    obtain ⟨l, hl⟩ : ∃ l, b.take (b.length - 4) = l := ⟨_, rfl⟩
    have hll : l.length = b.length - 4 := by rw [← hl, List.length_take]; omega
    have hlb : Byt l := fun x hx => hb x (by rw [← hl] at hx; exact List.mem_of_mem_take hx)
    have hrl : ∀ {L : List Asrt} {w1 : World}, St w NoF L w1 → rdA (some ⟨bg, og, none⟩) (bv b) ∈ L → Rd w1 (some ⟨bg, og, none⟩) (bv l) := fun h1 hm => by
      have := rd_take (h1.rd_of hm) (b.length - 4)
      rwa [bv_take, hl] at this
    by_cases hs : sealL l = b
    · have e : openL b = (l, 0) := by unfold openL; rw [if_neg h4, hl, if_pos hs]
      rw [e]
      repeat'(first|refine kv' ?_|apply jJ|refine jE' ?_|refine jp' ?_|(apply jc;kernel_rfl)|refine kg' ?_|refine kG' ?_|refine kB' fun _=>?_|refine kA' fun _=>?_|refine kK' fun _=>?_|refine kU' ?_|(apply subX;(iterate 2 exact rfl);(iterate 2(first|omega|(dsimp only;omega)));exact rfl)|(apply LR.ev; (· exact Ev.slice_hi0 (a := some ⟨bg, og, none⟩) (c := c) (j := l.length) subA_zero (by omega) (by omega) rfl rfl); (· exact rfl))|(apply LR.call; (· exact rfl); (intro w1 h1; first | (refine (c22 (some ⟨bg, og, none⟩) c l w1 (hrl h1 (by (repeat (first | exact mH _ _ | apply mT)))) (fun e => by cases e) (by omega)).mono ?_; rintro v w2 ⟨a1, c1, rfl, hn⟩; refine LR.back (h1.newSl hn) ?_; clear hn h1 w2 w1) | (refine (e32 a1 c1 l w1 (h1.rd_of_own (by (repeat (first | exact mH _ _ | apply mT)))) hlb (fun e => (ownsRow_some h1.g0 e).2) (by omega)).mono ?_; rintro v w2 ⟨a2, c2, rfl, hn⟩; refine LR.back (h1.newSl hn) ?_; clear hn h1 w2 w1)))|(apply kq; (· exact rfl); (· intro w1 h1; have hq := CallsTo.q (c19 a2 (some ⟨bg, og, none⟩) c2 c (sealL l) b w1 (h1.rd_of_own (by (repeat (first | exact mH _ _ | apply mT)))) (h1.rd_of (by (repeat (first | exact mH _ _ | apply mT)))) (by rw [sealL_len]; omega)) h1; rw [decide_eq_true hs] at hq; exact hq))|((first|refine kR' ?_ ?_|refine kQ' ?_ ?_);all_goals(intro hc;try simp only[hcs]at hc;try(exfalso;first|contradiction|omega))))
      (apply ret2; (· exact rfl); intro w' hS)
      exact ⟨a1, c1, rfl, hS.toNew (by (repeat (first | exact mH _ _ | apply mT)))⟩
    · have e : openL b = ([], 60) := by unfold openL; rw [if_neg h4, hl, if_neg hs]
      rw [e]
      repeat'(first|refine kv' ?_|apply jJ|refine jE' ?_|refine jp' ?_|(apply jc;kernel_rfl)|refine kg' ?_|refine kG' ?_|refine kB' fun _=>?_|refine kA' fun _=>?_|refine kK' fun _=>?_|refine kU' ?_|(apply subX;(iterate 2 exact rfl);(iterate 2(first|omega|(dsimp only;omega)));exact rfl)|(apply LR.ev; (· exact Ev.slice_hi0 (a := some ⟨bg, og, none⟩) (c := c) (j := l.length) subA_zero (by omega) (by omega) rfl rfl); (· exact rfl))|(apply LR.call; (· exact rfl); (intro w1 h1; first | (refine (c22 (some ⟨bg, og, none⟩) c l w1 (hrl h1 (by (repeat (first | exact mH _ _ | apply mT)))) (fun e => by cases e) (by omega)).mono ?_; rintro v w2 ⟨a1, c1, rfl, hn⟩; refine LR.back (h1.newSl hn) ?_; clear hn h1 w2 w1) | (refine (e32 a1 c1 l w1 (h1.rd_of_own (by (repeat (first | exact mH _ _ | apply mT)))) hlb (fun e => (ownsRow_some h1.g0 e).2) (by omega)).mono ?_; rintro v w2 ⟨a2, c2, rfl, hn⟩; refine LR.back (h1.newSl hn) ?_; clear hn h1 w2 w1)))|(apply kq; (· exact rfl); (· intro w1 h1; have hq := CallsTo.q (c19 a2 (some ⟨bg, og, none⟩) c2 c (sealL l) b w1 (h1.rd_of_own (by (repeat (first | exact mH _ _ | apply mT)))) (h1.rd_of (by (repeat (first | exact mH _ _ | apply mT)))) (by rw [sealL_len]; omega)) h1; rw [decide_eq_false hs] at hq; exact hq))|((first|refine kR' ?_ ?_|refine kQ' ?_ ?_);all_goals(intro hc;try simp only[hcs]at hc;try(exfalso;first|contradiction|omega))))
      (apply ret2; (· exact rfl); intro w' hS)
      exact ⟨none, 0, rfl, (hS.nilsl 5 1).toNew (mH _ _)⟩
set_option maxHeartbeats 2000000 in
theorem e29 (bw : Nat) (a b : Option Addr) (c cb : Nat) (l xs : List Int) (w : World) (h : wrP 131 [] bw a c l w) (hb : Rd w b (iv xs)) (hd : ∀ k, rdFoot b (iv xs) k → ¬ wrF bw a k) (hm : l.length ≤ 1000000) (hm2 : xs.length ≤ 100) (hok : ∀ x ∈ xs, okN x) :
    CallsTo Tryz.prog 29 [.pointer (some ⟨bw, 0, none⟩), .slice b xs.length cb] w fun v w' => ∃ a' c', v = .tuple #[] ∧ Step (wrA 131 [] bw a c l) (wrA 131 [] bw a' c' (l ++ encs xs)) w w' := by
  refine go_in (n := 17) (wr_start_rd h hb hd) Tryz.func29 rfl rfl ?_
  repeat'(first|refine kv' ?_|apply jJ|refine jE' ?_|refine jp' ?_|(apply jc;kernel_rfl)|refine kg' ?_|refine kG' ?_|refine kB' fun _=>?_|refine kA' fun _=>?_|refine kK' fun _=>?_|refine kU' ?_|((first|refine kR' ?_ ?_|refine kQ' ?_ ?_);all_goals(intro hc;try simp only[hcs]at hc;try(exfalso;first|contradiction|omega))))
  apply CW.loop [4, 5, 6, 7, 8, 9, 10, 11, 12, 13, 14, 15, 16] (fun s : Nat × Option Addr × Nat => s.1 ≤ xs.length) (fun s => [(4, Value.int .i64 (s.1 : Int))])
    (fun s => St w (wrF bw a) [wr1 131 [] bw s.2.1 s.2.2 (l ++ encs (xs.take s.1)), wr2 s.2.1 s.2.2 (l ++ encs (xs.take s.1)), rdA b (iv xs)]) (fun s => xs.length - s.1)
  · exact fun w' hw' => ⟨(0, a, c), by simp, ⟨rfl, trivial⟩, hw'.cast (by simp [encs])⟩
  rintro ⟨i, a1, c1⟩ g hi
  simp only at hi ⊢
  have hlen := encs_len (xs.take i)
  have hlen2 : (xs.take i).length ≤ 100 := by simp; omega
  by_cases hlt : i < xs.length
  · obtain ⟨bb, ob, rfl⟩ := hb.form (fun e => by have := congrArg List.length e; simp at this; subst this; simp at hlt)
    have hx := hok _ (List.getElem_mem hlt)
    have e1 := putE_ok hx
    have e2 := putL_ok hx
    repeat'(first|refine kv' ?_|apply jJ|refine jE' ?_|refine jp' ?_|(apply jc;kernel_rfl)|refine kg' ?_|refine kG' ?_|refine kB' fun _=>?_|refine kA' fun _=>?_|refine kK' fun _=>?_|refine kU' ?_|(apply idxX;(iterate 2 exact rfl);(iterate 2(first|omega|(dsimp only;omega)));exact rfl)|(apply LR.ev; (· apply Ev.load_rd; (· exact rfl); (· repeat (first | exact mH _ _ | apply mT)); (· exact iv_at (i := i) (by simp) (by omega))); (· exact rfl))|(apply LR.call; (· exact rfl); (intro w1 h1; refine (c78 _ _ _ _ _ w1 (wr_hold h1) (by simp; omega)).mono ?_; rintro v w2 ⟨a2, c2, rfl, st⟩; refine LR.back (wr_did h1 st) ?_; clear st h1; rw [e1, e2]))|(apply addX;(iterate 2 exact rfl);(iterate 2(first|omega|(dsimp only;omega)));exact rfl)|((first|refine kR' ?_ ?_|refine kQ' ?_ ?_);all_goals(intro hc;try simp only[hcs]at hc;try(exfalso;first|contradiction|omega))))
    apply At.again (i + 1, a2, c2) (by show i + 1 ≤ _; omega)
    · (repeat (first | exact Out.refl _ _ | exact Out.mix | (apply Out.upd; (· exact rfl)) | (apply Out.updL; (· exact rfl)) | (apply Out.mixs; (· exact rfl))))
    · exact ⟨rfl, trivial⟩
    · intro w' hw'
      exact hw'.cast (by simp only [encs_take hlt, List.append_assoc])
    · show xs.length - (i + 1) < xs.length - i; omega
  · repeat'(first|refine kv' ?_|apply jJ|refine jE' ?_|refine jp' ?_|(apply jc;kernel_rfl)|refine kg' ?_|refine kG' ?_|refine kB' fun _=>?_|refine kA' fun _=>?_|refine kK' fun _=>?_|refine kU' ?_|((first|refine kR' ?_ ?_|refine kQ' ?_ ?_);all_goals(intro hc;try simp only[hcs]at hc;try(exfalso;first|contradiction|omega))))
    have e : xs.take i = xs := List.take_of_length_le (by omega)
    rw [e]
    apply end0
    · exact rfl
    intro w' hS
    exact ⟨a1, c1, rfl, wr_end hS⟩
end Go.Proofs.YtkolmkdbjagfcaaGreat

namespace Go.Proofs.YtkolmkdbjagfcaaGreat
open Go.Hb
attribute [local irreducible] LR CW At Ev thn blk finK noG again CallsTo DW QL dnext TW DP
set_option linter.unusedSimpArgs false
set_option linter.unusedVariables false
set_option maxRecDepth 100000

theorem encs_nat (x : Nat) : encs [(x : Int)] = enc x := by simp [encs]
theorem okN_nat {n : Nat} (h : n ≤ 1000000) : okN (n : Int) := by unfold okN; omega
/-- Numbers that lie in a block of their own, written. -/
theorem e29b {w w1 : World} {F : Nat → Prop} {L : List Asrt} {bw bs : Nat} {a : Option Addr} {c : Nat} {l xs : List Int} (h1 : St w F L w1) (hw : wrA 131 [] bw a c l ∈ L) (hs : [Asrt.own bs (.cells (iv xs).toArray 3 (0, 0)), wrA 131 [] bw a c l].Sublist L) (hm : l.length ≤ 1000000) (hm2 : xs.length ≤ 100) (hok : ∀ x ∈ xs, okN x) :
    CallsTo Tryz.prog 29 [.pointer (some ⟨bw, 0, none⟩), .slice (some ⟨bs, 0, none⟩) xs.length xs.length] w1 fun v w' => ∃ a' c', v = .tuple #[] ∧ Step (wrA 131 [] bw a c l) (wrA 131 [] bw a' c' (l ++ encs xs)) w1 w' :=
  e29 bw a (some ⟨bs, 0, none⟩) c xs.length l xs w1 (h1.holds _ hw) (h1.rd_of_blk (E := 3) (fr := (0, 0)) (hs.subset List.mem_cons_self)) (fun k hk hf => by obtain ⟨_, _, e, rfl⟩ := hk; cases e; exact St.apart2 (x := .own bs (.cells (iv xs).toArray 3 (0, 0))) (y := wrA 131 [] bw a c l) h1 (.inl hs) rfl bs rfl hf) hm hm2 hok
structure Est where
  i : Nat
  a : Option Addr
  c : Nat
set_option maxHeartbeats 16000000 in
theorem e8 (p : Pkt) (A : PAd) (w : World) (hR : PktR w p A) : CallsTo Tryz.prog 8 [p.val A] w fun v w' => ∃ a' c', v = .tuple [.slice a' (packP p).1.length c', .int .i64 (packP p).2].toArray ∧ NewSl w w' (.slice a' (packP p).1.length c') 5 1 (packP p).1.length (bv (packP p).1) := by
  refine go_in (n := 168) (St.refl _ NoF) Tryz.func8 rfl rfl ?_
  cases hck : chkP p
  · have e : packP p = ([], 2) := by unfold packP; rw [hck]; rfl
    repeat'(first|(apply kB;(iterate 2 exact rfl);intro b1)|refine kv' ?_|apply jJ|refine jE' ?_|refine jp' ?_|(apply jc;kernel_rfl)|refine kg' ?_|refine kG' ?_|refine kB' fun _=>?_|refine kA' fun _=>?_|refine kK' fun _=>?_|refine kU' ?_|(apply kq; (· exact rfl); (· intro w1 h1; have hq := CallsTo.q (e10 p A w1 (hR.old h1)) h1; rw [hck] at hq; exact hq))|((first|refine kR' ?_ ?_|refine kQ' ?_ ?_);all_goals(intro hc;try simp only[hcs]at hc;try(exfalso;first|contradiction|omega))))
    (apply ret2; (· exact rfl); intro w' hS)
    rw [e]
    exact ⟨none, 0, rfl, (hS.nilsl 5 1).toNew (mH _ _)⟩
  have hm := (chk_may hck).1
  have hbl := body_len hm
  have hbb := body_byt hm hR.hdb
  have e : packP p = (sealL (bodyP p), 0) := by unfold packP; rw [hck]; rfl
  rw [e]
  obtain ⟨ok1, ok2, hkb, okn⟩ := may_num hm
  have hl0 := encs_len [p.kind, p.to]
  have hl1 := encs_len (numsP p)
  have hln := nums_len p
  have okk : ∀ x ∈ [p.kind, p.to], okN x := fun x hx => by simp only [List.mem_cons, List.not_mem_nil, or_false] at hx; rcases hx with rfl | rfl; (· exact ok1); (· exact ok2)
  simp only [List.length_cons, List.length_nil] at hl0
  repeat'(first|(apply kB;(iterate 2 exact rfl);intro b1)|refine kv' ?_|apply jJ|refine jE' ?_|refine jp' ?_|(apply jc;kernel_rfl)|refine kg' ?_|refine kG' ?_|refine kB' fun _=>?_|refine kA' fun _=>?_|refine kK' fun _=>?_|refine kU' ?_|(apply kq; (· exact rfl); (· intro w1 h1; have hq := CallsTo.q (e10 p A w1 (hR.old h1)) h1; rw [hck] at hq; exact hq))|((first|refine kR' ?_ ?_|refine kQ' ?_ ?_);all_goals(intro hc;try simp only[hcs]at hc;try(exfalso;first|contradiction|omega))))
  apply LR.call
  · exact rfl
  intro w1 h1
  refine CallsTo.mono (show CallsTo Tryz.prog 28 [] w1 _ from c77 w1) ?_
  rintro v w2 ⟨bw, rfl, hn⟩
  refine LR.back (h1.got hn (wrA_dep _ _ _ _)) ?_
  clear hn h1
  repeat'(first|(apply Go.Hb.kK;(iterate 4 exact rfl);intro bs)|refine kv' ?_|apply jJ|refine jE' ?_|refine jp' ?_|(apply jc;kernel_rfl)|refine kg' ?_|refine kG' ?_|refine kB' fun _=>?_|refine kA' fun _=>?_|refine kK' fun _=>?_|refine kU' ?_|((first|refine kR' ?_ ?_|refine kQ' ?_ ?_);all_goals(intro hc;try simp only[hcs]at hc;try(exfalso;first|contradiction|omega))))
  apply LR.call
  · exact rfl
  intro w1 h1
  refine CallsTo.mono (show CallsTo Tryz.prog 29 [.pointer (some ⟨bw, 0, none⟩), .slice (some ⟨bs, 0, none⟩) 2 2] w1 _ from e29b (xs := [p.kind, p.to]) h1 (by (repeat (first | exact mH _ _ | apply mT))) (by (repeat (first | exact List.Sublist.refl _ | apply List.Sublist.cons_cons | apply List.Sublist.cons))) (by simp) (by simp) okk) ?_
  rintro v w2 ⟨a2, c2, rfl, st⟩
  rw [List.nil_append] at st
  refine LR.back (St.did h1 (by (repeat (first | exact sH _ _ _ | apply sT))) rfl st (wrA_dep _ _ _ _)) ?_
  clear st h1
  by_cases hk1 : p.kind = 1
  · have hnums : numsP p = [p.d.rseq, p.d.rrep, p.d.seq, p.d.sender, p.d.stamp] := by unfold numsP; rw [if_pos hk1]
    have htail : tailP p = enc (bytesM p.d.msg).length ++ bytesM p.d.msg := by unfold tailP; rw [if_pos hk1]
    have hmk := may_msg hm hk1
    have hpk : pack p.d.msg = (bytesM p.d.msg, 0) := by unfold pack; rw [if_neg (by simp [hmk])]
    have hlb := bytesM_len p.d.msg
    have hlb2 := (check_ok hmk).1
    have hbody : encs [p.kind, p.to] ++ encs [p.d.rseq, p.d.rrep, p.d.seq, p.d.sender, p.d.stamp] ++ enc (bytesM p.d.msg).length ++ bytesM p.d.msg = bodyP p := by unfold bodyP; rw [hnums, htail]; simp only [List.append_assoc]
    rw [hnums] at okn hl1
    simp only [List.length_cons, List.length_nil] at hl1
    repeat'(first|(apply Go.Hb.kK;(iterate 4 exact rfl);intro bs2)|refine kv' ?_|apply jJ|refine jE' ?_|refine jp' ?_|(apply jc;kernel_rfl)|refine kg' ?_|refine kG' ?_|refine kB' fun _=>?_|refine kA' fun _=>?_|refine kK' fun _=>?_|refine kU' ?_|((first|refine kR' ?_ ?_|refine kQ' ?_ ?_);all_goals(intro hc;try simp only[hcs]at hc;try(exfalso;first|contradiction|omega))))
    apply LR.call
    · exact rfl
    intro w1 h1
    refine CallsTo.mono (show CallsTo Tryz.prog 29 [.pointer (some ⟨bw, 0, none⟩), .slice (some ⟨bs2, 0, none⟩) 5 5] w1 _ from e29b (xs := [p.d.rseq, p.d.rrep, p.d.seq, p.d.sender, p.d.stamp]) h1 (by (repeat (first | exact mH _ _ | apply mT))) (by (repeat (first | exact List.Sublist.refl _ | apply List.Sublist.cons_cons | apply List.Sublist.cons))) (by first | omega | (simp only [List.length_append]; omega)) (by simp) okn) ?_
    rintro v w2 ⟨a3, c3, rfl, st⟩
    refine LR.back (St.did h1 (by (repeat (first | exact sH _ _ _ | apply sT))) rfl st (wrA_dep _ _ _ _)) ?_
    clear st h1

    repeat'(first|refine kv' ?_|apply jJ|refine jE' ?_|refine jp' ?_|(apply jc;kernel_rfl)|refine kg' ?_|refine kG' ?_|refine kB' fun _=>?_|refine kA' fun _=>?_|refine kK' fun _=>?_|refine kU' ?_|(apply LR.call; (· exact rfl); (intro w1 h1; first | (refine CallsTo.mono (show CallsTo Tryz.prog 30 [p.d.msg.val A.da A.dc] w1 (fun v w' => ∃ a2 c2, v = .tuple [.slice a2 (bytesM p.d.msg).length c2, .int .i64 0].toArray ∧ NewSl w1 w' (.slice a2 (bytesM p.d.msg).length c2) 5 1 (bytesM p.d.msg).length (bv (bytesM p.d.msg))) from by (have hq := c16 p.d.msg A.da A.dc w1 (hR.old h1).hd hR.hdz (by have := hR.hdm; omega) hR.hdb); rw [hpk] at hq; exact hq) ?_; rintro v w2 ⟨a4, c4, rfl, hn⟩; refine LR.back (h1.newSl hn) ?_; clear hn h1) | (refine CallsTo.mono (show CallsTo Tryz.prog 31 [.pointer (some ⟨bw, 0, none⟩), .slice a4 (bytesM p.d.msg).length c4] w1 _ from c89 bw a3 a4 c3 c4 (encs [p.kind, p.to] ++ encs [p.d.rseq, p.d.rrep, p.d.seq, p.d.sender, p.d.stamp]) (bytesM p.d.msg) w1 (h1.holds (wrA 131 [] bw a3 c3 _) (by (repeat (first | exact mH _ _ | apply mT)))) (h1.rd_of_own (by (repeat (first | exact mH _ _ | apply mT)))) (fun e => (ownsRow_some (h1.g0) e).2) (fun k hk hf => by obtain ⟨_, ad, e, rfl⟩ := hk; subst e; exact St.apart2 (y := wrA 131 [] bw a3 c3 (encs [p.kind, p.to] ++ encs [p.d.rseq, p.d.rrep, p.d.seq, p.d.sender, p.d.stamp])) h1 (.inl (by (repeat (first | exact List.Sublist.refl _ | apply List.Sublist.cons_cons | apply List.Sublist.cons)))) rfl ad.block (x := osl (.slice (some ad) (bytesM p.d.msg).length c4) 5 1 (bytesM p.d.msg).length (bv (bytesM p.d.msg))) rfl hf) (by simp only [List.length_append]; omega) (by omega)) ?_; rintro v w2 ⟨aZ, cZ, rfl, st⟩; rw [hbody] at st; refine LR.back (St.did h1 (by (repeat (first | exact sH _ _ _ | apply sT))) rfl st (wrA_dep _ _ _ _)) ?_; clear st h1) | (refine CallsTo.mono (show CallsTo Tryz.prog 33 [.pointer (some ⟨bw, 0, none⟩)] w1 _ from c80 bw aZ cZ (bodyP p) w1 (h1.holds (wrA 131 [] bw aZ cZ (bodyP p)) (by (repeat (first | exact mH _ _ | apply mT)))) (by omega)) ?_; rintro v w2 ⟨a8, c8, rfl, hn⟩; refine LR.back (h1.newSl hn) ?_; clear hn h1) | (refine CallsTo.mono (show CallsTo Tryz.prog 32 [.slice a8 (bodyP p).length c8] w1 _ from e32 a8 c8 (bodyP p) w1 (h1.rd_of_own (by (repeat (first | exact mH _ _ | apply mT)))) hbb (fun e => (ownsRow_some h1.g0 e).2) (by omega)) ?_; rintro v w2 ⟨a9, c9, rfl, hn⟩; refine LR.back (h1.newSl hn) ?_; clear hn h1)))|((first|refine kR' ?_ ?_|refine kQ' ?_ ?_);all_goals(intro hc;try simp only[hcs]at hc;try(exfalso;first|contradiction|omega))))
    (apply ret2; (· exact rfl); intro w' hS)
    exact ⟨a9, c9, rfl, hS.toNew (by (repeat (first | exact mH _ _ | apply mT)))⟩
  by_cases hk2 : p.kind = 2
  · have hnums : numsP p = [p.t.r1, p.t.r2, p.t.hop, p.t.seq, p.t.aru, p.t.low, p.t.stamp, p.t.idle] := by unfold numsP; rw [if_neg hk1, if_pos hk2]
    have htail : tailP p = enc p.t.ask.length ++ encs p.t.ask := by unfold tailP; rw [if_neg hk1, if_pos hk2]
    have hmk := may_ask hm hk2
    have hbody : encs [p.kind, p.to] ++ encs [p.t.r1, p.t.r2, p.t.hop, p.t.seq, p.t.aru, p.t.low, p.t.stamp, p.t.idle, (p.t.ask.length : Int)] ++ encs p.t.ask = bodyP p := by
      unfold bodyP
      rw [hnums, htail, show [p.t.r1, p.t.r2, p.t.hop, p.t.seq, p.t.aru, p.t.low, p.t.stamp, p.t.idle, (p.t.ask.length : Int)] = [p.t.r1, p.t.r2, p.t.hop, p.t.seq, p.t.aru, p.t.low, p.t.stamp, p.t.idle] ++ [(p.t.ask.length : Int)] from rfl, encs_app, encs_nat]
      simp only [List.append_assoc]
    have okl : ∀ x ∈ [p.t.r1, p.t.r2, p.t.hop, p.t.seq, p.t.aru, p.t.low, p.t.stamp, p.t.idle, (p.t.ask.length : Int)], okN x := fun x hx => by
      rw [show [p.t.r1, p.t.r2, p.t.hop, p.t.seq, p.t.aru, p.t.low, p.t.stamp, p.t.idle, (p.t.ask.length : Int)] = [p.t.r1, p.t.r2, p.t.hop, p.t.seq, p.t.aru, p.t.low, p.t.stamp, p.t.idle] ++ [(p.t.ask.length : Int)] from rfl, ← hnums] at hx
      rcases List.mem_append.1 hx with hx | hx
      · exact okn x hx
      · simp only [List.mem_cons, List.not_mem_nil, or_false] at hx; subst hx; exact okN_nat (by omega)
    have hl9 := encs_len [p.t.r1, p.t.r2, p.t.hop, p.t.seq, p.t.aru, p.t.low, p.t.stamp, p.t.idle, (p.t.ask.length : Int)]
    simp only [List.length_cons, List.length_nil] at hl9
    repeat'(first|(apply Go.Hb.kK;(iterate 4 exact rfl);intro bs2)|refine kv' ?_|apply jJ|refine jE' ?_|refine jp' ?_|(apply jc;kernel_rfl)|refine kg' ?_|refine kG' ?_|refine kB' fun _=>?_|refine kA' fun _=>?_|refine kK' fun _=>?_|refine kU' ?_|((first|refine kR' ?_ ?_|refine kQ' ?_ ?_);all_goals(intro hc;try simp only[hcs]at hc;try(exfalso;first|contradiction|omega))))
    apply LR.call
    · exact rfl
    intro w1 h1
    refine CallsTo.mono (show CallsTo Tryz.prog 29 [.pointer (some ⟨bw, 0, none⟩), .slice (some ⟨bs2, 0, none⟩) 9 9] w1 _ from e29b (xs := [p.t.r1, p.t.r2, p.t.hop, p.t.seq, p.t.aru, p.t.low, p.t.stamp, p.t.idle, (p.t.ask.length : Int)]) h1 (by (repeat (first | exact mH _ _ | apply mT))) (by (repeat (first | exact List.Sublist.refl _ | apply List.Sublist.cons_cons | apply List.Sublist.cons))) (by first | omega | (simp only [List.length_append]; omega)) (by simp) okl) ?_
    rintro v w2 ⟨a3, c3, rfl, st⟩
    refine LR.back (St.did h1 (by (repeat (first | exact sH _ _ _ | apply sT))) rfl st (wrA_dep _ _ _ _)) ?_
    clear st h1

    repeat'(first|refine kv' ?_|apply jJ|refine jE' ?_|refine jp' ?_|(apply jc;kernel_rfl)|refine kg' ?_|refine kG' ?_|refine kB' fun _=>?_|refine kA' fun _=>?_|refine kK' fun _=>?_|refine kU' ?_|((first|refine kR' ?_ ?_|refine kQ' ?_ ?_);all_goals(intro hc;try simp only[hcs]at hc;try(exfalso;first|contradiction|omega))))
    apply LR.call
    · exact rfl
    intro w1 h1
    refine CallsTo.mono (show CallsTo Tryz.prog 29 [.pointer (some ⟨bw, 0, none⟩), .slice A.ta p.t.ask.length A.tc] w1 _ from e29 bw a3 A.ta c3 A.tc (encs [p.kind, p.to] ++ encs [p.t.r1, p.t.r2, p.t.hop, p.t.seq, p.t.aru, p.t.low, p.t.stamp, p.t.idle, (p.t.ask.length : Int)]) p.t.ask w1 (h1.holds (wrA 131 [] bw a3 c3 _) (by (repeat (first | exact mH _ _ | apply mT)))) (hR.old h1).ht (fun k hk => h1.oldApart (x := wrA 131 [] bw a3 c3 _) (by (repeat (first | exact mH _ _ | apply mT))) rfl hR.ht k hk) (by simp only [List.length_append]; omega) (by omega) hmk.2) ?_
    rintro v w2 ⟨aZ, cZ, rfl, st⟩
    rw [hbody] at st
    refine LR.back (St.did h1 (by (repeat (first | exact sH _ _ _ | apply sT))) rfl st (wrA_dep _ _ _ _)) ?_
    clear st h1
    repeat'(first|(apply CW.reg_heldC)|refine kv' ?_|apply jJ|refine jE' ?_|refine jp' ?_|(apply jc;kernel_rfl)|refine kg' ?_|refine kG' ?_|refine kB' fun _=>?_|refine kA' fun _=>?_|refine kK' fun _=>?_|refine kU' ?_|(apply LR.call; (· exact rfl); (intro w1 h1; first | (refine CallsTo.mono (show CallsTo Tryz.prog 33 [.pointer (some ⟨bw, 0, none⟩)] w1 _ from c80 bw aZ cZ (bodyP p) w1 (h1.holds (wrA 131 [] bw aZ cZ (bodyP p)) (by (repeat (first | exact mH _ _ | apply mT)))) (by omega)) ?_; rintro v w2 ⟨a8, c8, rfl, hn⟩; refine LR.back (h1.newSl hn) ?_; clear hn h1) | (refine CallsTo.mono (show CallsTo Tryz.prog 32 [.slice a8 (bodyP p).length c8] w1 _ from e32 a8 c8 (bodyP p) w1 (h1.rd_of_own (by (repeat (first | exact mH _ _ | apply mT)))) hbb (fun e => (ownsRow_some h1.g0 e).2) (by omega)) ?_; rintro v w2 ⟨a9, c9, rfl, hn⟩; refine LR.back (h1.newSl hn) ?_; clear hn h1)))|((first|refine kR' ?_ ?_|refine kQ' ?_ ?_);all_goals(intro hc;try simp only[hcs]at hc;try(exfalso;first|contradiction|omega))))
    (apply ret2; (· exact rfl); intro w' hS)
    exact ⟨a9, c9, rfl, hS.toNew (by (repeat (first | exact mH _ _ | apply mT)))⟩
  by_cases hk3 : p.kind = 3
  · have hnums : numsP p = [p.j1, p.j2, p.j3] := by unfold numsP; rw [if_neg hk1, if_neg hk2, if_pos hk3]
    have htail : tailP p = [] := by unfold tailP; rw [if_neg hk1, if_neg hk2, if_neg (by omega)]
    have hbody : encs [p.kind, p.to] ++ encs [p.j1, p.j2, p.j3] = bodyP p := by unfold bodyP; rw [hnums, htail, List.append_nil]
    rw [hnums] at okn hl1
    simp only [List.length_cons, List.length_nil] at hl1
    repeat'(first|(apply Go.Hb.kK;(iterate 4 exact rfl);intro bs2)|refine kv' ?_|apply jJ|refine jE' ?_|refine jp' ?_|(apply jc;kernel_rfl)|refine kg' ?_|refine kG' ?_|refine kB' fun _=>?_|refine kA' fun _=>?_|refine kK' fun _=>?_|refine kU' ?_|((first|refine kR' ?_ ?_|refine kQ' ?_ ?_);all_goals(intro hc;try simp only[hcs]at hc;try(exfalso;first|contradiction|omega))))
    apply LR.call
    · exact rfl
    intro w1 h1
    refine CallsTo.mono (show CallsTo Tryz.prog 29 [.pointer (some ⟨bw, 0, none⟩), .slice (some ⟨bs2, 0, none⟩) 3 3] w1 _ from e29b (xs := [p.j1, p.j2, p.j3]) h1 (by (repeat (first | exact mH _ _ | apply mT))) (by (repeat (first | exact List.Sublist.refl _ | apply List.Sublist.cons_cons | apply List.Sublist.cons))) (by first | omega | (simp only [List.length_append]; omega)) (by simp) okn) ?_
    rintro v w2 ⟨aZ, cZ, rfl, st⟩
    rw [hbody] at st
    refine LR.back (St.did h1 (by (repeat (first | exact sH _ _ _ | apply sT))) rfl st (wrA_dep _ _ _ _)) ?_
    clear st h1

    repeat'(first|(apply CW.reg_heldC)|refine kv' ?_|apply jJ|refine jE' ?_|refine jp' ?_|(apply jc;kernel_rfl)|refine kg' ?_|refine kG' ?_|refine kB' fun _=>?_|refine kA' fun _=>?_|refine kK' fun _=>?_|refine kU' ?_|(apply LR.call; (· exact rfl); (intro w1 h1; first | (refine CallsTo.mono (show CallsTo Tryz.prog 33 [.pointer (some ⟨bw, 0, none⟩)] w1 _ from c80 bw aZ cZ (bodyP p) w1 (h1.holds (wrA 131 [] bw aZ cZ (bodyP p)) (by (repeat (first | exact mH _ _ | apply mT)))) (by omega)) ?_; rintro v w2 ⟨a8, c8, rfl, hn⟩; refine LR.back (h1.newSl hn) ?_; clear hn h1) | (refine CallsTo.mono (show CallsTo Tryz.prog 32 [.slice a8 (bodyP p).length c8] w1 _ from e32 a8 c8 (bodyP p) w1 (h1.rd_of_own (by (repeat (first | exact mH _ _ | apply mT)))) hbb (fun e => (ownsRow_some h1.g0 e).2) (by omega)) ?_; rintro v w2 ⟨a9, c9, rfl, hn⟩; refine LR.back (h1.newSl hn) ?_; clear hn h1)))|((first|refine kR' ?_ ?_|refine kQ' ?_ ?_);all_goals(intro hc;try simp only[hcs]at hc;try(exfalso;first|contradiction|omega))))
    (apply ret2; (· exact rfl); intro w' hS)
    exact ⟨a9, c9, rfl, hS.toNew (by (repeat (first | exact mH _ _ | apply mT)))⟩
  by_cases hk4 : p.kind = 4
  · have hnums : numsP p = [p.c.r1, p.c.r2, p.c.mem, p.c.hop] := by unfold numsP; rw [if_neg hk1, if_neg hk2, if_neg hk3, if_pos hk4]
    have htail : tailP p = enc p.c.ents.length ++ encs (p.c.ents.flatMap Ent.nums) := by unfold tailP; rw [if_neg hk1, if_neg hk2, if_pos hk4]
    have hmk := may_ents hm hk4
    have hbody : encs [p.kind, p.to] ++ encs [p.c.r1, p.c.r2, p.c.mem, p.c.hop, (p.c.ents.length : Int)] ++ encs (p.c.ents.flatMap Ent.nums) = bodyP p := by
      unfold bodyP
      rw [hnums, htail, show [p.c.r1, p.c.r2, p.c.mem, p.c.hop, (p.c.ents.length : Int)] = [p.c.r1, p.c.r2, p.c.mem, p.c.hop] ++ [(p.c.ents.length : Int)] from rfl, encs_app, encs_nat]
      simp only [List.append_assoc]
    have okl : ∀ x ∈ [p.c.r1, p.c.r2, p.c.mem, p.c.hop, (p.c.ents.length : Int)], okN x := fun x hx => by
      rw [show [p.c.r1, p.c.r2, p.c.mem, p.c.hop, (p.c.ents.length : Int)] = [p.c.r1, p.c.r2, p.c.mem, p.c.hop] ++ [(p.c.ents.length : Int)] from rfl, ← hnums] at hx
      rcases List.mem_append.1 hx with hx | hx
      · exact okn x hx
      · simp only [List.mem_cons, List.not_mem_nil, or_false] at hx; subst hx; exact okN_nat (by omega)
    have hl9 := encs_len [p.c.r1, p.c.r2, p.c.mem, p.c.hop, (p.c.ents.length : Int)]
    simp only [List.length_cons, List.length_nil] at hl9
    repeat'(first|(apply kA;exact rfl;intro bc)|(apply Go.Hb.kK;(iterate 4 exact rfl);intro bs2)|refine kv' ?_|apply jJ|refine jE' ?_|refine jp' ?_|(apply jc;kernel_rfl)|refine kg' ?_|refine kG' ?_|refine kB' fun _=>?_|refine kA' fun _=>?_|refine kK' fun _=>?_|refine kU' ?_|((first|refine kR' ?_ ?_|refine kQ' ?_ ?_);all_goals(intro hc;try simp only[hcs]at hc;try(exfalso;first|contradiction|omega))))
    apply LR.call
    · exact rfl
    intro w1 h1
    refine CallsTo.mono (show CallsTo Tryz.prog 29 [.pointer (some ⟨bw, 0, none⟩), .slice (some ⟨bs2, 0, none⟩) 5 5] w1 _ from e29b (xs := [p.c.r1, p.c.r2, p.c.mem, p.c.hop, (p.c.ents.length : Int)]) h1 (by (repeat (first | exact mH _ _ | apply mT))) (by (repeat (first | exact List.Sublist.refl _ | apply List.Sublist.cons_cons | apply List.Sublist.cons))) (by first | omega | (simp only [List.length_append]; omega)) (by simp) okl) ?_
    rintro v w2 ⟨a3, c3, rfl, st⟩
    refine LR.back (St.did h1 (by (repeat (first | exact sH _ _ _ | apply sT))) rfl st (wrA_dep _ _ _ _)) ?_
    clear st h1

    obtain ⟨H, hH⟩ : ∃ H, encs [p.kind, p.to] ++ encs [p.c.r1, p.c.r2, p.c.mem, p.c.hop, (p.c.ents.length : Int)] = H := ⟨_, rfl⟩
    have hHl : H.length ≤ 100 := by rw [← hH, List.length_append]; omega
    rw [hH] at hbody ⊢
    repeat'(first|refine kv' ?_|apply jJ|refine jE' ?_|refine jp' ?_|(apply jc;kernel_rfl)|refine kg' ?_|refine kG' ?_|refine kB' fun _=>?_|refine kA' fun _=>?_|refine kK' fun _=>?_|refine kU' ?_|((first|refine kR' ?_ ?_|refine kQ' ?_ ?_);all_goals(intro hc;try simp only[hcs]at hc;try(exfalso;first|contradiction|omega))))
    apply CW.loop [11, 12, 136, 137, 138, 139, 140, 141, 142, 143, 144, 145, 146, 147, 148, 149, 150, 151, 152, 153, 154, 155, 156, 157, 158, 159, 160, 161, 162, 163, 164] (fun s : Est => s.i ≤ p.c.ents.length) (fun s => [(11, Value.int .i64 (s.i : Int))])
      (fun s => St w NoF [.own bc (.cells (p.c.cells A.ca A.cc).toArray 38 (0, 0)), wrA 131 [] bw s.a s.c (H ++ encs ((p.c.ents.take s.i).flatMap Ent.nums)), .own b1 (.cells (p.cells A).toArray 42 (0, 0))]) (fun s => p.c.ents.length - s.i)
    · exact fun w' hw' => ⟨⟨0, a3, c3⟩, Nat.zero_le _, ⟨rfl, trivial⟩, by
        refine (hw'.sub (L' := [.own bc (.cells (p.c.cells A.ca A.cc).toArray 38 (0, 0)), wrA 131 [] bw a3 c3 H, .own b1 (.cells (p.cells A).toArray 42 (0, 0))]) (by (repeat (first | exact List.Sublist.refl _ | apply List.Sublist.cons_cons | apply List.Sublist.cons)))).cast ?_
        simp [encs]⟩
    rintro ⟨i, a4, c4⟩ g1 hi
    simp only at hi ⊢
    by_cases hlt : i < p.c.ents.length
    · have hlen := encs_len ((p.c.ents.take i).flatMap Ent.nums)
      have hlen2 : ((p.c.ents.take i).flatMap Ent.nums).length ≤ 60 := by rw [rows_lenN ent_len, List.length_take]; omega
      obtain ⟨e, he⟩ : ∃ e, p.c.ents[i] = e := ⟨_, rfl⟩
      have hke : ∀ x ∈ [e.node, e.o1, e.o2, e.aru, e.high, e.clock], okN x := by rw [← he]; exact hmk.2 _ (List.getElem_mem hlt)
      have hcr := hR.hc
      obtain ⟨be, oe, hae⟩ : ∃ be oe, A.ca = some ⟨be, oe, none⟩ := by
        have h2 := hR.hc
        obtain ⟨be, oe, h3⟩ := h2.form (rows_ne Ent.cells_len (by omega) hlt)
        exact ⟨be, oe, h3⟩
      have hcl : ∀ w', Rd w' A.ca (p.c.ents.flatMap Ent.cells) → ∀ j v, e.cells[j]? = some v → w'.cell? ((⟨be, oe + (i : Int).toNat * 6, none⟩ : Addr).add j) = some v := fun w' h => by
        rw [← he]
        rw [hae] at h
        exact rd_row Ent.cells_len h hlt (by omega)
      have hsl : ∀ f : Frm, ∀ x, f.ev x = .slice A.ca p.c.ents.length A.cc → f.ev x = .slice (some ⟨be, oe, none⟩) p.c.ents.length A.cc := fun f x h => by rw [h, hae]
      have e3 : H ++ encs ((p.c.ents.take (i + 1)).flatMap Ent.nums) = H ++ encs ((p.c.ents.take i).flatMap Ent.nums) ++ encs [e.node, e.o1, e.o2, e.aru, e.high, e.clock] := by
        rw [List.take_add_one, List.getElem?_eq_getElem hlt, List.flatMap_append, encs_app, ← List.append_assoc, he]
        simp [Ent.nums]
      repeat'(first|(apply kA;exact rfl;intro be2)|(apply Go.Hb.kK;(iterate 4 exact rfl);intro bs3)|refine kv' ?_|apply jJ|refine jE' ?_|refine jp' ?_|(apply jc;kernel_rfl)|refine kg' ?_|refine kG' ?_|refine kB' fun _=>?_|refine kA' fun _=>?_|refine kK' fun _=>?_|refine kU' ?_|(apply LR.ev; (· apply Ev.indexAddr; (· exact hsl _ _ rfl); (· exact rfl); (· omega); (· omega)); (· exact rfl))|(apply LR.ev; (· apply Ev.load_agg_at (cs := e.cells); (· exact rfl); (· exact rfl); (· intro w' hw'; exact hcl w' (hw'.oldRd hcr))); (· exact rfl))|((first|refine kR' ?_ ?_|refine kQ' ?_ ?_);all_goals(intro hc;try simp only[hcs]at hc;try(exfalso;first|contradiction|omega))))
      apply LR.call
      · exact rfl
      intro w1 h1
      refine CallsTo.mono (show CallsTo Tryz.prog 29 [.pointer (some ⟨bw, 0, none⟩), .slice (some ⟨bs3, 0, none⟩) 6 6] w1 _ from e29b (xs := [e.node, e.o1, e.o2, e.aru, e.high, e.clock]) h1 (by (repeat (first | exact mH _ _ | apply mT))) (by (repeat (first | exact List.Sublist.refl _ | apply List.Sublist.cons_cons | apply List.Sublist.cons))) (by first | omega | (simp only [List.length_append]; omega)) (by simp) hke) ?_
      rintro v w2 ⟨a5, c5, rfl, st⟩
      refine LR.back (St.did h1 (by (repeat (first | exact sH _ _ _ | apply sT))) rfl st (wrA_dep _ _ _ _)) ?_
      clear st h1

      rw [← e3]
      repeat'(first|refine kv' ?_|apply jJ|refine jE' ?_|refine jp' ?_|(apply jc;kernel_rfl)|refine kg' ?_|refine kG' ?_|refine kB' fun _=>?_|refine kA' fun _=>?_|refine kK' fun _=>?_|refine kU' ?_|(apply addX;(iterate 2 exact rfl);(iterate 2(first|omega|(dsimp only;omega)));exact rfl)|((first|refine kR' ?_ ?_|refine kQ' ?_ ?_);all_goals(intro hc;try simp only[hcs]at hc;try(exfalso;first|contradiction|omega))))
      refine At.again (⟨i + 1, a5, c5⟩ : Est) (by show i + 1 ≤ _; omega) ?_ ⟨rfl, trivial⟩ (fun w' hw' => hw'.sub (by (repeat (first | exact List.Sublist.refl _ | apply List.Sublist.cons_cons | apply List.Sublist.cons)))) (by show p.c.ents.length - (i + 1) < p.c.ents.length - i; omega)
      (repeat (first | exact Out.refl _ _ | exact Out.mix | (apply Out.upd; (· exact rfl)) | (apply Out.updL; (· exact rfl)) | (apply Out.mixs; (· exact rfl))))
    · have hie : i = p.c.ents.length := by omega
      subst hie
      rw [List.take_length, hbody]
      obtain ⟨aZ, rfl⟩ : ∃ x, x = a4 := ⟨_, rfl⟩
      obtain ⟨cZ, rfl⟩ : ∃ x, x = c4 := ⟨_, rfl⟩
      repeat'(first|(apply CW.reg_heldC)|refine kv' ?_|apply jJ|refine jE' ?_|refine jp' ?_|(apply jc;kernel_rfl)|refine kg' ?_|refine kG' ?_|refine kB' fun _=>?_|refine kA' fun _=>?_|refine kK' fun _=>?_|refine kU' ?_|(apply LR.call; (· exact rfl); (intro w1 h1; first | (refine CallsTo.mono (show CallsTo Tryz.prog 33 [.pointer (some ⟨bw, 0, none⟩)] w1 _ from c80 bw aZ cZ (bodyP p) w1 (h1.holds (wrA 131 [] bw aZ cZ (bodyP p)) (by (repeat (first | exact mH _ _ | apply mT)))) (by omega)) ?_; rintro v w2 ⟨a8, c8, rfl, hn⟩; refine LR.back (h1.newSl hn) ?_; clear hn h1) | (refine CallsTo.mono (show CallsTo Tryz.prog 32 [.slice a8 (bodyP p).length c8] w1 _ from e32 a8 c8 (bodyP p) w1 (h1.rd_of_own (by (repeat (first | exact mH _ _ | apply mT)))) hbb (fun e => (ownsRow_some h1.g0 e).2) (by omega)) ?_; rintro v w2 ⟨a9, c9, rfl, hn⟩; refine LR.back (h1.newSl hn) ?_; clear hn h1)))|((first|refine kR' ?_ ?_|refine kQ' ?_ ?_);all_goals(intro hc;try simp only[hcs]at hc;try(exfalso;first|contradiction|omega))))
      (apply ret2; (· exact rfl); intro w' hS)
      exact ⟨a9, c9, rfl, hS.toNew (by (repeat (first | exact mH _ _ | apply mT)))⟩
  have hk5 : p.kind = 5 := by omega
  have hnums : numsP p = [p.b1, p.b2, p.b3] := by unfold numsP; rw [if_neg hk1, if_neg hk2, if_neg hk3, if_neg hk4]
  have htail : tailP p = [] := by unfold tailP; rw [if_neg hk1, if_neg hk2, if_neg hk4]
  have hbody : encs [p.kind, p.to] ++ encs [p.b1, p.b2, p.b3] = bodyP p := by unfold bodyP; rw [hnums, htail, List.append_nil]
  rw [hnums] at okn hl1
  repeat'(first|(apply Go.Hb.kK;(iterate 4 exact rfl);intro bs2)|refine kv' ?_|apply jJ|refine jE' ?_|refine jp' ?_|(apply jc;kernel_rfl)|refine kg' ?_|refine kG' ?_|refine kB' fun _=>?_|refine kA' fun _=>?_|refine kK' fun _=>?_|refine kU' ?_|((first|refine kR' ?_ ?_|refine kQ' ?_ ?_);all_goals(intro hc;try simp only[hcs]at hc;try(exfalso;first|contradiction|omega))))
  apply LR.call
  · exact rfl
  intro w1 h1
  refine CallsTo.mono (show CallsTo Tryz.prog 29 [.pointer (some ⟨bw, 0, none⟩), .slice (some ⟨bs2, 0, none⟩) 3 3] w1 _ from e29b (xs := [p.b1, p.b2, p.b3]) h1 (by (repeat (first | exact mH _ _ | apply mT))) (by (repeat (first | exact List.Sublist.refl _ | apply List.Sublist.cons_cons | apply List.Sublist.cons))) (by first | omega | (simp only [List.length_append]; omega)) (by simp) okn) ?_
  rintro v w2 ⟨aZ, cZ, rfl, st⟩
  rw [hbody] at st
  refine LR.back (St.did h1 (by (repeat (first | exact sH _ _ _ | apply sT))) rfl st (wrA_dep _ _ _ _)) ?_
  clear st h1

  repeat'(first|(apply CW.reg_heldC)|refine kv' ?_|apply jJ|refine jE' ?_|refine jp' ?_|(apply jc;kernel_rfl)|refine kg' ?_|refine kG' ?_|refine kB' fun _=>?_|refine kA' fun _=>?_|refine kK' fun _=>?_|refine kU' ?_|(apply LR.call; (· exact rfl); (intro w1 h1; first | (refine CallsTo.mono (show CallsTo Tryz.prog 33 [.pointer (some ⟨bw, 0, none⟩)] w1 _ from c80 bw aZ cZ (bodyP p) w1 (h1.holds (wrA 131 [] bw aZ cZ (bodyP p)) (by (repeat (first | exact mH _ _ | apply mT)))) (by omega)) ?_; rintro v w2 ⟨a8, c8, rfl, hn⟩; refine LR.back (h1.newSl hn) ?_; clear hn h1) | (refine CallsTo.mono (show CallsTo Tryz.prog 32 [.slice a8 (bodyP p).length c8] w1 _ from e32 a8 c8 (bodyP p) w1 (h1.rd_of_own (by (repeat (first | exact mH _ _ | apply mT)))) hbb (fun e => (ownsRow_some h1.g0 e).2) (by omega)) ?_; rintro v w2 ⟨a9, c9, rfl, hn⟩; refine LR.back (h1.newSl hn) ?_; clear hn h1)))|((first|refine kR' ?_ ?_|refine kQ' ?_ ?_);all_goals(intro hc;try simp only[hcs]at hc;try(exfalso;first|contradiction|omega))))
  (apply ret2; (· exact rfl); intro w' hS)
  exact ⟨a9, c9, rfl, hS.toNew (by (repeat (first | exact mH _ _ | apply mT)))⟩
end Go.Proofs.YtkolmkdbjagfcaaGreat

namespace Go.Proofs.YtkolmkdbjagfcaaGreat
open Go.Hb
attribute [local irreducible] LR CW At Ev thn blk finK noG again CallsTo DW QL dnext TW DP
set_option linter.unusedSimpArgs false
set_option linter.unusedVariables false
set_option maxRecDepth 100000

def okS (s : RS) : Prop := Byt s.1 ∧ s.1.length ≤ 140737488355328
theorem okS_gT {s : RS} (h : okS s) : okS (gT s) := ⟨gT_byt h.1, Nat.le_trans (gT_le s) h.2⟩
abbrev codR (bc : Nat) (br : Nat) (e : Int) : Asrt := .own bc (.cells [.pointer (some ⟨br, 0, none⟩), .int .i64 e].toArray 100 (0, 0))
def rD (bc br : Nat) (a : Option Addr) (c : Nat) (s : RS) : Asrt := both (codR bc br s.2) (rrA 143 [] br a c s.1)
theorem rD_dep (bc br : Nat) (a : Option Addr) (c : Nat) (s : RS) : (rD bc br a c s).dep := both_dep (Asrt.dep_own _ _) (rrA_dep _ _ _ _ _ _)
theorem rD_e {bc br : Nat} {a : Option Addr} {c : Nat} {s : RS} {w : World} (h : (rD bc br a c s).holds w) : w.cell? ⟨bc, 1, none⟩ = some (.int .i64 s.2) := cell_own h.1
theorem rD_r {bc br : Nat} {a : Option Addr} {c : Nat} {s : RS} {w : World} (h : (rD bc br a c s).holds w) : w.cell? ⟨bc, 0, none⟩ = some (.pointer (some ⟨br, 0, none⟩)) := cell_own h.1
theorem gT_err {s : RS} (h : s.2 ≠ 0) : gT s = s := by unfold gT; rw [getS_err h]
theorem gV_err {s : RS} (h : s.2 ≠ 0) : gV s = 0 := by unfold gV; rw [getS_err h]
set_option maxHeartbeats 2000000 in
theorem e62 (bc br : Nat) (a : Option Addr) (c : Nat) (s : RS) (w : World) (h : (rD bc br a c s).holds w) (hok : okS s) :
    CallsTo Tryz.prog 62 [.pointer (some ⟨bc, 0, none⟩)] w fun v w' => ∃ a' c', v = .int .i64 (gV s) ∧ Step (rD bc br a c s) (rD bc br a' c' (gT s)) w w' := by
  have hS0 := St.one h (both_live h) (rD_dep _ _ _ _ _)
  generalize hF : (rD bc br a c s).foot = F at hS0
  refine go_in (n := 23) (hS0.part (Asrt.dep_own _ _) (rrA_dep _ _ _ _ _ _)) Tryz.func62 rfl rfl ?_
  have fin_ : ∀ {w' : World} {a' : Option Addr} {c' : Nat} {s' : RS} {R : List Asrt}, St w F (codR bc br s'.2 :: rrA 143 [] br a' c' s'.1 :: R) w' → Step (rD bc br a c s) (rD bc br a' c' s') w w' := fun hS => by
    subst hF
    exact St.step (R := _) (St.join hS rfl rfl) rfl
  by_cases he : s.2 = 0
  · have hg := getS_ok he
    have e1 : gV s = ((dec s.1).1 : Int) := by unfold gV; rw [hg]
    have e2 : gT s = (s.1.drop (dec s.1).2.1, (dec s.1).2.2) := by unfold gT; rw [hg]
    rw [e1, e2]
    repeat'(first|refine kv' ?_|apply jJ|refine jE' ?_|refine jp' ?_|(apply jc;kernel_rfl)|refine kg' ?_|refine kG' ?_|refine kB' fun _=>?_|refine kA' fun _=>?_|refine kK' fun _=>?_|refine kU' ?_|(apply LR.call; (· exact rfl); (intro w1 h1; refine CallsTo.mono (show CallsTo Tryz.prog 100 [.pointer (some ⟨br, 0, none⟩)] w1 _ from c70 br a c s.1 w1 (h1.holds (rrA 143 [] br a c s.1) (by (repeat (first | exact mH _ _ | apply mT)))) hok.1 (by have := hok.2; omega)) ?_; rintro v w2 ⟨a2, c2, rfl, st⟩; refine LR.back (St.did h1 (by (repeat (first | exact sH _ _ _ | apply sT))) rfl st (rrA_dep _ _ _ _ _ _)) ?_; clear st h1))|((first|refine kR' ?_ ?_|refine kQ' ?_ ?_);all_goals(intro hc;try simp only[hcs]at hc;try(exfalso;first|contradiction|omega))))
    (apply ret1; (· exact rfl); intro w' hS)
    exact ⟨a2, c2, rfl, fin_ (s' := (s.1.drop (dec s.1).2.1, (dec s.1).2.2)) hS⟩
  · rw [gV_err he, gT_err he]
    repeat'(first|refine kv' ?_|apply jJ|refine jE' ?_|refine jp' ?_|(apply jc;kernel_rfl)|refine kg' ?_|refine kG' ?_|refine kB' fun _=>?_|refine kA' fun _=>?_|refine kK' fun _=>?_|refine kU' ?_|((first|refine kR' ?_ ?_|refine kQ' ?_ ?_);all_goals(intro hc;try simp only[hcs]at hc;try(exfalso;first|contradiction|omega))))
    (apply ret1; (· exact rfl); intro w' hS)
    exact ⟨a, c, rfl, fin_ (s' := s) hS⟩
set_option maxHeartbeats 2000000 in
theorem e66 (bc br : Nat) (a : Option Addr) (c : Nat) (s : RS) (w : World) (h : (rD bc br a c s).holds w) (hok : okS s) :
    CallsTo Tryz.prog 66 [.pointer (some ⟨bc, 0, none⟩)] w fun v w' => ∃ a' c', v = .agg [.int .i64 (gV s), .int .i64 (gV (gT s))].toArray ∧ Step (rD bc br a c s) (rD bc br a' c' (gT (gT s))) w w' := by
  have hS0 := St.one h (both_live h) (rD_dep _ _ _ _ _)
  generalize hF : (rD bc br a c s).foot = F at hS0
  refine go_in (n := 10) hS0 Tryz.func66 rfl rfl ?_
  repeat'(first|refine kv' ?_|apply jJ|refine jE' ?_|refine jp' ?_|(apply jc;kernel_rfl)|refine kg' ?_|refine kG' ?_|refine kB' fun _=>?_|refine kA' fun _=>?_|refine kK' fun _=>?_|refine kU' ?_|(apply LR.call; (· exact rfl); (intro w1 h1; refine CallsTo.mono (show CallsTo Tryz.prog 62 [.pointer (some ⟨bc, 0, none⟩)] w1 _ from e62 bc br _ _ _ w1 (h1.holds (rD bc br _ _ _) (by (repeat (first | exact mH _ _ | apply mT)))) (by repeat (first | exact hok | apply okS_gT))) ?_; rintro v w2 ⟨a2, c2, rfl, st⟩; refine LR.back (St.did h1 (by (repeat (first | exact sH _ _ _ | apply sT))) rfl st (rD_dep _ _ _ _ _)) ?_; clear st h1))|((first|refine kR' ?_ ?_|refine kQ' ?_ ?_);all_goals(intro hc;try simp only[hcs]at hc;try(exfalso;first|contradiction|omega))))
  (apply ret1c; (· exact rfl); (· exact inferInstance); (· exact rfl); (· (repeat (first | exact List.Mem.head _ | apply List.Mem.tail))); (· exact rfl); intro w' hS)
  subst hF
  exact ⟨_, _, rfl, (front hS 1 rfl rfl).step rfl⟩
def manyS (most : Int) (s : RS) : RS := if (gT s).2 = 0 ∧ most < gV s then ((gT s).1, 5) else gT s
theorem okS_many {most : Int} {s : RS} (h : okS s) : okS (manyS most s) := by
  unfold manyS
  have := okS_gT h
  split
  · exact this
  · exact this
theorem lstR_many {α : Type} (f : RS → α × RS) (most : Int) (s : RS) : lstR f most s = rdL f (if (manyS most s).2 ≠ 0 then 0 else (gV s).toNat) (manyS most s) := by
  have g1 : (getS s).2 = gT s := rfl
  have g2 : (getS s).1 = gV s := rfl
  by_cases h1 : (gT s).2 = 0
  · by_cases h2 : most < gV s
    · have e : manyS most s = ((gT s).1, 5) := by unfold manyS; rw [if_pos ⟨h1, h2⟩]
      rw [e]
      unfold lstR
      rw [g1, g2, if_neg (show ¬ (gT s).2 ≠ 0 by simp [h1]), if_pos (show most < gV s from h2), if_pos (by simp)]
      rfl
    · have e : manyS most s = gT s := by unfold manyS; rw [if_neg (fun h => h2 h.2)]
      rw [e]
      unfold lstR
      rw [g1, g2, if_neg (show ¬ (gT s).2 ≠ 0 by simp [h1]), if_neg (show ¬ most < gV s from h2), if_neg (by simp [h1])]
  · have e : manyS most s = gT s := by unfold manyS; rw [if_neg (fun h => h1 h.1)]
    rw [e]
    unfold lstR
    rw [g1, if_pos (show (gT s).2 ≠ 0 from h1), if_pos h1]
    rfl
set_option maxHeartbeats 2000000 in
theorem e103 (bc br : Nat) (a : Option Addr) (c : Nat) (s : RS) (most : Int) (w : World) (h : (rD bc br a c s).holds w) (hok : okS s) :
    CallsTo Tryz.prog 103 [.pointer (some ⟨bc, 0, none⟩), .int .i64 most] w fun v w' => ∃ a' c', v = .int .i64 (gV s) ∧ Step (rD bc br a c s) (rD bc br a' c' (manyS most s)) w w' := by
  have hS0 := St.one h (both_live h) (rD_dep _ _ _ _ _)
  generalize hF : (rD bc br a c s).foot = F at hS0
  refine go_in (n := 22) hS0 Tryz.func103 rfl rfl ?_
  repeat'(first|refine kv' ?_|apply jJ|refine jE' ?_|refine jp' ?_|(apply jc;kernel_rfl)|refine kg' ?_|refine kG' ?_|refine kB' fun _=>?_|refine kA' fun _=>?_|refine kK' fun _=>?_|refine kU' ?_|((first|refine kR' ?_ ?_|refine kQ' ?_ ?_);all_goals(intro hc;try simp only[hcs]at hc;try(exfalso;first|contradiction|omega))))
  apply LR.call
  · exact rfl
  intro w1 h1
  refine CallsTo.mono (show CallsTo Tryz.prog 62 [.pointer (some ⟨bc, 0, none⟩)] w1 _ from e62 bc br a c s w1 (h1.holds (rD bc br a c s) (by (repeat (first | exact mH _ _ | apply mT)))) hok) ?_
  rintro v w2 ⟨a2, c2, rfl, st⟩
  have h2 : St w F [codR bc br (gT s).2, rrA 143 [] br a2 c2 (gT s).1] w2 := (St.did h1 (Sel.head _ _ _) rfl st (rD_dep _ _ _ _ _)).part (Asrt.dep_own _ _) (rrA_dep _ _ _ _ _ _)
  refine LR.back h2 ?_
  clear st h1 h2
  have fin_ : ∀ {w' : World} {a' : Option Addr} {c' : Nat} {s' : RS} {R : List Asrt}, St w F (codR bc br s'.2 :: rrA 143 [] br a' c' s'.1 :: R) w' → Step (rD bc br a c s) (rD bc br a' c' s') w w' := fun hS => by
    subst hF
    exact St.step (R := _) (St.join hS rfl rfl) rfl
  repeat'(first|refine kv' ?_|apply jJ|refine jE' ?_|refine jp' ?_|(apply jc;kernel_rfl)|refine kg' ?_|refine kG' ?_|refine kB' fun _=>?_|refine kA' fun _=>?_|refine kK' fun _=>?_|refine kU' ?_|((first|refine kR' ?_ ?_|refine kQ' ?_ ?_);all_goals(intro hc;try simp only[hcs]at hc;try(exfalso;first|contradiction|omega))))
  all_goals (
    (apply ret1; (· exact rfl); intro w' hS)
    refine ⟨a2, c2, rfl, ?_⟩
    first
      | (rw [show manyS most s = ((gT s).1, 5) from by unfold manyS; rw [if_pos ⟨by assumption, by assumption⟩]]; exact fin_ (s' := ((gT s).1, 5)) hS)
      | (rw [show manyS most s = gT s from by unfold manyS; rw [if_neg (by simp_all)]]; exact fin_ (s' := gT s) hS)
      | (rw [show manyS most s = gT s from by unfold manyS; rw [if_neg (fun h => by have h1 := h.1; have h2 := h.2; first | contradiction | omega)]]; exact fin_ (s' := gT s) hS))
def datV (u : RS) : Dat := { zeroDat with rseq := gV u, rrep := gV (gT u), seq := gV (gT (gT u)), sender := gV (gT (gT (gT u))), stamp := gV (gT (gT (gT (gT u)))), msg := (msgR (gT (gT (gT (gT (gT u)))))).1 }
def dat5 (u : RS) (m : Msg) : Dat := { zeroDat with rseq := gV u, rrep := gV (gT u), seq := gV (gT (gT u)), sender := gV (gT (gT (gT u))), stamp := gV (gT (gT (gT (gT u)))), msg := m }
theorem datV_5 (u : RS) : datV u = dat5 u (msgR (gT (gT (gT (gT (gT u)))))).1 := rfl
set_option maxHeartbeats 8000000 in
theorem e63 (bc br : Nat) (a : Option Addr) (c : Nat) (s : RS) (w : World) (h : (rD bc br a c s).holds w) (hok : okS s) :
    CallsTo Tryz.prog 63 [.pointer (some ⟨bc, 0, none⟩)] w fun v w' => ∃ ma mc a' c', v = (datV s).val ma mc ∧ (ma = none → mc = 0) ∧
      Step (rD bc br a c s) (both (rD bc br a' c' (msgR (gT (gT (gT (gT (gT s)))))).2) (osl (.slice ma (datV s).msg.body.length mc) 5 1 (datV s).msg.body.length (bv (datV s).msg.body))) w w' := by
  have hS0 := St.one h (both_live h) (rD_dep _ _ _ _ _)
  generalize hF : (rD bc br a c s).foot = F at hS0
  refine go_in (n := 52) hS0 Tryz.func63 rfl rfl ?_
  rw [datV_5]
  have h5 : okS (gT (gT (gT (gT (gT s))))) := by repeat (first | exact hok | apply okS_gT)
  obtain ⟨u, hu⟩ : ∃ u, gT (gT (gT (gT (gT s)))) = u := ⟨_, rfl⟩
  rw [hu] at h5 ⊢
  obtain ⟨r0, hr0⟩ : ∃ r, msgR u = r := ⟨_, rfl⟩
  have hr1 := hr0
  rw [hr0]
  unfold msgR at hr1
  have fin_ : ∀ {w' : World} {a' : Option Addr} {c' : Nat} {s' : RS} {X : Asrt} {R : List Asrt}, St w F (X :: rD bc br a' c' s' :: R) w' → X.excl = true → Step (rD bc br a c s) (both (rD bc br a' c' s') X) w w' := fun hS hx => by
    subst hF
    exact St.step (R := _) (St.join (St.swap hS) rfl hx) rfl
  obtain ⟨l, e⟩ := u
  simp only at hr1 h5
  have fin2 : ∀ {w' : World} {a' : Option Addr} {c' : Nat} {s' : RS} {X : Asrt} {R : List Asrt}, St w F (X :: rrA 143 [] br a' c' s'.1 :: codR bc br s'.2 :: R) w' → X.excl = true → Step (rD bc br a c s) (both (rD bc br a' c' s') X) w w' := fun {w' a' c' s' X R} hS hx => by
    have h1 : St w F (codR bc br s'.2 :: rrA 143 [] br a' c' s'.1 :: X :: R) w' := front (front hS 1 rfl rfl) 2 rfl rfl
    subst hF
    exact St.step (R := R) (St.join (x := rD bc br a' c' s') (St.join h1 rfl rfl) rfl hx) rfl
  by_cases he : e = 0
  · subst he
    rw [if_neg (by simp)] at hr1
    have hof := @octs_facts 512 l
    obtain ⟨⟨ob, oe, orr⟩, hoc⟩ : ∃ r, octs 512 l = r := ⟨_, rfl⟩
    rw [hoc] at hr1 hof
    simp only at hr1 hof
    repeat'(first|refine kv' ?_|apply jJ|refine jE' ?_|refine jp' ?_|(apply jc;kernel_rfl)|refine kg' ?_|refine kG' ?_|refine kB' fun _=>?_|refine kA' fun _=>?_|refine kK' fun _=>?_|refine kU' ?_|(apply LR.call; (· exact rfl); (intro w1 h1; first | (refine CallsTo.mono (show CallsTo Tryz.prog 62 [.pointer (some ⟨bc, 0, none⟩)] w1 _ from e62 bc br _ _ _ w1 (h1.holds (rD bc br _ _ _) (by (repeat (first | exact mH _ _ | apply mT)))) (by repeat (first | exact hok | apply okS_gT))) ?_; rintro v w2 ⟨a2, c2, rfl, st⟩; refine LR.back (St.did h1 (by (repeat (first | exact sH _ _ _ | apply sT))) rfl st (rD_dep _ _ _ _ _)) ?_; clear st h1) | (refine CallsTo.mono (show CallsTo Tryz.prog 66 [.pointer (some ⟨bc, 0, none⟩)] w1 _ from e66 bc br _ _ _ w1 (h1.holds (rD bc br _ _ _) (by (repeat (first | exact mH _ _ | apply mT)))) (by repeat (first | exact hok | apply okS_gT))) ?_; rintro v w2 ⟨a2, c2, rfl, st⟩; refine LR.back (St.did h1 (by (repeat (first | exact sH _ _ _ | apply sT))) rfl st (rD_dep _ _ _ _ _)) ?_; clear st h1)))|(apply LR.ev; (· first | (apply Ev.load (v := .int .i64 0); (· exact rfl); (· exact fun w' hw' => by have h9 := rD_e (hw'.holds (rD bc br _ _ _) (by (repeat (first | exact mH _ _ | apply mT)))); rw [hu] at h9; exact h9)) | (apply Ev.load (v := .pointer (some ⟨br, 0, none⟩)); (· exact rfl); (· exact fun w' hw' => rD_r (hw'.holds (rD bc br _ _ _) (by (repeat (first | exact mH _ _ | apply mT))))))); (· exact rfl))|((first|refine kR' ?_ ?_|refine kQ' ?_ ?_);all_goals(intro hc;try simp only[hcs]at hc;try(exfalso;first|contradiction|omega))))
    apply LR.call
    · exact rfl
    intro w1 h1
    rw [hu] at h1
    have h2 := (front h1 2 rfl rfl).part (Asrt.dep_own _ _) (rrA_dep _ _ _ _ _ _)
    refine CallsTo.mono (show CallsTo Tryz.prog 101 [.pointer (some ⟨br, 0, none⟩), .int .i64 512] w1 _ from c71 br _ _ l 512 w1 (h2.holds (rrA 143 [] br _ _ l) (mT _ (mH _ _))) h5.1 h5.2) ?_
    rw [hoc]
    rintro v w2 ⟨a3, c3, a4, c4, hv, st⟩
    replace hv : v = .tuple [.slice a4 ob.length c4, .int .i64 oe].toArray := hv
    subst hv
    have h3 := (front (St.did h2 (.tail _ (.head _ _ _)) rfl (St.step (St.join st rfl rfl) rfl) (both_dep (rrA_dep _ _ _ _ _ _) (osl.dep _ _ _ _ _))) 1 rfl rfl).part (rrA_dep _ _ _ _ _ _) (osl.dep _ _ _ _ _)
    refine LR.back h3 ?_
    clear h1 h2 h3 st
    by_cases ho1 : oe = 0
    · subst ho1
      rw [if_neg (by simp)] at hr1
      have hof := hof rfl
      have hob : Byt ob := fun x hx => h5.1 x (hof.2 x hx)
      obtain ⟨⟨m, e2⟩, hum⟩ : ∃ r, unpack ob = r := ⟨_, rfl⟩
      rw [hum] at hr1
      simp only at hr1
      subst hr1
      repeat'(first|refine kv' ?_|apply jJ|refine jE' ?_|refine jp' ?_|(apply jc;kernel_rfl)|refine kg' ?_|refine kG' ?_|refine kB' fun _=>?_|refine kA' fun _=>?_|refine kK' fun _=>?_|refine kU' ?_|(apply LR.call; (· exact rfl); (intro w1 h1; refine CallsTo.mono (show CallsTo Tryz.prog 102 [.slice a4 ob.length c4] w1 _ from d24 a4 c4 ob w1 (h1.rd_of_own (by (repeat (first | exact mH _ _ | apply mT)))) (fun e => (ownsRow_some (h1.holds (osl (.slice a4 ob.length c4) 5 1 ob.length (bv ob)) (by (repeat (first | exact mH _ _ | apply mT)))) e).2) (by have := h5.2; simp only at this; omega) hob) ?_; rw [hum]; rintro v w2 ⟨a5, c5, hv, hn⟩; replace hv : v = .tuple [m.val a5 c5, .int .i64 e2].toArray := hv; subst hv; replace hn : NewSl w1 w2 (.slice a5 m.body.length c5) 5 1 m.body.length (bv m.body) := hn; refine LR.back (h1.newSl hn) ?_; clear hn h1))|((first|refine kR' ?_ ?_|refine kQ' ?_ ?_);all_goals(intro hc;try simp only[hcs]at hc;try(exfalso;first|contradiction|omega))))
      (apply ret1c; (· exact rfl); (· exact inferInstance); (· exact rfl); (· (repeat (first | exact List.Mem.head _ | apply List.Mem.tail))); (· exact rfl); intro w' hS)
      refine ⟨a5, c5, a3, c3, rfl, ?_, fin2 (s' := (orr, e2)) (X := osl (.slice a5 m.body.length c5) 5 1 m.body.length (bv m.body)) (hS.sub (L' := [osl (.slice a5 m.body.length c5) 5 1 m.body.length (bv m.body), rrA 143 [] br a3 c3 orr, codR bc br e2]) (by (repeat (first | exact List.Sublist.refl _ | apply List.Sublist.cons_cons | apply List.Sublist.cons)))) rfl⟩
      exact fun e => (ownsRow_some (hS.holds (osl (.slice a5 m.body.length c5) 5 1 m.body.length (bv m.body)) (by (repeat (first | exact mH _ _ | apply mT)))) e).2
    · rw [if_pos ho1] at hr1
      subst hr1
      repeat'(first|refine kv' ?_|apply jJ|refine jE' ?_|refine jp' ?_|(apply jc;kernel_rfl)|refine kg' ?_|refine kG' ?_|refine kB' fun _=>?_|refine kA' fun _=>?_|refine kK' fun _=>?_|refine kU' ?_|((first|refine kR' ?_ ?_|refine kQ' ?_ ?_);all_goals(intro hc;try simp only[hcs]at hc;try(exfalso;first|contradiction|omega))))
      (apply ret1c; (· exact rfl); (· exact inferInstance); (· exact rfl); (· (repeat (first | exact List.Mem.head _ | apply List.Mem.tail))); (· exact rfl); intro w' hS)
      exact ⟨none, 0, a3, c3, rfl, fun _ => rfl, fin2 (s' := (orr, oe)) ((hS.sub (L' := [rrA 143 [] br a3 c3 orr, codR bc br oe]) (by (repeat (first | exact List.Sublist.refl _ | apply List.Sublist.cons_cons | apply List.Sublist.cons)))).nilsl 5 1) rfl⟩
  · rw [if_pos he] at hr1
    subst hr1
    repeat'(first|refine kv' ?_|apply jJ|refine jE' ?_|refine jp' ?_|(apply jc;kernel_rfl)|refine kg' ?_|refine kG' ?_|refine kB' fun _=>?_|refine kA' fun _=>?_|refine kK' fun _=>?_|refine kU' ?_|(apply LR.call; (· exact rfl); (intro w1 h1; first | (refine CallsTo.mono (show CallsTo Tryz.prog 62 [.pointer (some ⟨bc, 0, none⟩)] w1 _ from e62 bc br _ _ _ w1 (h1.holds (rD bc br _ _ _) (by (repeat (first | exact mH _ _ | apply mT)))) (by repeat (first | exact hok | apply okS_gT))) ?_; rintro v w2 ⟨a2, c2, rfl, st⟩; refine LR.back (St.did h1 (by (repeat (first | exact sH _ _ _ | apply sT))) rfl st (rD_dep _ _ _ _ _)) ?_; clear st h1) | (refine CallsTo.mono (show CallsTo Tryz.prog 66 [.pointer (some ⟨bc, 0, none⟩)] w1 _ from e66 bc br _ _ _ w1 (h1.holds (rD bc br _ _ _) (by (repeat (first | exact mH _ _ | apply mT)))) (by repeat (first | exact hok | apply okS_gT))) ?_; rintro v w2 ⟨a2, c2, rfl, st⟩; refine LR.back (St.did h1 (by (repeat (first | exact sH _ _ _ | apply sT))) rfl st (rD_dep _ _ _ _ _)) ?_; clear st h1)))|(apply LR.ev; (· first | (apply Ev.load (v := .int .i64 e); (· exact rfl); (· exact fun w' hw' => by have h9 := rD_e (hw'.holds (rD bc br _ _ _) (by (repeat (first | exact mH _ _ | apply mT)))); rw [hu] at h9; exact h9)) | (apply Ev.load (v := .pointer (some ⟨br, 0, none⟩)); (· exact rfl); (· exact fun w' hw' => rD_r (hw'.holds (rD bc br _ _ _) (by (repeat (first | exact mH _ _ | apply mT))))))); (· exact rfl))|((first|refine kR' ?_ ?_|refine kQ' ?_ ?_);all_goals(intro hc;try simp only[hcs]at hc;try(exfalso;first|contradiction|omega))))
    (apply ret1c; (· exact rfl); (· exact inferInstance); (· exact rfl); (· (repeat (first | exact List.Mem.head _ | apply List.Mem.tail))); (· exact rfl); intro w' hS)
    rw [hu] at hS
    exact ⟨none, 0, _, _, rfl, fun _ => rfl, fin_ ((hS.sub (L' := [rD bc br _ _ (l, e)]) (by (repeat (first | exact List.Sublist.refl _ | apply List.Sublist.cons_cons | apply List.Sublist.cons)))).nilsl 5 1) rfl⟩
end Go.Proofs.YtkolmkdbjagfcaaGreat

namespace Go.Proofs.YtkolmkdbjagfcaaGreat
open Go.Hb
attribute [local irreducible] LR CW At Ev thn blk finK noG again CallsTo DW QL dnext TW DP
set_option linter.unusedSimpArgs false
set_option linter.unusedVariables false
set_option maxRecDepth 100000

theorem rdL_stick {α : Type} {f : RS → α × RS} (hf : ∀ s, s.2 ≠ 0 → (f s).2 = s) {s : RS} {i : Nat} : ∀ {k : Nat}, i ≤ k → (rdL f i s).2.2 ≠ 0 → (rdL f k s).2 = (rdL f i s).2
  | 0, h, _ => by rw [show i = 0 by omega]
  | k + 1, h, he => by
    by_cases hk : i = k + 1
    · subst hk; rfl
    · have ih := rdL_stick hf (k := k) (by omega) he
      show (f (rdL f k s).2).2 = _
      rw [ih, hf _ he]
theorem getS_stick (s : RS) (h : s.2 ≠ 0) : (getS s).2 = s := by rw [getS_err h]
theorem getE_stick (s : RS) (h : s.2 ≠ 0) : (getE s).2 = s := by
  unfold getE
  simp only [getS_err h]
theorem okS_rdL {α : Type} {f : RS → α × RS} (hf : ∀ s, okS s → okS (f s).2) : ∀ (k : Nat) (s : RS), okS s → okS (rdL f k s).2
  | 0, _, h => h
  | k + 1, s, h => hf _ (okS_rdL hf k s h)
def tokV (u : RS) : Tkn := { zTkn with r1 := gV u, r2 := gV (gT u), hop := gV (gT (gT u)), seq := gV (gT (gT (gT u))), aru := gV (gT (gT (gT (gT u)))), low := gV (gT (gT (gT (gT (gT u))))), stamp := gV (gT (gT (gT (gT (gT (gT u)))))), idle := gV (gT (gT (gT (gT (gT (gT (gT u))))))), ask := (lstR getS 16 (gT (gT (gT (gT (gT (gT (gT (gT u))))))))).1 }
def tokT (u : RS) : RS := (lstR getS 16 (gT (gT (gT (gT (gT (gT (gT (gT u))))))))).2
structure Lst2 where
  i : Nat
  a : Option Addr
  c : Nat
  ta : Option Addr
  tc : Nat
set_option maxHeartbeats 32000000 in
theorem e64 (bc br : Nat) (a : Option Addr) (c : Nat) (s : RS) (w : World) (h : (rD bc br a c s).holds w) (hok : okS s) :
    CallsTo Tryz.prog 64 [.pointer (some ⟨bc, 0, none⟩)] w fun v w' => ∃ t ta tc a' c', v = Tkn.val t ta tc ∧ (ta = none → tc = 0) ∧ ((tokT s).2 = 0 → t = tokV s) ∧
      Step (rD bc br a c s) (both (rD bc br a' c' (tokT s)) (osl (.slice ta t.ask.length tc) 3 1 t.ask.length (iv t.ask))) w w' := by
  have hS0 := St.one h (both_live h) (rD_dep _ _ _ _ _)
  generalize hF : (rD bc br a c s).foot = F at hS0
  have h8 : okS (gT (gT (gT (gT (gT (gT (gT (gT s)))))))) := by repeat (first | exact hok | apply okS_gT)
  have hmo := okS_many (most := 16) h8
  have hnb := gV_bd (gT (gT (gT (gT (gT (gT (gT (gT s))))))))
  have hlm := lstR_many getS 16 (gT (gT (gT (gT (gT (gT (gT (gT s))))))))
  obtain ⟨n, hn⟩ : ∃ n : Nat, gV (gT (gT (gT (gT (gT (gT (gT (gT s)))))))) = n := ⟨(gV (gT (gT (gT (gT (gT (gT (gT (gT s))))))))).toNat, by omega⟩
  obtain ⟨s1, hs1⟩ : ∃ s1, manyS 16 (gT (gT (gT (gT (gT (gT (gT (gT s)))))))) = s1 := ⟨_, rfl⟩
  obtain ⟨k0, hk0⟩ : ∃ k0 : Nat, (if s1.2 ≠ 0 then 0 else n) = k0 := ⟨_, rfl⟩
  have hlm2 : lstR getS 16 (gT (gT (gT (gT (gT (gT (gT (gT s)))))))) = rdL getS k0 s1 := by rw [hlm, hs1, hn, ← hk0]; rfl
  have hk9 : s1.2 = 0 → n ≤ 16 := fun hz => by
    have h9 := hs1
    unfold manyS at h9
    split at h9
    · rw [← h9] at hz; cases hz
    · rename_i hq
      rw [← h9] at hz
      have : ¬ 16 < gV (gT (gT (gT (gT (gT (gT (gT (gT s)))))))) := fun hh => hq ⟨hz, hh⟩
      omega
  have hkm : k0 ≤ 16 := by
    rw [← hk0]
    split
    · omega
    · rename_i hz
      exact hk9 (by omega)
  have htT : tokT s = (rdL getS k0 s1).2 := by unfold tokT; rw [hlm2]
  have htV : tokV s = ⟨gV s, gV (gT s), gV (gT (gT s)), gV (gT (gT (gT s))), gV (gT (gT (gT (gT s)))), gV (gT (gT (gT (gT (gT s))))), gV (gT (gT (gT (gT (gT (gT s)))))), gV (gT (gT (gT (gT (gT (gT (gT s))))))), (rdL getS k0 s1).1⟩ := by unfold tokV; rw [hlm2]; try rfl
  rw [hs1] at hmo
  rw [htT, htV]
  clear htT htV hlm hlm2
  refine go_in (n := 49) hS0 Tryz.func64 rfl rfl ?_
  repeat'(first|(apply kA (d := 3);exact rfl;intro bt)|(apply kA (d := 2);exact rfl;intro b2)|refine kv' ?_|apply jJ|refine jE' ?_|refine jp' ?_|(apply jc;kernel_rfl)|refine kg' ?_|refine kG' ?_|refine kB' fun _=>?_|refine kA' fun _=>?_|refine kK' fun _=>?_|refine kU' ?_|(apply LR.call; (· exact rfl); (intro w1 h1; first | (refine CallsTo.mono (show CallsTo Tryz.prog 62 [.pointer (some ⟨bc, 0, none⟩)] w1 _ from e62 bc br _ _ _ w1 (h1.holds (rD bc br _ _ _) (by (repeat (first | exact mH _ _ | apply mT)))) (by repeat (first | exact hok | apply okS_gT))) ?_; rintro v w2 ⟨a2, c2, rfl, st⟩; refine LR.back (St.did h1 (by (repeat (first | exact sH _ _ _ | apply sT))) rfl st (rD_dep _ _ _ _ _)) ?_; clear st h1) | (refine CallsTo.mono (show CallsTo Tryz.prog 66 [.pointer (some ⟨bc, 0, none⟩)] w1 _ from e66 bc br _ _ _ w1 (h1.holds (rD bc br _ _ _) (by (repeat (first | exact mH _ _ | apply mT)))) (by repeat (first | exact hok | apply okS_gT))) ?_; rintro v w2 ⟨a2, c2, rfl, st⟩; refine LR.back (St.did h1 (by (repeat (first | exact sH _ _ _ | apply sT))) rfl st (rD_dep _ _ _ _ _)) ?_; clear st h1) | (refine CallsTo.mono (show CallsTo Tryz.prog 103 [.pointer (some ⟨bc, 0, none⟩), .int .i64 16] w1 _ from e103 bc br _ _ _ 16 w1 (h1.holds (rD bc br _ _ _) (by (repeat (first | exact mH _ _ | apply mT)))) (by repeat (first | exact hok | apply okS_gT))) ?_; rintro v w2 ⟨a9, c9, rfl, st⟩; refine LR.back (St.did h1 (by (repeat (first | exact sH _ _ _ | apply sT))) rfl st (rD_dep _ _ _ _ _)) ?_; clear st h1)))|((first|refine kR' ?_ ?_|refine kQ' ?_ ?_);all_goals(intro hc;try simp only[hcs]at hc;try(exfalso;first|contradiction|omega))))
  rw [hs1, hn]
  apply CW.loop [5, 29, 30, 31, 32, 33, 34, 35, 36, 37, 38, 39, 40, 41, 42, 43, 44, 45, 46, 47] (fun st : Lst2 => st.i ≤ k0) (fun st => [(5, Value.int .i64 (st.i : Int))])
    (fun st => St w F [.own bt (.cells ([.int .i64 (gV s), .int .i64 (gV (gT s)), .int .i64 (gV (gT (gT s))), .int .i64 (gV (gT (gT (gT s)))), .int .i64 (gV (gT (gT (gT (gT s))))), .int .i64 (gV (gT (gT (gT (gT (gT s)))))), .int .i64 (gV (gT (gT (gT (gT (gT (gT s))))))), .int .i64 (gV (gT (gT (gT (gT (gT (gT (gT s)))))))), .slice st.ta st.i st.tc] : List Value).toArray 33 (0, 0)), .own b2 (.cells ([.int .i64 0, .int .i64 0, .int .i64 0, .int .i64 0, .int .i64 0, .int .i64 0, .int .i64 0, .int .i64 0, .slice none 0 0] : List Value).toArray 33 (0, 0)), rD bc br st.a st.c (rdL getS st.i s1).2, osl (.slice st.ta st.i st.tc) 3 1 st.i (iv (rdL getS st.i s1).1)]) (fun st => k0 - st.i)
  · exact fun w' hw' => ⟨⟨0, a9, c9, none, 0⟩, Nat.zero_le _, ⟨rfl, trivial⟩, front (front (front (front (hw'.nilsl 3 1) 3 rfl rfl) 3 rfl rfl) 3 rfl rfl) 0 rfl rfl⟩
  rintro ⟨i, a3, c3, ta, tc⟩ g1 hi
  simp only at hi ⊢
  have hoi : okS (rdL getS i s1).2 := okS_rdL (fun s h => okS_gT h) i s1 hmo
  have hsu : rdL getS (i + 1) s1 = ((rdL getS i s1).1 ++ [(getS (rdL getS i s1).2).1], (getS (rdL getS i s1).2).2) := rfl
  have hli := rdL_len getS i s1
  have hstk : (rdL getS i s1).2.2 ≠ 0 → (rdL getS k0 s1).2 = (rdL getS i s1).2 := fun he => rdL_stick getS_stick hi he
  have hi0 : i = 0 → (rdL getS i s1).2 = s1 := fun e => by subst e; rfl
  obtain ⟨⟨L, si⟩, hLs⟩ : ∃ r, rdL getS i s1 = r := ⟨_, rfl⟩
  rw [hLs] at hoi hsu hli hstk hi0
  rw [hLs]
  simp only at hoi hsu hli hstk hi0 ⊢
  by_cases hgo : i < n ∧ si.2 = 0
  · obtain ⟨hin, hz⟩ := hgo
    have hik : i < k0 := by
      rw [← hk0]
      split
      · rename_i hne
        exfalso
        have : k0 = 0 := by rw [← hk0, if_pos hne]
        have h2 := hi0 (by omega)
        rw [← h2] at hne
        exact hne hz
      · exact hin
    repeat'(first|(apply CW.reg_sink 7 (St w F [.own bt (.cells ([.int .i64 (gV s), .int .i64 (gV (gT s)), .int .i64 (gV (gT (gT s))), .int .i64 (gV (gT (gT (gT s)))), .int .i64 (gV (gT (gT (gT (gT s))))), .int .i64 (gV (gT (gT (gT (gT (gT s)))))), .int .i64 (gV (gT (gT (gT (gT (gT (gT s))))))), .int .i64 (gV (gT (gT (gT (gT (gT (gT (gT s)))))))), .slice ta i tc] : List Value).toArray 33 (0, 0))]); (· exact rfl); (· decide +kernel))|refine kv' ?_|apply jJ|refine jE' ?_|refine jp' ?_|(apply jc;kernel_rfl)|refine kg' ?_|refine kG' ?_|refine kB' fun _=>?_|refine kA' fun _=>?_|refine kK' fun _=>?_|refine kU' ?_|(apply LR.ev; (· apply Ev.load (v := .int .i64 si.2); (· exact rfl); (· exact fun w' hw' => rD_e (hw'.holds (rD bc br a3 c3 si) (by (repeat (first | exact mH _ _ | apply mT)))))); (· exact rfl))|((first|refine kR' ?_ ?_|refine kQ' ?_ ?_);all_goals(intro hc;try simp only[hcs]at hc;try(exfalso;first|contradiction|omega))))
    all_goals (
      apply DW.quiet [0, 1, 2]
      · decide +kernel
      · first | exact fun _ h => h | exact fun _ h => St.sub h (by repeat (first | exact List.Sublist.refl _ | apply List.Sublist.cons_cons | apply List.Sublist.cons))
      repeat'(first|refine yv' ?_|refine uv' ?_|refine un' ?_|(refine us' ?_ ?_;all_goals(intro hc;try simp only[hcs]at hc;try(exfalso;first|contradiction|omega)))|apply QL.nil)
      all_goals (show DW _ _ _ _ _ _ _ _))
    all_goals (
      apply DW.loud 3
      · exact rfl
      · decide +kernel
      repeat'(first|(apply Go.Hb.kK;(iterate 4 exact rfl);intro bs)|refine kg' ?_|refine kG' ?_|apply kM|refine kv' ?_|refine kK' fun _=>?_|refine kU' ?_|refine kB' fun _=>?_|refine kA' fun _=>?_|(apply LR.call; (· exact rfl); (intro w1 h1; refine CallsTo.mono (show CallsTo Tryz.prog 62 [.pointer (some ⟨bc, 0, none⟩)] w1 _ from e62 bc br a3 c3 si w1 (h1.holds (rD bc br a3 c3 si) (by (repeat (first | exact mH _ _ | apply mT)))) hoi) ?_; rintro v w2 ⟨a4, c4, rfl, st⟩; refine LR.back (St.did h1 (by (repeat (first | exact sH _ _ _ | apply sT))) rfl st (rD_dep _ _ _ _ _)) ?_; clear st h1))|(apply LR.append (xs := iv L) (news := [Value.int .i64 (gV si)]) (m := 1); (· exact rfl); (· exact rfl); (· intro a' c'; (repeat (first | exact sH _ _ _ | apply sT))); (· exact fun w' hw' => hw'.rd_of_blk (mH _ _)); (· exact fun hx => by cases hx); (· exact rfl); (· exact rfl); (· omega); (· unfold maxLen; omega); (· exact rfl); (intro a5 c5)))
      all_goals (refine At.stage_same (fun _ h => St.sub h (by repeat (first | exact List.Sublist.refl _ | apply List.Sublist.cons_cons | apply List.Sublist.cons))) ?_))
    all_goals (
      apply DW.loud 4
      · exact rfl
      · decide +kernel
      repeat'(first|(apply Go.Hb.kK;(iterate 4 exact rfl);intro bs)|refine kg' ?_|refine kG' ?_|apply kM|refine kv' ?_|refine kK' fun _=>?_|refine kU' ?_|refine kB' fun _=>?_|refine kA' fun _=>?_|(apply LR.call; (· exact rfl); (intro w1 h1; refine CallsTo.mono (show CallsTo Tryz.prog 62 [.pointer (some ⟨bc, 0, none⟩)] w1 _ from e62 bc br a3 c3 si w1 (h1.holds (rD bc br a3 c3 si) (by (repeat (first | exact mH _ _ | apply mT)))) hoi) ?_; rintro v w2 ⟨a4, c4, rfl, st⟩; refine LR.back (St.did h1 (by (repeat (first | exact sH _ _ _ | apply sT))) rfl st (rD_dep _ _ _ _ _)) ?_; clear st h1))|(apply LR.append (xs := iv L) (news := [Value.int .i64 (gV si)]) (m := 1); (· exact rfl); (· exact rfl); (· intro a' c'; (repeat (first | exact sH _ _ _ | apply sT))); (· exact fun w' hw' => hw'.rd_of_blk (mH _ _)); (· exact fun hx => by cases hx); (· exact rfl); (· exact rfl); (· omega); (· unfold maxLen; omega); (· exact rfl); (intro a5 c5)))
      all_goals (refine At.stage_same (fun _ h => St.sub h (by repeat (first | exact List.Sublist.refl _ | apply List.Sublist.cons_cons | apply List.Sublist.cons))) ?_))
    all_goals (
      apply DW.loud 5
      · exact rfl
      · decide +kernel
      repeat'(first|(apply Go.Hb.kK;(iterate 4 exact rfl);intro bs)|refine kg' ?_|refine kG' ?_|apply kM|refine kv' ?_|refine kK' fun _=>?_|refine kU' ?_|refine kB' fun _=>?_|refine kA' fun _=>?_|(apply LR.call; (· exact rfl); (intro w1 h1; refine CallsTo.mono (show CallsTo Tryz.prog 62 [.pointer (some ⟨bc, 0, none⟩)] w1 _ from e62 bc br a3 c3 si w1 (h1.holds (rD bc br a3 c3 si) (by (repeat (first | exact mH _ _ | apply mT)))) hoi) ?_; rintro v w2 ⟨a4, c4, rfl, st⟩; refine LR.back (St.did h1 (by (repeat (first | exact sH _ _ _ | apply sT))) rfl st (rD_dep _ _ _ _ _)) ?_; clear st h1))|(apply LR.append (xs := iv L) (news := [Value.int .i64 (gV si)]) (m := 1); (· exact rfl); (· exact rfl); (· intro a' c'; (repeat (first | exact sH _ _ _ | apply sT))); (· exact fun w' hw' => hw'.rd_of_blk (mH _ _)); (· exact fun hx => by cases hx); (· exact rfl); (· exact rfl); (· omega); (· unfold maxLen; omega); (· exact rfl); (intro a5 c5)))
      all_goals (refine At.stage_same (fun _ h => St.sub h (by repeat (first | exact List.Sublist.refl _ | apply List.Sublist.cons_cons | apply List.Sublist.cons))) ?_))
    all_goals (
      apply DW.quiet [6]
      · decide +kernel
      · first | exact fun _ h => h | exact fun _ h => St.sub h (by repeat (first | exact List.Sublist.refl _ | apply List.Sublist.cons_cons | apply List.Sublist.cons))
      repeat'(first|refine yv' ?_|refine uv' ?_|refine un' ?_|(refine us' ?_ ?_;all_goals(intro hc;try simp only[hcs]at hc;try(exfalso;first|contradiction|omega)))|apply QL.nil)
      all_goals (show DW _ _ _ _ _ _ _ _))
    all_goals (apply DW.done; (· decide +kernel))
    all_goals apply At.sink
    repeat'(first|refine kv' ?_|apply jJ|refine jE' ?_|refine jp' ?_|(apply jc;kernel_rfl)|refine kg' ?_|refine kG' ?_|refine kB' fun _=>?_|refine kA' fun _=>?_|refine kK' fun _=>?_|refine kU' ?_|(apply addX;(iterate 2 exact rfl);(iterate 2(first|omega|(dsimp only;omega)));exact rfl)|((first|refine kR' ?_ ?_|refine kQ' ?_ ?_);all_goals(intro hc;try simp only[hcs]at hc;try(exfalso;first|contradiction|omega))))
    have hsuc : rdL getS (i + 1) s1 = (L ++ [gV si], gT si) := hsu
    have hsn : iv (L ++ [gV si]) = iv L ++ [Value.int .i64 (gV si)] := by simp [iv]
    refine At.again (⟨i + 1, a4, c4, a5, c5⟩ : Lst2) (by show i + 1 ≤ k0; omega) ?_ ⟨rfl, trivial⟩ ?_ (by show k0 - (i + 1) < k0 - i; omega)
    · (repeat (first | exact Out.refl _ _ | exact Out.mix | (apply Out.upd; (· exact rfl)) | (apply Out.updL; (· exact rfl)) | (apply Out.mixs; (· exact rfl))))
    · intro w' hw'
      simp only
      rw [hsuc]
      simp only
      rw [hsn]
      exact hw'.sub (by (repeat (first | exact List.Sublist.refl _ | apply List.Sublist.cons_cons | apply List.Sublist.cons)))
  · repeat'(first|refine kv' ?_|apply jJ|refine jE' ?_|refine jp' ?_|(apply jc;kernel_rfl)|refine kg' ?_|refine kG' ?_|refine kB' fun _=>?_|refine kA' fun _=>?_|refine kK' fun _=>?_|refine kU' ?_|(apply LR.ev; (· apply Ev.load (v := .int .i64 si.2); (· exact rfl); (· exact fun w' hw' => rD_e (hw'.holds (rD bc br a3 c3 si) (by (repeat (first | exact mH _ _ | apply mT)))))); (· exact rfl))|((first|refine kR' ?_ ?_|refine kQ' ?_ ?_);all_goals(intro hc;try simp only[hcs]at hc;try(exfalso;first|contradiction|omega))))
    all_goals (try (exfalso; exact hgo ⟨by omega, by assumption⟩))
    all_goals (
      (apply ret1c; (· exact rfl); (· exact inferInstance); (· exact rfl); (· (repeat (first | exact List.Mem.head _ | apply List.Mem.tail))); (· exact rfl); intro w' hS)
      have hst : (rdL getS k0 s1).2 = si := by
        by_cases hz : si.2 = 0
        · have hin : ¬ i < n := fun h => hgo ⟨h, hz⟩
          have : i = k0 := by rw [← hk0] at hi ⊢; split at hi <;> rename_i h7 <;> (first | rw [if_pos h7] | rw [if_neg h7]) <;> omega
          rw [← this, hLs]
        · exact hstk hz
      have hls : si.2 = 0 → (rdL getS k0 s1).1 = L := fun hz => by
        have hin : ¬ i < n := fun h => hgo ⟨h, hz⟩
        have : i = k0 := by rw [← hk0] at hi ⊢; split at hi <;> rename_i h7 <;> (first | rw [if_pos h7] | rw [if_neg h7]) <;> omega
        rw [← this, hLs]
      have hown := hS.holds (osl (.slice ta i tc) 3 1 i (iv L)) (by (repeat (first | exact mH _ _ | apply mT)))
      subst hli
      rw [hst]
      refine ⟨⟨gV s, gV (gT s), gV (gT (gT s)), gV (gT (gT (gT s))), gV (gT (gT (gT (gT s)))), gV (gT (gT (gT (gT (gT s))))), gV (gT (gT (gT (gT (gT (gT s)))))), gV (gT (gT (gT (gT (gT (gT (gT s))))))), L⟩, ta, tc, a3, c3, rfl, fun e => (ownsRow_some hown e).2, fun hz => by rw [hls hz], ?_⟩
      subst hF
      exact (St.join (hS.sub (L' := [rD bc br a3 c3 si, osl (.slice ta L.length tc) 3 1 L.length (iv L)]) (by (repeat (first | exact List.Sublist.refl _ | apply List.Sublist.cons_cons | apply List.Sublist.cons)))) rfl rfl).step rfl)
def comV (u : RS) : Cmt := { zCmt with r1 := gV u, r2 := gV (gT u), mem := gV (gT (gT u)), hop := gV (gT (gT (gT u))), ents := (lstR getE 8 (gT (gT (gT (gT u))))).1 }
def comT (u : RS) : RS := (lstR getE 8 (gT (gT (gT (gT u))))).2
theorem okS_getE {s : RS} (h : okS s) : okS (getE s).2 := okS_gT (okS_gT (okS_gT (okS_gT (okS_gT (okS_gT h)))))
set_option maxHeartbeats 32000000 in
theorem e65 (bc br : Nat) (a : Option Addr) (c : Nat) (s : RS) (w : World) (h : (rD bc br a c s).holds w) (hok : okS s) :
    CallsTo Tryz.prog 65 [.pointer (some ⟨bc, 0, none⟩)] w fun v w' => ∃ t ta tc a' c', v = Cmt.val t ta tc ∧ (ta = none → tc = 0) ∧ ((comT s).2 = 0 → t = comV s) ∧
      Step (rD bc br a c s) (both (rD bc br a' c' (comT s)) (osl (.slice ta t.ents.length tc) 77 6 t.ents.length (t.ents.flatMap Ent.cells))) w w' := by
  have hS0 := St.one h (both_live h) (rD_dep _ _ _ _ _)
  generalize hF : (rD bc br a c s).foot = F at hS0
  have h8 : okS (gT (gT (gT (gT s)))) := by repeat (first | exact hok | apply okS_gT)
  have hmo := okS_many (most := 8) h8
  have hnb := gV_bd (gT (gT (gT (gT s))))
  have hlm := lstR_many getE 8 (gT (gT (gT (gT s))))
  obtain ⟨n, hn⟩ : ∃ n : Nat, gV (gT (gT (gT (gT s)))) = n := ⟨(gV (gT (gT (gT (gT s))))).toNat, by omega⟩
  obtain ⟨s1, hs1⟩ : ∃ s1, manyS 8 (gT (gT (gT (gT s)))) = s1 := ⟨_, rfl⟩
  obtain ⟨k0, hk0⟩ : ∃ k0 : Nat, (if s1.2 ≠ 0 then 0 else n) = k0 := ⟨_, rfl⟩
  have hlm2 : lstR getE 8 (gT (gT (gT (gT s)))) = rdL getE k0 s1 := by rw [hlm, hs1, hn, ← hk0]; rfl
  have hk9 : s1.2 = 0 → n ≤ 8 := fun hz => by
    have h9 := hs1
    unfold manyS at h9
    split at h9
    · rw [← h9] at hz; cases hz
    · rename_i hq
      rw [← h9] at hz
      have : ¬ 8 < gV (gT (gT (gT (gT s)))) := fun hh => hq ⟨hz, hh⟩
      omega
  have hkm : k0 ≤ 8 := by
    rw [← hk0]
    split
    · omega
    · rename_i hz
      exact hk9 (by omega)
  have htT : comT s = (rdL getE k0 s1).2 := by unfold comT; rw [hlm2]
  have htV : comV s = ⟨gV s, gV (gT s), gV (gT (gT s)), gV (gT (gT (gT s))), (rdL getE k0 s1).1⟩ := by unfold comV; rw [hlm2]; try rfl
  rw [hs1] at hmo
  rw [htT, htV]
  clear htT htV hlm hlm2
  refine go_in (n := 52) hS0 Tryz.func65 rfl rfl ?_
  repeat'(first|(apply kA (d := 3);exact rfl;intro bt)|(apply kA (d := 2);exact rfl;intro b2)|refine kv' ?_|apply jJ|refine jE' ?_|refine jp' ?_|(apply jc;kernel_rfl)|refine kg' ?_|refine kG' ?_|refine kB' fun _=>?_|refine kA' fun _=>?_|refine kK' fun _=>?_|refine kU' ?_|(apply LR.call; (· exact rfl); (intro w1 h1; first | (refine CallsTo.mono (show CallsTo Tryz.prog 62 [.pointer (some ⟨bc, 0, none⟩)] w1 _ from e62 bc br _ _ _ w1 (h1.holds (rD bc br _ _ _) (by (repeat (first | exact mH _ _ | apply mT)))) (by repeat (first | exact hok | apply okS_gT))) ?_; rintro v w2 ⟨a2, c2, rfl, st⟩; refine LR.back (St.did h1 (by (repeat (first | exact sH _ _ _ | apply sT))) rfl st (rD_dep _ _ _ _ _)) ?_; clear st h1) | (refine CallsTo.mono (show CallsTo Tryz.prog 66 [.pointer (some ⟨bc, 0, none⟩)] w1 _ from e66 bc br _ _ _ w1 (h1.holds (rD bc br _ _ _) (by (repeat (first | exact mH _ _ | apply mT)))) (by repeat (first | exact hok | apply okS_gT))) ?_; rintro v w2 ⟨a2, c2, rfl, st⟩; refine LR.back (St.did h1 (by (repeat (first | exact sH _ _ _ | apply sT))) rfl st (rD_dep _ _ _ _ _)) ?_; clear st h1) | (refine CallsTo.mono (show CallsTo Tryz.prog 103 [.pointer (some ⟨bc, 0, none⟩), .int .i64 8] w1 _ from e103 bc br _ _ _ 8 w1 (h1.holds (rD bc br _ _ _) (by (repeat (first | exact mH _ _ | apply mT)))) (by repeat (first | exact hok | apply okS_gT))) ?_; rintro v w2 ⟨a9, c9, rfl, st⟩; refine LR.back (St.did h1 (by (repeat (first | exact sH _ _ _ | apply sT))) rfl st (rD_dep _ _ _ _ _)) ?_; clear st h1)))|((first|refine kR' ?_ ?_|refine kQ' ?_ ?_);all_goals(intro hc;try simp only[hcs]at hc;try(exfalso;first|contradiction|omega))))
  rw [hs1, hn]
  apply CW.loop [5, 6, 18, 19, 20, 21, 22, 23, 24, 25, 26, 27, 28, 29, 30, 31, 32, 33, 34, 35, 36, 37, 38, 39, 40, 41, 42, 43, 44, 45, 46, 47, 48, 49, 50] (fun st : Lst2 => st.i ≤ k0) (fun st => [(5, Value.int .i64 (st.i : Int))])
    (fun st => St w F [.own bt (.cells ([.int .i64 (gV s), .int .i64 (gV (gT s)), .int .i64 (gV (gT (gT s))), .int .i64 (gV (gT (gT (gT s)))), .slice st.ta st.i st.tc] : List Value).toArray 38 (0, 0)), .own b2 (.cells ([.int .i64 0, .int .i64 0, .int .i64 0, .int .i64 0, .slice none 0 0] : List Value).toArray 38 (0, 0)), rD bc br st.a st.c (rdL getE st.i s1).2, osl (.slice st.ta st.i st.tc) 77 6 st.i ((rdL getE st.i s1).1.flatMap Ent.cells)]) (fun st => k0 - st.i)
  · exact fun w' hw' => ⟨⟨0, a9, c9, none, 0⟩, Nat.zero_le _, ⟨rfl, trivial⟩, front (front (front (front (hw'.nilsl 77 6) 3 rfl rfl) 3 rfl rfl) 3 rfl rfl) 0 rfl rfl⟩
  rintro ⟨i, a3, c3, ta, tc⟩ g1 hi
  simp only at hi ⊢
  have hoi : okS (rdL getE i s1).2 := okS_rdL (fun s h => okS_getE h) i s1 hmo
  have hsu : rdL getE (i + 1) s1 = ((rdL getE i s1).1 ++ [(getE (rdL getE i s1).2).1], (getE (rdL getE i s1).2).2) := rfl
  have hli := rdL_len getE i s1
  have hstk : (rdL getE i s1).2.2 ≠ 0 → (rdL getE k0 s1).2 = (rdL getE i s1).2 := fun he => rdL_stick getE_stick hi he
  have hi0 : i = 0 → (rdL getE i s1).2 = s1 := fun e => by subst e; rfl
  obtain ⟨⟨L, si⟩, hLs⟩ : ∃ r, rdL getE i s1 = r := ⟨_, rfl⟩
  rw [hLs] at hoi hsu hli hstk hi0
  rw [hLs]
  simp only at hoi hsu hli hstk hi0 ⊢
  by_cases hgo : i < n ∧ si.2 = 0
  · obtain ⟨hin, hz⟩ := hgo
    have hik : i < k0 := by
      rw [← hk0]
      split
      · rename_i hne
        exfalso
        have : k0 = 0 := by rw [← hk0, if_pos hne]
        have h2 := hi0 (by omega)
        rw [← h2] at hne
        exact hne hz
      · exact hin
    repeat'(first|refine kv' ?_|apply jJ|refine jE' ?_|refine jp' ?_|(apply jc;kernel_rfl)|refine kg' ?_|refine kG' ?_|refine kB' fun _=>?_|refine kA' fun _=>?_|refine kK' fun _=>?_|refine kU' ?_|(apply LR.ev; (· apply Ev.load (v := .int .i64 si.2); (· exact rfl); (· exact fun w' hw' => rD_e (hw'.holds (rD bc br a3 c3 si) (by (repeat (first | exact mH _ _ | apply mT)))))); (· exact rfl))|((first|refine kR' ?_ ?_|refine kQ' ?_ ?_);all_goals(intro hc;try simp only[hcs]at hc;try(exfalso;first|contradiction|omega))))
    have hE : getE si = (⟨gV si, gV (gT si), gV (gT (gT si)), gV (gT (gT (gT si))), gV (gT (gT (gT (gT si)))), gV (gT (gT (gT (gT (gT si)))))⟩, gT (gT (gT (gT (gT (gT si)))))) := rfl
    rw [hE] at hsu
    simp only at hsu
    obtain ⟨e, he⟩ : ∃ e : Ent, (⟨gV si, gV (gT si), gV (gT (gT si)), gV (gT (gT (gT si))), gV (gT (gT (gT (gT si)))), gV (gT (gT (gT (gT (gT si)))))⟩ : Ent) = e := ⟨_, rfl⟩
    have hsuc : rdL getE (i + 1) s1 = (L ++ [e], gT (gT (gT (gT (gT (gT si)))))) := by rw [← he]; exact hsu
    have hsn : (L ++ [e]).flatMap Ent.cells = L.flatMap Ent.cells ++ [Value.int .i64 (gV si), .int .i64 (gV (gT si)), .int .i64 (gV (gT (gT si))), .int .i64 (gV (gT (gT (gT si)))), .int .i64 (gV (gT (gT (gT (gT si))))), .int .i64 (gV (gT (gT (gT (gT (gT si))))))] := by rw [List.flatMap_append, ← he]; simp [Ent.cells]
    repeat'(first|(apply kA;exact rfl;intro bn)|(apply Go.Hb.kK;(iterate 4 exact rfl);intro bs)|refine kv' ?_|apply jJ|refine jE' ?_|refine jp' ?_|(apply jc;kernel_rfl)|refine kg' ?_|refine kG' ?_|refine kB' fun _=>?_|refine kA' fun _=>?_|refine kK' fun _=>?_|refine kU' ?_|(apply addX;(iterate 2 exact rfl);(iterate 2(first|omega|(dsimp only;omega)));exact rfl)|(apply LR.call; (· exact rfl); (intro w1 h1; first | (refine CallsTo.mono (show CallsTo Tryz.prog 62 [.pointer (some ⟨bc, 0, none⟩)] w1 _ from e62 bc br _ _ _ w1 (h1.holds (rD bc br _ _ _) (by (repeat (first | exact mH _ _ | apply mT)))) (by repeat (first | exact hoi | apply okS_gT))) ?_; rintro v w2 ⟨a2, c2, rfl, st⟩; refine LR.back (St.did h1 (by (repeat (first | exact sH _ _ _ | apply sT))) rfl st (rD_dep _ _ _ _ _)) ?_; clear st h1) | (refine CallsTo.mono (show CallsTo Tryz.prog 66 [.pointer (some ⟨bc, 0, none⟩)] w1 _ from e66 bc br _ _ _ w1 (h1.holds (rD bc br _ _ _) (by (repeat (first | exact mH _ _ | apply mT)))) (by repeat (first | exact hoi | apply okS_gT))) ?_; rintro v w2 ⟨a2, c2, rfl, st⟩; refine LR.back (St.did h1 (by (repeat (first | exact sH _ _ _ | apply sT))) rfl st (rD_dep _ _ _ _ _)) ?_; clear st h1)))|(apply LR.append (xs := L.flatMap Ent.cells) (news := [Value.int .i64 (gV si), .int .i64 (gV (gT si)), .int .i64 (gV (gT (gT si))), .int .i64 (gV (gT (gT (gT si)))), .int .i64 (gV (gT (gT (gT (gT si))))), .int .i64 (gV (gT (gT (gT (gT (gT si))))))]) (m := 1); (· exact rfl); (· exact rfl); (· intro a' c'; (repeat (first | exact sH _ _ _ | apply sT))); (· exact fun w' hw' => hw'.rd_of_blk (mH _ _)); (· exact fun hx => by cases hx); (· exact rfl); (· exact rfl); (· omega); (· unfold maxLen; omega); (· exact rfl); (intro a5 c5))|((first|refine kR' ?_ ?_|refine kQ' ?_ ?_);all_goals(intro hc;try simp only[hcs]at hc;try(exfalso;first|contradiction|omega))))
    refine At.again (⟨i + 1, a2, c2, a5, c5⟩ : Lst2) (by show i + 1 ≤ k0; omega) ?_ ⟨rfl, trivial⟩ ?_ (by show k0 - (i + 1) < k0 - i; omega)
    · (repeat (first | exact Out.refl _ _ | exact Out.mix | (apply Out.upd; (· exact rfl)) | (apply Out.updL; (· exact rfl)) | (apply Out.mixs; (· exact rfl))))
    · intro w' hw'
      simp only
      rw [hsuc]
      simp only
      rw [hsn]
      exact hw'.sub (by (repeat (first | exact List.Sublist.refl _ | apply List.Sublist.cons_cons | apply List.Sublist.cons)))
  · repeat'(first|refine kv' ?_|apply jJ|refine jE' ?_|refine jp' ?_|(apply jc;kernel_rfl)|refine kg' ?_|refine kG' ?_|refine kB' fun _=>?_|refine kA' fun _=>?_|refine kK' fun _=>?_|refine kU' ?_|(apply LR.ev; (· apply Ev.load (v := .int .i64 si.2); (· exact rfl); (· exact fun w' hw' => rD_e (hw'.holds (rD bc br a3 c3 si) (by (repeat (first | exact mH _ _ | apply mT)))))); (· exact rfl))|((first|refine kR' ?_ ?_|refine kQ' ?_ ?_);all_goals(intro hc;try simp only[hcs]at hc;try(exfalso;first|contradiction|omega))))
    all_goals (try (exfalso; exact hgo ⟨by omega, by assumption⟩))
    all_goals (
      (apply ret1c; (· exact rfl); (· exact inferInstance); (· exact rfl); (· (repeat (first | exact List.Mem.head _ | apply List.Mem.tail))); (· exact rfl); intro w' hS)
      have hst : (rdL getE k0 s1).2 = si := by
        by_cases hz : si.2 = 0
        · have hin : ¬ i < n := fun h => hgo ⟨h, hz⟩
          have : i = k0 := by rw [← hk0] at hi ⊢; split at hi <;> rename_i h7 <;> (first | rw [if_pos h7] | rw [if_neg h7]) <;> omega
          rw [← this, hLs]
        · exact hstk hz
      have hls : si.2 = 0 → (rdL getE k0 s1).1 = L := fun hz => by
        have hin : ¬ i < n := fun h => hgo ⟨h, hz⟩
        have : i = k0 := by rw [← hk0] at hi ⊢; split at hi <;> rename_i h7 <;> (first | rw [if_pos h7] | rw [if_neg h7]) <;> omega
        rw [← this, hLs]
      have hown := hS.holds (osl (.slice ta i tc) 77 6 i (L.flatMap Ent.cells)) (by (repeat (first | exact mH _ _ | apply mT)))
      subst hli
      rw [hst]
      refine ⟨⟨gV s, gV (gT s), gV (gT (gT s)), gV (gT (gT (gT s))), L⟩, ta, tc, a3, c3, rfl, fun e => (ownsRow_some hown e).2, fun hz => by rw [hls hz], ?_⟩
      subst hF
      exact (St.join (hS.sub (L' := [rD bc br a3 c3 si, osl (.slice ta L.length tc) 77 6 L.length (L.flatMap Ent.cells)]) (by (repeat (first | exact List.Sublist.refl _ | apply List.Sublist.cons_cons | apply List.Sublist.cons)))) rfl rfl).step rfl)
end Go.Proofs.YtkolmkdbjagfcaaGreat
