/-
  The law PacketUnpacks holds, as its row says it: the packet of bytes, or what is wrong with them, is the reference's. Conditions: none.
-/
import Derived.Test.YtkolmkdbjagfcaaGreatREUM5
import Derived.Shelf.Sort.Plain
import Derived.Ground.Names2Prog
import Derived.Shelf.Slices.CompactI
import Derived.Shelf.Slices.In.SortNone
import Derived.Test.YtkolmkdbjagfcaaGreatProg
import Derived.Sort.OwnSortedInts

set_option linter.unusedSimpArgs false
set_option linter.unusedVariables false
namespace Go.Proofs.YtkolmkdbjagfcaaGreat
open Go.Hb
attribute [local irreducible] LR CW At Ev thn blk finK noG again CallsTo DW QL dnext TW DP
set_option linter.unusedSimpArgs false
set_option linter.unusedVariables false
set_option maxRecDepth 100000

theorem St.up2 {w0 w : World} {F : Nat → Prop} {R : List Asrt} {x y z : Asrt} (h : St w0 F (x :: y :: z :: R) w) : St w0 F (z :: x :: y :: R) w := h.perm (((List.Perm.swap z y R).cons x).trans (List.Perm.swap z x (y :: R)))
theorem okS_start {k : Int} {s : RS} (h : okS s) : okS (startS k s) := by
  unfold startS
  split
  · exact h
  · exact h
set_option maxHeartbeats 16000000 in
theorem e16 (a : Option Addr) (c : Nat) (l : List Int) (w : World) (hr : Rd w a (bv l)) (hb : Byt l) (hz : a = none → c = 0) (hcap : l.length ≤ c) (hm : l.length ≤ 140737488355000) :
    CallsTo Tryz.prog 16 [.slice a l.length c] w fun v w' => UnpP (unpackP l) v w w' := by
  refine go_in (n := 122) (St.rd1 hr) Tryz.func16 rfl rfl ?_
  obtain ⟨r0, hr0⟩ : ∃ r, unpackP l = r := ⟨_, rfl⟩
  have hr1 := hr0
  rw [hr0]
  unfold unpackP at hr1
  by_cases h5 : 512 < l.length
  · rw [if_pos h5] at hr1
    subst hr1
    repeat'(first|(apply kA;exact rfl;intro b2)|refine kv' ?_|apply jJ|refine jE' ?_|refine jp' ?_|(apply jc;kernel_rfl)|refine kg' ?_|refine kG' ?_|refine kB' fun _=>?_|refine kA' fun _=>?_|refine kK' fun _=>?_|refine kU' ?_|((first|refine kR' ?_ ?_|refine kQ' ?_ ?_);all_goals(intro hc;try simp only[hcs]at hc;try(exfalso;first|contradiction|omega))))
    (apply ret2c; (· exact rfl); (· exact inferInstance); (· exact rfl); (· (repeat (first | exact List.Mem.head _ | apply List.Mem.tail))); (· exact rfl); intro w' hS)
    exact unp_zero 5 hS
  rw [if_neg h5] at hr1
  have hob := open_byt hb
  obtain ⟨⟨ol, oe⟩, hol⟩ : ∃ r, openL l = r := ⟨_, rfl⟩
  rw [hol] at hr1 hob
  simp only at hr1 hob
  by_cases ho : oe ≠ 0
  · rw [if_pos ho] at hr1
    subst hr1
    repeat'(first|(apply kA;exact rfl;intro b2)|refine kv' ?_|apply jJ|refine jE' ?_|refine jp' ?_|(apply jc;kernel_rfl)|refine kg' ?_|refine kG' ?_|refine kB' fun _=>?_|refine kA' fun _=>?_|refine kK' fun _=>?_|refine kU' ?_|(apply LR.call; (· exact rfl); (intro w1 h1; refine (e60 a c l w1 (h1.rd_of (a := a) (xs := bv l) (by (repeat (first | exact mH _ _ | apply mT)))) hb hz hcap hm).mono ?_; rw [hol]; rintro v w2 ⟨a1, c1, hv, hn⟩; replace hv : v = .tuple [.slice a1 ol.length c1, .int .i64 oe].toArray := hv; subst hv; refine LR.back (h1.newSl hn) ?_; clear hn h1))|((first|refine kR' ?_ ?_|refine kQ' ?_ ?_);all_goals(intro hc;try simp only[hcs]at hc;try(exfalso;first|contradiction|omega))))
    (apply ret2c; (· exact rfl); (· exact inferInstance); (· exact rfl); (· (repeat (first | exact List.Mem.head _ | apply List.Mem.tail))); (· exact rfl); intro w' hS)
    exact unp_zero oe hS
  rw [if_neg ho] at hr1
  have ho2 : oe = 0 := by omega
  subst ho2
  have hpf := @parse_facts (ol, 0) hob.1
  obtain ⟨⟨p, l2, e2⟩, hp⟩ : ∃ r, parseP (ol, 0) = r := ⟨_, rfl⟩
  rw [hp] at hr1 hpf
  simp only at hr1 hpf
  obtain ⟨hpb, hpl, hpa, hpe, hpi⟩ := hpf
  have hok : okS (ol, 0) := ⟨hob.1, by have := hob.2; show ol.length ≤ _; omega⟩
  repeat'(first|(apply kA;exact rfl;intro b2)|refine kv' ?_|apply jJ|refine jE' ?_|refine jp' ?_|(apply jc;kernel_rfl)|refine kg' ?_|refine kG' ?_|refine kB' fun _=>?_|refine kA' fun _=>?_|refine kK' fun _=>?_|refine kU' ?_|((first|refine kR' ?_ ?_|refine kQ' ?_ ?_);all_goals(intro hc;try simp only[hcs]at hc;try(exfalso;first|contradiction|omega))))
  apply LR.call
  · exact rfl
  intro w1 h1
  refine (e60 a c l w1 (h1.rd_of (a := a) (xs := bv l) (by (repeat (first | exact mH _ _ | apply mT)))) hb hz hcap hm).mono ?_
  rw [hol]
  rintro v w2 ⟨a1, c1, hv, hn⟩
  replace hv : v = .tuple [.slice a1 ol.length c1, .int .i64 0].toArray := hv
  subst hv
  replace hn : NewSl w1 w2 (.slice a1 ol.length c1) 5 1 ol.length (bv ol) := hn
  refine LR.back (h1.newSl hn) ?_
  clear hn h1
  repeat'(first|(apply kB;(iterate 2 exact rfl);intro bc)|refine kv' ?_|apply jJ|refine jE' ?_|refine jp' ?_|(apply jc;kernel_rfl)|refine kg' ?_|refine kG' ?_|refine kB' fun _=>?_|refine kA' fun _=>?_|refine kK' fun _=>?_|refine kU' ?_|(apply LR.call; (· exact rfl); (intro w1 h1; refine CallsTo.mono (show CallsTo Tryz.prog 61 [.slice a1 ol.length c1] w1 _ from c69 a1 c1 ol w1 (h1.rd_of_own (by (repeat (first | exact mH _ _ | apply mT)))) (fun e => (ownsRow_some (h1.holds (osl (.slice a1 ol.length c1) 5 1 ol.length (bv ol)) (by (repeat (first | exact mH _ _ | apply mT)))) e).2) (by have := hob.2; omega)) ?_; rintro v w2 ⟨br, a3, c3, rfl, hn⟩; refine LR.back (h1.got hn (rrA_dep _ _ _ _ _ _)) ?_; clear hn h1))|((first|refine kR' ?_ ?_|refine kQ' ?_ ?_);all_goals(intro hc;try simp only[hcs]at hc;try(exfalso;first|contradiction|omega))))
  apply LR.call
  · exact rfl
  intro w1 h1
  have h2 : St w NoF [rD bc br a3 c3 (ol, 0), osl (.slice a1 ol.length c1) 5 1 ol.length (bv ol), .own b2 (.cells (zPkt.cells zA).toArray 42 (0, 0)), rdA a (bv l)] w1 := St.join h1 rfl rfl
  refine CallsTo.mono (show CallsTo Tryz.prog 62 [.pointer (some ⟨bc, 0, none⟩)] w1 _ from e62 bc br a3 c3 (ol, 0) w1 (h2.holds _ (mH _ _)) hok) ?_
  rintro v w2 ⟨a4, c4, rfl, st⟩
  have h5 := (St.did h2 (.head _ _ _) rfl st (rD_dep _ _ _ _ _)).part (Asrt.dep_own _ _) (rrA_dep _ _ _ _ _ _)
  refine LR.back h5 ?_
  clear h1 h2 h5 st
  unfold parseP at hp
  have hok1 := okS_gT hok
  have hkb := gV_bd (ol, 0)
  have hke : (gT (ol, 0)).2 ≠ 0 → gV (ol, 0) = 0 := fun h => by
    unfold gT gV getS at *
    rw [if_neg (by simp)] at h ⊢
    simp only at h ⊢
    rw [dec_err h]
    rfl
  obtain ⟨k, hk⟩ : ∃ k, gV (ol, 0) = k := ⟨_, rfl⟩
  obtain ⟨⟨l1, e1⟩, ht1⟩ : ∃ t, gT (ol, 0) = t := ⟨_, rfl⟩
  rw [hk] at hp hkb hke
  rw [ht1] at hp hok1 hke
  rw [hk, ht1]
  simp only at hke hok1 ⊢
  by_cases hbad : e1 = 0 ∧ ¬ (1 ≤ k ∧ k ≤ 5)
  · have hst : startS k (l1, e1) = (l1, 4) := by unfold startS; rw [if_pos hbad]
    obtain ⟨rfl, hkn⟩ := hbad
    rw [hst] at hp
    have g1 : gV (l1, 4) = 0 := gV_err (by simp)
    have g2 : gT (l1, 4) = (l1, 4) := gT_err (by simp)
    rw [g1, g2] at hp
    unfold parseK at hp
    rw [if_neg (by omega), if_neg (by omega), if_neg (by omega), if_neg (by omega), if_neg (by omega)] at hp
    simp only [Prod.mk.injEq] at hp
    obtain ⟨rfl, rfl, rfl⟩ := hp
    rw [if_pos (by simp)] at hr1
    subst hr1
    repeat'(first|(apply kA (d := 7);exact rfl;intro bp)|refine kv' ?_|apply jJ|refine jE' ?_|refine jp' ?_|(apply jc;kernel_rfl)|refine kg' ?_|refine kG' ?_|refine kB' fun _=>?_|refine kA' fun _=>?_|refine kK' fun _=>?_|refine kU' ?_|((first|refine kR' ?_ ?_|refine kQ' ?_ ?_);all_goals(intro hc;try simp only[hcs]at hc;try(exfalso;first|contradiction|omega))))
    all_goals (
      apply LR.call
      · exact rfl
      intro w1 h1
      have h2 := St.join (x := codR bc br 4) (St.up2 (St.up2 h1)) rfl rfl
      refine CallsTo.mono (show CallsTo Tryz.prog 62 [.pointer (some ⟨bc, 0, none⟩)] w1 _ from e62 bc br a4 c4 (l1, 4) w1 (h2.holds (rD bc br a4 c4 (l1, 4)) (mH _ _)) hok1) ?_
      rintro v w2 ⟨a5, c5, rfl, st⟩
      rw [g1, g2] at *
      have h5 := (St.did h2 (.head _ _ _) rfl st (rD_dep _ _ _ _ _)).part (Asrt.dep_own _ _) (rrA_dep _ _ _ _ _ _)
      refine LR.back h5 ?_
      clear h1 h2 h5 st
      repeat'(first|(apply CW.reg_sink 6 (St w NoF [codR bc br 4]); (· exact rfl); (· decide +kernel))|refine kv' ?_|apply jJ|refine jE' ?_|refine jp' ?_|(apply jc;kernel_rfl)|refine kg' ?_|refine kG' ?_|refine kB' fun _=>?_|refine kA' fun _=>?_|refine kK' fun _=>?_|refine kU' ?_|((first|refine kR' ?_ ?_|refine kQ' ?_ ?_);all_goals(intro hc;try simp only[hcs]at hc;try(exfalso;first|contradiction|omega))))
      all_goals
        all_goals (
          apply DW.quiet [0, 1, 2, 3, 4]
          · decide +kernel
          · first | exact fun _ h => h | exact fun _ h => St.sub h (by repeat (first | exact List.Sublist.refl _ | apply List.Sublist.cons_cons | apply List.Sublist.cons))
          repeat'(first|refine yv' ?_|refine uv' ?_|refine un' ?_|(refine us' ?_ ?_;all_goals(intro hc;try simp only[hcs]at hc;try(exfalso;first|contradiction|omega)))|apply QL.nil)
          all_goals (show DW _ _ _ _ _ _ _ _))
        all_goals (
          apply DW.loud 5
          · exact rfl
          · decide +kernel
          repeat'(first|refine kg' ?_|refine kG' ?_|apply kM|refine kv' ?_|refine kK' fun _=>?_|refine kU' ?_|refine kB' fun _=>?_|refine kA' fun _=>?_|(apply addX;(iterate 2 exact rfl);(iterate 2(first|omega|(dsimp only;omega)));exact rfl))
          all_goals (refine At.stage_same (fun _ h => St.sub h (by repeat (first | exact List.Sublist.refl _ | apply List.Sublist.cons_cons | apply List.Sublist.cons))) ?_))
        all_goals (apply DW.done; (· decide +kernel))
        all_goals apply At.sink
        repeat'(first|refine kv' ?_|apply jJ|refine jE' ?_|refine jp' ?_|(apply jc;kernel_rfl)|refine kg' ?_|refine kG' ?_|refine kB' fun _=>?_|refine kA' fun _=>?_|refine kK' fun _=>?_|refine kU' ?_|((first|refine kR' ?_ ?_|refine kQ' ?_ ?_);all_goals(intro hc;try simp only[hcs]at hc;try(exfalso;first|contradiction|omega))))
        (apply ret2c; (· exact rfl); (· exact inferInstance); (· exact rfl); (· (repeat (first | exact List.Mem.head _ | apply List.Mem.tail))); (· exact rfl); intro w' hS)
        exact unp_zero 4 hS)
  have hst : startS k (l1, e1) = (l1, e1) := by unfold startS; rw [if_neg hbad]
  rw [hst] at hp
  by_cases he1 : e1 = 0
  · subst he1
    have hk15 : 1 ≤ k ∧ k ≤ 5 := by
      by_cases h : 1 ≤ k ∧ k ≤ 5
      · exact h
      · exact absurd ⟨rfl, h⟩ hbad
    have hok2 := okS_gT hok1
    obtain ⟨tt, htt⟩ : ∃ tt, gV (l1, 0) = tt := ⟨_, rfl⟩
    obtain ⟨u, hu⟩ : ∃ u, gT (l1, 0) = u := ⟨_, rfl⟩
    rw [htt, hu] at hp
    rw [hu] at hok2
    unfold parseK at hp
    repeat'(first|(apply kA (d := 7);exact rfl;intro bp)|refine kv' ?_|apply jJ|refine jE' ?_|refine jp' ?_|(apply jc;kernel_rfl)|refine kg' ?_|refine kG' ?_|refine kB' fun _=>?_|refine kA' fun _=>?_|refine kK' fun _=>?_|refine kU' ?_|((first|refine kR' ?_ ?_|refine kQ' ?_ ?_);all_goals(intro hc;try simp only[hcs]at hc;try(exfalso;first|contradiction|omega))))
    apply LR.call
    · exact rfl
    intro w1 h1
    have h2 := St.join (x := codR bc br 0) (St.up2 (St.up2 h1)) rfl rfl
    refine CallsTo.mono (show CallsTo Tryz.prog 62 [.pointer (some ⟨bc, 0, none⟩)] w1 _ from e62 bc br a4 c4 (l1, 0) w1 (h2.holds (rD bc br a4 c4 (l1, 0)) (mH _ _)) hok1) ?_
    rintro v w2 ⟨a5, c5, rfl, st⟩
    rw [htt, hu] at *
    have h5 := St.did h2 (.head _ _ _) rfl st (rD_dep _ _ _ _ _)
    refine LR.back h5 ?_
    clear h1 h2 h5 st
    by_cases hk1 : k = 1
    · subst hk1
      rw [if_pos rfl] at hp
      simp only [Prod.mk.injEq] at hp
      obtain ⟨hpp, hs2⟩ := hp
      subst hpp
      repeat'(first|refine kv' ?_|apply jJ|refine jE' ?_|refine jp' ?_|(apply jc;kernel_rfl)|refine kg' ?_|refine kG' ?_|refine kB' fun _=>?_|refine kA' fun _=>?_|refine kK' fun _=>?_|refine kU' ?_|((first|refine kR' ?_ ?_|refine kQ' ?_ ?_);all_goals(intro hc;try simp only[hcs]at hc;try(exfalso;first|contradiction|omega))))
      apply LR.call
      · exact rfl
      intro w1 h1
      refine CallsTo.mono (show CallsTo Tryz.prog 63 [.pointer (some ⟨bc, 0, none⟩)] w1 _ from e63 bc br a5 c5 u w1 (h1.holds (rD bc br a5 c5 u) (by (repeat (first | exact mH _ _ | apply mT)))) hok2) ?_
      rintro v w2 ⟨ma, mc, aZ, cZ, rfl, hmz, st⟩
      rw [hs2] at st

      have h5 := ((St.did h1 (.head _ _ _) rfl st (both_dep (rD_dep _ _ _ _ _) (osl.dep _ _ _ _ _))).part (rD_dep _ _ _ _ _) (osl.dep _ _ _ _ _)).part (Asrt.dep_own _ _) (rrA_dep _ _ _ _ _ _)
      refine LR.back h5 ?_
      clear h1 h5 st
      by_cases he : e2 = 0
      · subst he

        have hX : ∀ w2, (osl (.slice ma (datV u).msg.body.length mc) 5 1 (datV u).msg.body.length (bv (datV u).msg.body)).holds w2 → PktM w2 ({ zPkt with kind := 1, to := tt, d := datV u } : Pkt) ({ zA with da := ma, dc := mc }) := fun w2 h2 => ⟨ownsRow_rd h2, hmz, Rd.nil _ _, fun _ => rfl, Rd.nil _ _, fun _ => rfl⟩
        rw [if_neg (by simp)] at hr1
        by_cases hll : 0 < l2.length
        · rw [if_pos (.inl hll)] at hr1
          subst hr1
          have hck : chkP ({ zPkt with kind := 1, to := tt, d := datV u } : Pkt) = chkP ({ zPkt with kind := 1, to := tt, d := datV u } : Pkt) := rfl
          repeat'(first|(apply CW.reg_sink 6 (St w NoF [codR bc br 4]); (· exact rfl); (· decide +kernel))|refine kv' ?_|apply jJ|refine jE' ?_|refine jp' ?_|(apply jc;kernel_rfl)|refine kg' ?_|refine kG' ?_|refine kB' fun _=>?_|refine kA' fun _=>?_|refine kK' fun _=>?_|refine kU' ?_|(apply kq; (· exact rfl); (· intro w1 h1; first | exact CallsTo.q (show CallsTo Tryz.prog 67 [.pointer (some ⟨br, 0, none⟩)] w1 _ from c72 br aZ cZ l2 w1 (h1.holds (rrA 143 [] br aZ cZ l2) (by (repeat (first | exact mH _ _ | apply mT))))) h1 | (have hq := CallsTo.q (e10 ({ zPkt with kind := 1, to := tt, d := datV u } : Pkt) ({ zA with da := ma, dc := mc }) w1 ((hX w1 (h1.holds (osl (.slice ma (datV u).msg.body.length mc) 5 1 (datV u).msg.body.length (bv (datV u).msg.body)) (by (repeat (first | exact mH _ _ | apply mT))))).toR hpb (Nat.le_trans hpl (by omega)) hpa hpe)) h1; rw [hck] at hq; exact hq)))|((first|refine kR' ?_ ?_|refine kQ' ?_ ?_);all_goals(intro hc;try simp only[hcs]at hc;try(exfalso;first|contradiction|omega))))
          all_goals
            all_goals (
              apply DW.quiet [0, 1, 2, 3, 4]
              · decide +kernel
              · first | exact fun _ h => h | exact fun _ h => St.sub h (by repeat (first | exact List.Sublist.refl _ | apply List.Sublist.cons_cons | apply List.Sublist.cons))
              repeat'(first|refine yv' ?_|refine uv' ?_|refine un' ?_|(refine us' ?_ ?_;all_goals(intro hc;try simp only[hcs]at hc;try(exfalso;first|contradiction|omega)))|apply QL.nil)
              all_goals (show DW _ _ _ _ _ _ _ _))
            all_goals (
              apply DW.loud 5
              · exact rfl
              · decide +kernel
              repeat'(first|refine kg' ?_|refine kG' ?_|apply kM|refine kv' ?_|refine kK' fun _=>?_|refine kU' ?_|refine kB' fun _=>?_|refine kA' fun _=>?_|(apply addX;(iterate 2 exact rfl);(iterate 2(first|omega|(dsimp only;omega)));exact rfl))
              all_goals (refine At.stage_same (fun _ h => St.sub h (by repeat (first | exact List.Sublist.refl _ | apply List.Sublist.cons_cons | apply List.Sublist.cons))) ?_))
            all_goals (apply DW.done; (· decide +kernel))
            all_goals apply At.sink
            repeat'(first|refine kv' ?_|apply jJ|refine jE' ?_|refine jp' ?_|(apply jc;kernel_rfl)|refine kg' ?_|refine kG' ?_|refine kB' fun _=>?_|refine kA' fun _=>?_|refine kK' fun _=>?_|refine kU' ?_|((first|refine kR' ?_ ?_|refine kQ' ?_ ?_);all_goals(intro hc;try simp only[hcs]at hc;try(exfalso;first|contradiction|omega))))
            (apply ret2c; (· exact rfl); (· exact inferInstance); (· exact rfl); (· (repeat (first | exact List.Mem.head _ | apply List.Mem.tail))); (· exact rfl); intro w' hS)
            exact unp_zero 4 hS
        cases hck : chkP ({ zPkt with kind := 1, to := tt, d := datV u } : Pkt)
        · rw [if_pos (.inr hck)] at hr1
          subst hr1
          repeat'(first|(apply CW.reg_sink 6 (St w NoF [codR bc br 4]); (· exact rfl); (· decide +kernel))|refine kv' ?_|apply jJ|refine jE' ?_|refine jp' ?_|(apply jc;kernel_rfl)|refine kg' ?_|refine kG' ?_|refine kB' fun _=>?_|refine kA' fun _=>?_|refine kK' fun _=>?_|refine kU' ?_|(apply kq; (· exact rfl); (· intro w1 h1; first | exact CallsTo.q (show CallsTo Tryz.prog 67 [.pointer (some ⟨br, 0, none⟩)] w1 _ from c72 br aZ cZ l2 w1 (h1.holds (rrA 143 [] br aZ cZ l2) (by (repeat (first | exact mH _ _ | apply mT))))) h1 | (have hq := CallsTo.q (e10 ({ zPkt with kind := 1, to := tt, d := datV u } : Pkt) ({ zA with da := ma, dc := mc }) w1 ((hX w1 (h1.holds (osl (.slice ma (datV u).msg.body.length mc) 5 1 (datV u).msg.body.length (bv (datV u).msg.body)) (by (repeat (first | exact mH _ _ | apply mT))))).toR hpb (Nat.le_trans hpl (by omega)) hpa hpe)) h1; rw [hck] at hq; exact hq)))|((first|refine kR' ?_ ?_|refine kQ' ?_ ?_);all_goals(intro hc;try simp only[hcs]at hc;try(exfalso;first|contradiction|omega))))
          all_goals
            all_goals (
              apply DW.quiet [0, 1, 2, 3, 4]
              · decide +kernel
              · first | exact fun _ h => h | exact fun _ h => St.sub h (by repeat (first | exact List.Sublist.refl _ | apply List.Sublist.cons_cons | apply List.Sublist.cons))
              repeat'(first|refine yv' ?_|refine uv' ?_|refine un' ?_|(refine us' ?_ ?_;all_goals(intro hc;try simp only[hcs]at hc;try(exfalso;first|contradiction|omega)))|apply QL.nil)
              all_goals (show DW _ _ _ _ _ _ _ _))
            all_goals (
              apply DW.loud 5
              · exact rfl
              · decide +kernel
              repeat'(first|refine kg' ?_|refine kG' ?_|apply kM|refine kv' ?_|refine kK' fun _=>?_|refine kU' ?_|refine kB' fun _=>?_|refine kA' fun _=>?_|(apply addX;(iterate 2 exact rfl);(iterate 2(first|omega|(dsimp only;omega)));exact rfl))
              all_goals (refine At.stage_same (fun _ h => St.sub h (by repeat (first | exact List.Sublist.refl _ | apply List.Sublist.cons_cons | apply List.Sublist.cons))) ?_))
            all_goals (apply DW.done; (· decide +kernel))
            all_goals apply At.sink
            repeat'(first|refine kv' ?_|apply jJ|refine jE' ?_|refine jp' ?_|(apply jc;kernel_rfl)|refine kg' ?_|refine kG' ?_|refine kB' fun _=>?_|refine kA' fun _=>?_|refine kK' fun _=>?_|refine kU' ?_|((first|refine kR' ?_ ?_|refine kQ' ?_ ?_);all_goals(intro hc;try simp only[hcs]at hc;try(exfalso;first|contradiction|omega))))
            (apply ret2c; (· exact rfl); (· exact inferInstance); (· exact rfl); (· (repeat (first | exact List.Mem.head _ | apply List.Mem.tail))); (· exact rfl); intro w' hS)
            exact unp_zero 4 hS
        · rw [if_neg (fun h => h.elim hll (fun h => Bool.noConfusion (hck.symm.trans h)))] at hr1
          subst hr1
          repeat'(first|refine kv' ?_|apply jJ|refine jE' ?_|refine jp' ?_|(apply jc;kernel_rfl)|refine kg' ?_|refine kG' ?_|refine kB' fun _=>?_|refine kA' fun _=>?_|refine kK' fun _=>?_|refine kU' ?_|(apply kq; (· exact rfl); (· intro w1 h1; first | exact CallsTo.q (show CallsTo Tryz.prog 67 [.pointer (some ⟨br, 0, none⟩)] w1 _ from c72 br aZ cZ l2 w1 (h1.holds (rrA 143 [] br aZ cZ l2) (by (repeat (first | exact mH _ _ | apply mT))))) h1 | (have hq := CallsTo.q (e10 ({ zPkt with kind := 1, to := tt, d := datV u } : Pkt) ({ zA with da := ma, dc := mc }) w1 ((hX w1 (h1.holds (osl (.slice ma (datV u).msg.body.length mc) 5 1 (datV u).msg.body.length (bv (datV u).msg.body)) (by (repeat (first | exact mH _ _ | apply mT))))).toR hpb (Nat.le_trans hpl (by omega)) hpa hpe)) h1; rw [hck] at hq; exact hq)))|((first|refine kR' ?_ ?_|refine kQ' ?_ ?_);all_goals(intro hc;try simp only[hcs]at hc;try(exfalso;first|contradiction|omega))))
          (apply ret2c; (· exact rfl); (· exact inferInstance); (· exact rfl); (· (repeat (first | exact List.Mem.head _ | apply List.Mem.tail))); (· exact rfl); intro w' hS)
          exact ⟨{ zA with da := ma, dc := mc }, osl (.slice ma (datV u).msg.body.length mc) 5 1 (datV u).msg.body.length (bv (datV u).msg.body), rfl, (hS.sub (L' := [osl (.slice ma (datV u).msg.body.length mc) 5 1 (datV u).msg.body.length (bv (datV u).msg.body)]) (by (repeat (first | exact List.Sublist.refl _ | apply List.Sublist.cons_cons | apply List.Sublist.cons)))).new1 rfl, osl.dep _ _ _ _ _, rfl, hX⟩
      · skip

        rw [if_pos he] at hr1
        subst hr1
        repeat'(first|(apply CW.reg_sink 6 (St w NoF [codR bc br e2]); (· exact rfl); (· decide +kernel))|refine kv' ?_|apply jJ|refine jE' ?_|refine jp' ?_|(apply jc;kernel_rfl)|refine kg' ?_|refine kG' ?_|refine kB' fun _=>?_|refine kA' fun _=>?_|refine kK' fun _=>?_|refine kU' ?_|((first|refine kR' ?_ ?_|refine kQ' ?_ ?_);all_goals(intro hc;try simp only[hcs]at hc;try(exfalso;first|contradiction|omega))))
        all_goals
          all_goals (
            apply DW.quiet [0, 1, 2, 3, 4]
            · decide +kernel
            · first | exact fun _ h => h | exact fun _ h => St.sub h (by repeat (first | exact List.Sublist.refl _ | apply List.Sublist.cons_cons | apply List.Sublist.cons))
            repeat'(first|refine yv' ?_|refine uv' ?_|refine un' ?_|(refine us' ?_ ?_;all_goals(intro hc;try simp only[hcs]at hc;try(exfalso;first|contradiction|omega)))|apply QL.nil)
            all_goals (show DW _ _ _ _ _ _ _ _))
          all_goals (
            apply DW.loud 5
            · exact rfl
            · decide +kernel
            repeat'(first|refine kg' ?_|refine kG' ?_|apply kM|refine kv' ?_|refine kK' fun _=>?_|refine kU' ?_|refine kB' fun _=>?_|refine kA' fun _=>?_|(apply addX;(iterate 2 exact rfl);(iterate 2(first|omega|(dsimp only;omega)));exact rfl))
            all_goals (refine At.stage_same (fun _ h => St.sub h (by repeat (first | exact List.Sublist.refl _ | apply List.Sublist.cons_cons | apply List.Sublist.cons))) ?_))
          all_goals (apply DW.done; (· decide +kernel))
          all_goals apply At.sink
          repeat'(first|refine kv' ?_|apply jJ|refine jE' ?_|refine jp' ?_|(apply jc;kernel_rfl)|refine kg' ?_|refine kG' ?_|refine kB' fun _=>?_|refine kA' fun _=>?_|refine kK' fun _=>?_|refine kU' ?_|((first|refine kR' ?_ ?_|refine kQ' ?_ ?_);all_goals(intro hc;try simp only[hcs]at hc;try(exfalso;first|contradiction|omega))))
          (apply ret2c; (· exact rfl); (· exact inferInstance); (· exact rfl); (· (repeat (first | exact List.Mem.head _ | apply List.Mem.tail))); (· exact rfl); intro w' hS)
          exact unp_zero e2 hS
    by_cases hk2 : k = 2
    · subst hk2
      rw [if_neg (by decide), if_pos rfl] at hp
      simp only [Prod.mk.injEq] at hp
      obtain ⟨hpp, hs2⟩ := hp
      subst hpp
      repeat'(first|refine kv' ?_|apply jJ|refine jE' ?_|refine jp' ?_|(apply jc;kernel_rfl)|refine kg' ?_|refine kG' ?_|refine kB' fun _=>?_|refine kA' fun _=>?_|refine kK' fun _=>?_|refine kU' ?_|((first|refine kR' ?_ ?_|refine kQ' ?_ ?_);all_goals(intro hc;try simp only[hcs]at hc;try(exfalso;first|contradiction|omega))))
      apply LR.call
      · exact rfl
      intro w1 h1
      refine CallsTo.mono (show CallsTo Tryz.prog 64 [.pointer (some ⟨bc, 0, none⟩)] w1 _ from e64 bc br a5 c5 u w1 (h1.holds (rD bc br a5 c5 u) (by (repeat (first | exact mH _ _ | apply mT)))) hok2) ?_
      rintro v w2 ⟨t, ta, tc, aZ, cZ, rfl, hmz, ht, st⟩
      have hT : tokT u = (l2, e2) := hs2
      rw [hT] at st ht

      have h5 := ((St.did h1 (.head _ _ _) rfl st (both_dep (rD_dep _ _ _ _ _) (osl.dep _ _ _ _ _))).part (rD_dep _ _ _ _ _) (osl.dep _ _ _ _ _)).part (Asrt.dep_own _ _) (rrA_dep _ _ _ _ _ _)
      refine LR.back h5 ?_
      clear h1 h5 st
      by_cases he : e2 = 0
      · subst he
        have htt9 := ht rfl
        subst htt9
        have hX : ∀ w2, (osl (.slice ta (tokV u).ask.length tc) 3 1 (tokV u).ask.length (iv (tokV u).ask)).holds w2 → PktM w2 ({ zPkt with kind := 2, to := tt, t := tokV u } : Pkt) ({ zA with ta := ta, tc := tc }) := fun w2 h2 => ⟨Rd.nil _ _, fun _ => rfl, ownsRow_rd h2, hmz, Rd.nil _ _, fun _ => rfl⟩
        rw [if_neg (by simp)] at hr1
        by_cases hll : 0 < l2.length
        · rw [if_pos (.inl hll)] at hr1
          subst hr1
          have hck : chkP ({ zPkt with kind := 2, to := tt, t := tokV u } : Pkt) = chkP ({ zPkt with kind := 2, to := tt, t := tokV u } : Pkt) := rfl
          repeat'(first|(apply CW.reg_sink 6 (St w NoF [codR bc br 4]); (· exact rfl); (· decide +kernel))|refine kv' ?_|apply jJ|refine jE' ?_|refine jp' ?_|(apply jc;kernel_rfl)|refine kg' ?_|refine kG' ?_|refine kB' fun _=>?_|refine kA' fun _=>?_|refine kK' fun _=>?_|refine kU' ?_|(apply kq; (· exact rfl); (· intro w1 h1; first | exact CallsTo.q (show CallsTo Tryz.prog 67 [.pointer (some ⟨br, 0, none⟩)] w1 _ from c72 br aZ cZ l2 w1 (h1.holds (rrA 143 [] br aZ cZ l2) (by (repeat (first | exact mH _ _ | apply mT))))) h1 | (have hq := CallsTo.q (e10 ({ zPkt with kind := 2, to := tt, t := tokV u } : Pkt) ({ zA with ta := ta, tc := tc }) w1 ((hX w1 (h1.holds (osl (.slice ta (tokV u).ask.length tc) 3 1 (tokV u).ask.length (iv (tokV u).ask)) (by (repeat (first | exact mH _ _ | apply mT))))).toR hpb (Nat.le_trans hpl (by omega)) hpa hpe)) h1; rw [hck] at hq; exact hq)))|((first|refine kR' ?_ ?_|refine kQ' ?_ ?_);all_goals(intro hc;try simp only[hcs]at hc;try(exfalso;first|contradiction|omega))))
          all_goals
            all_goals (
              apply DW.quiet [0, 1, 2, 3, 4]
              · decide +kernel
              · first | exact fun _ h => h | exact fun _ h => St.sub h (by repeat (first | exact List.Sublist.refl _ | apply List.Sublist.cons_cons | apply List.Sublist.cons))
              repeat'(first|refine yv' ?_|refine uv' ?_|refine un' ?_|(refine us' ?_ ?_;all_goals(intro hc;try simp only[hcs]at hc;try(exfalso;first|contradiction|omega)))|apply QL.nil)
              all_goals (show DW _ _ _ _ _ _ _ _))
            all_goals (
              apply DW.loud 5
              · exact rfl
              · decide +kernel
              repeat'(first|refine kg' ?_|refine kG' ?_|apply kM|refine kv' ?_|refine kK' fun _=>?_|refine kU' ?_|refine kB' fun _=>?_|refine kA' fun _=>?_|(apply addX;(iterate 2 exact rfl);(iterate 2(first|omega|(dsimp only;omega)));exact rfl))
              all_goals (refine At.stage_same (fun _ h => St.sub h (by repeat (first | exact List.Sublist.refl _ | apply List.Sublist.cons_cons | apply List.Sublist.cons))) ?_))
            all_goals (apply DW.done; (· decide +kernel))
            all_goals apply At.sink
            repeat'(first|refine kv' ?_|apply jJ|refine jE' ?_|refine jp' ?_|(apply jc;kernel_rfl)|refine kg' ?_|refine kG' ?_|refine kB' fun _=>?_|refine kA' fun _=>?_|refine kK' fun _=>?_|refine kU' ?_|((first|refine kR' ?_ ?_|refine kQ' ?_ ?_);all_goals(intro hc;try simp only[hcs]at hc;try(exfalso;first|contradiction|omega))))
            (apply ret2c; (· exact rfl); (· exact inferInstance); (· exact rfl); (· (repeat (first | exact List.Mem.head _ | apply List.Mem.tail))); (· exact rfl); intro w' hS)
            exact unp_zero 4 hS
        cases hck : chkP ({ zPkt with kind := 2, to := tt, t := tokV u } : Pkt)
        · rw [if_pos (.inr hck)] at hr1
          subst hr1
          repeat'(first|(apply CW.reg_sink 6 (St w NoF [codR bc br 4]); (· exact rfl); (· decide +kernel))|refine kv' ?_|apply jJ|refine jE' ?_|refine jp' ?_|(apply jc;kernel_rfl)|refine kg' ?_|refine kG' ?_|refine kB' fun _=>?_|refine kA' fun _=>?_|refine kK' fun _=>?_|refine kU' ?_|(apply kq; (· exact rfl); (· intro w1 h1; first | exact CallsTo.q (show CallsTo Tryz.prog 67 [.pointer (some ⟨br, 0, none⟩)] w1 _ from c72 br aZ cZ l2 w1 (h1.holds (rrA 143 [] br aZ cZ l2) (by (repeat (first | exact mH _ _ | apply mT))))) h1 | (have hq := CallsTo.q (e10 ({ zPkt with kind := 2, to := tt, t := tokV u } : Pkt) ({ zA with ta := ta, tc := tc }) w1 ((hX w1 (h1.holds (osl (.slice ta (tokV u).ask.length tc) 3 1 (tokV u).ask.length (iv (tokV u).ask)) (by (repeat (first | exact mH _ _ | apply mT))))).toR hpb (Nat.le_trans hpl (by omega)) hpa hpe)) h1; rw [hck] at hq; exact hq)))|((first|refine kR' ?_ ?_|refine kQ' ?_ ?_);all_goals(intro hc;try simp only[hcs]at hc;try(exfalso;first|contradiction|omega))))
          all_goals
            all_goals (
              apply DW.quiet [0, 1, 2, 3, 4]
              · decide +kernel
              · first | exact fun _ h => h | exact fun _ h => St.sub h (by repeat (first | exact List.Sublist.refl _ | apply List.Sublist.cons_cons | apply List.Sublist.cons))
              repeat'(first|refine yv' ?_|refine uv' ?_|refine un' ?_|(refine us' ?_ ?_;all_goals(intro hc;try simp only[hcs]at hc;try(exfalso;first|contradiction|omega)))|apply QL.nil)
              all_goals (show DW _ _ _ _ _ _ _ _))
            all_goals (
              apply DW.loud 5
              · exact rfl
              · decide +kernel
              repeat'(first|refine kg' ?_|refine kG' ?_|apply kM|refine kv' ?_|refine kK' fun _=>?_|refine kU' ?_|refine kB' fun _=>?_|refine kA' fun _=>?_|(apply addX;(iterate 2 exact rfl);(iterate 2(first|omega|(dsimp only;omega)));exact rfl))
              all_goals (refine At.stage_same (fun _ h => St.sub h (by repeat (first | exact List.Sublist.refl _ | apply List.Sublist.cons_cons | apply List.Sublist.cons))) ?_))
            all_goals (apply DW.done; (· decide +kernel))
            all_goals apply At.sink
            repeat'(first|refine kv' ?_|apply jJ|refine jE' ?_|refine jp' ?_|(apply jc;kernel_rfl)|refine kg' ?_|refine kG' ?_|refine kB' fun _=>?_|refine kA' fun _=>?_|refine kK' fun _=>?_|refine kU' ?_|((first|refine kR' ?_ ?_|refine kQ' ?_ ?_);all_goals(intro hc;try simp only[hcs]at hc;try(exfalso;first|contradiction|omega))))
            (apply ret2c; (· exact rfl); (· exact inferInstance); (· exact rfl); (· (repeat (first | exact List.Mem.head _ | apply List.Mem.tail))); (· exact rfl); intro w' hS)
            exact unp_zero 4 hS
        · rw [if_neg (fun h => h.elim hll (fun h => Bool.noConfusion (hck.symm.trans h)))] at hr1
          subst hr1
          repeat'(first|refine kv' ?_|apply jJ|refine jE' ?_|refine jp' ?_|(apply jc;kernel_rfl)|refine kg' ?_|refine kG' ?_|refine kB' fun _=>?_|refine kA' fun _=>?_|refine kK' fun _=>?_|refine kU' ?_|(apply kq; (· exact rfl); (· intro w1 h1; first | exact CallsTo.q (show CallsTo Tryz.prog 67 [.pointer (some ⟨br, 0, none⟩)] w1 _ from c72 br aZ cZ l2 w1 (h1.holds (rrA 143 [] br aZ cZ l2) (by (repeat (first | exact mH _ _ | apply mT))))) h1 | (have hq := CallsTo.q (e10 ({ zPkt with kind := 2, to := tt, t := tokV u } : Pkt) ({ zA with ta := ta, tc := tc }) w1 ((hX w1 (h1.holds (osl (.slice ta (tokV u).ask.length tc) 3 1 (tokV u).ask.length (iv (tokV u).ask)) (by (repeat (first | exact mH _ _ | apply mT))))).toR hpb (Nat.le_trans hpl (by omega)) hpa hpe)) h1; rw [hck] at hq; exact hq)))|((first|refine kR' ?_ ?_|refine kQ' ?_ ?_);all_goals(intro hc;try simp only[hcs]at hc;try(exfalso;first|contradiction|omega))))
          (apply ret2c; (· exact rfl); (· exact inferInstance); (· exact rfl); (· (repeat (first | exact List.Mem.head _ | apply List.Mem.tail))); (· exact rfl); intro w' hS)
          exact ⟨{ zA with ta := ta, tc := tc }, osl (.slice ta (tokV u).ask.length tc) 3 1 (tokV u).ask.length (iv (tokV u).ask), rfl, (hS.sub (L' := [osl (.slice ta (tokV u).ask.length tc) 3 1 (tokV u).ask.length (iv (tokV u).ask)]) (by (repeat (first | exact List.Sublist.refl _ | apply List.Sublist.cons_cons | apply List.Sublist.cons)))).new1 rfl, osl.dep _ _ _ _ _, rfl, hX⟩
      · skip

        rw [if_pos he] at hr1
        subst hr1
        repeat'(first|(apply CW.reg_sink 6 (St w NoF [codR bc br e2]); (· exact rfl); (· decide +kernel))|refine kv' ?_|apply jJ|refine jE' ?_|refine jp' ?_|(apply jc;kernel_rfl)|refine kg' ?_|refine kG' ?_|refine kB' fun _=>?_|refine kA' fun _=>?_|refine kK' fun _=>?_|refine kU' ?_|((first|refine kR' ?_ ?_|refine kQ' ?_ ?_);all_goals(intro hc;try simp only[hcs]at hc;try(exfalso;first|contradiction|omega))))
        all_goals
          all_goals (
            apply DW.quiet [0, 1, 2, 3, 4]
            · decide +kernel
            · first | exact fun _ h => h | exact fun _ h => St.sub h (by repeat (first | exact List.Sublist.refl _ | apply List.Sublist.cons_cons | apply List.Sublist.cons))
            repeat'(first|refine yv' ?_|refine uv' ?_|refine un' ?_|(refine us' ?_ ?_;all_goals(intro hc;try simp only[hcs]at hc;try(exfalso;first|contradiction|omega)))|apply QL.nil)
            all_goals (show DW _ _ _ _ _ _ _ _))
          all_goals (
            apply DW.loud 5
            · exact rfl
            · decide +kernel
            repeat'(first|refine kg' ?_|refine kG' ?_|apply kM|refine kv' ?_|refine kK' fun _=>?_|refine kU' ?_|refine kB' fun _=>?_|refine kA' fun _=>?_|(apply addX;(iterate 2 exact rfl);(iterate 2(first|omega|(dsimp only;omega)));exact rfl))
            all_goals (refine At.stage_same (fun _ h => St.sub h (by repeat (first | exact List.Sublist.refl _ | apply List.Sublist.cons_cons | apply List.Sublist.cons))) ?_))
          all_goals (apply DW.done; (· decide +kernel))
          all_goals apply At.sink
          repeat'(first|refine kv' ?_|apply jJ|refine jE' ?_|refine jp' ?_|(apply jc;kernel_rfl)|refine kg' ?_|refine kG' ?_|refine kB' fun _=>?_|refine kA' fun _=>?_|refine kK' fun _=>?_|refine kU' ?_|((first|refine kR' ?_ ?_|refine kQ' ?_ ?_);all_goals(intro hc;try simp only[hcs]at hc;try(exfalso;first|contradiction|omega))))
          (apply ret2c; (· exact rfl); (· exact inferInstance); (· exact rfl); (· (repeat (first | exact List.Mem.head _ | apply List.Mem.tail))); (· exact rfl); intro w' hS)
          exact unp_zero e2 hS
    by_cases hk3 : k = 3
    · subst hk3
      rw [if_neg (by decide), if_neg (by decide), if_pos rfl] at hp
      simp only [Prod.mk.injEq] at hp
      obtain ⟨hpp, hs2⟩ := hp
      subst hpp
      repeat'(first|refine kv' ?_|apply jJ|refine jE' ?_|refine jp' ?_|(apply jc;kernel_rfl)|refine kg' ?_|refine kG' ?_|refine kB' fun _=>?_|refine kA' fun _=>?_|refine kK' fun _=>?_|refine kU' ?_|(apply LR.call (d := 64); (· exact rfl); (intro w1 h1; refine CallsTo.mono (show CallsTo Tryz.prog 62 [.pointer (some ⟨bc, 0, none⟩)] w1 _ from e62 bc br a5 c5 u w1 (h1.holds (rD bc br a5 c5 u) (by (repeat (first | exact mH _ _ | apply mT)))) hok2) ?_; rintro v w2 ⟨a6, c6, rfl, st⟩; refine LR.back (St.did h1 (by (repeat (first | exact sH _ _ _ | apply sT))) rfl st (rD_dep _ _ _ _ _)) ?_; clear st h1))|(apply LR.call (d := 68); (· exact rfl); (intro w1 h1; refine CallsTo.mono (show CallsTo Tryz.prog 62 [.pointer (some ⟨bc, 0, none⟩)] w1 _ from e62 bc br a6 c6 (gT u) w1 (h1.holds (rD bc br a6 c6 (gT u)) (by (repeat (first | exact mH _ _ | apply mT)))) (okS_gT hok2)) ?_; rintro v w2 ⟨a7, c7, rfl, st⟩; refine LR.back (St.did h1 (by (repeat (first | exact sH _ _ _ | apply sT))) rfl st (rD_dep _ _ _ _ _)) ?_; clear st h1))|(apply LR.call (d := 83); (· exact rfl); (intro w1 h1; refine CallsTo.mono (show CallsTo Tryz.prog 66 [.pointer (some ⟨bc, 0, none⟩)] w1 _ from e66 bc br a5 c5 u w1 (h1.holds (rD bc br a5 c5 u) (by (repeat (first | exact mH _ _ | apply mT)))) hok2) ?_; rintro v w2 ⟨a7, c7, rfl, st⟩; refine LR.back (St.did h1 (by (repeat (first | exact sH _ _ _ | apply sT))) rfl st (rD_dep _ _ _ _ _)) ?_; clear st h1))|((first|refine kR' ?_ ?_|refine kQ' ?_ ?_);all_goals(intro hc;try simp only[hcs]at hc;try(exfalso;first|contradiction|omega))))
      apply LR.call
      · exact rfl
      intro w1 h1
      refine CallsTo.mono (show CallsTo Tryz.prog 62 [.pointer (some ⟨bc, 0, none⟩)] w1 _ from e62 bc br a7 c7 (gT (gT u)) w1 (h1.holds (rD bc br a7 c7 (gT (gT u))) (by (repeat (first | exact mH _ _ | apply mT)))) (okS_gT (okS_gT hok2))) ?_
      rintro v w2 ⟨aZ, cZ, rfl, st⟩
      rw [hs2] at st
      have h5 := ((St.did h1 (.head _ _ _) rfl st (rD_dep _ _ _ _ _)).part (Asrt.dep_own _ _) (rrA_dep _ _ _ _ _ _)).nilsl 3 1
      refine LR.back h5 ?_
      clear h1 h5 st
      by_cases he : e2 = 0
      · subst he

        have hX : ∀ w2, (osl (.slice none 0 0) 3 1 0 []).holds w2 → PktM w2 ({ zPkt with kind := 3, to := tt, j1 := gV u, j2 := gV (gT u), j3 := gV (gT (gT u)) } : Pkt) (zA) := fun w2 _ => ⟨Rd.nil _ _, fun _ => rfl, Rd.nil _ _, fun _ => rfl, Rd.nil _ _, fun _ => rfl⟩
        rw [if_neg (by simp)] at hr1
        by_cases hll : 0 < l2.length
        · rw [if_pos (.inl hll)] at hr1
          subst hr1
          have hck : chkP ({ zPkt with kind := 3, to := tt, j1 := gV u, j2 := gV (gT u), j3 := gV (gT (gT u)) } : Pkt) = chkP ({ zPkt with kind := 3, to := tt, j1 := gV u, j2 := gV (gT u), j3 := gV (gT (gT u)) } : Pkt) := rfl
          repeat'(first|(apply CW.reg_sink 6 (St w NoF [codR bc br 4]); (· exact rfl); (· decide +kernel))|refine kv' ?_|apply jJ|refine jE' ?_|refine jp' ?_|(apply jc;kernel_rfl)|refine kg' ?_|refine kG' ?_|refine kB' fun _=>?_|refine kA' fun _=>?_|refine kK' fun _=>?_|refine kU' ?_|(apply kq; (· exact rfl); (· intro w1 h1; first | exact CallsTo.q (show CallsTo Tryz.prog 67 [.pointer (some ⟨br, 0, none⟩)] w1 _ from c72 br aZ cZ l2 w1 (h1.holds (rrA 143 [] br aZ cZ l2) (by (repeat (first | exact mH _ _ | apply mT))))) h1 | (have hq := CallsTo.q (e10 ({ zPkt with kind := 3, to := tt, j1 := gV u, j2 := gV (gT u), j3 := gV (gT (gT u)) } : Pkt) (zA) w1 ((hX w1 (h1.holds (osl (.slice none 0 0) 3 1 0 []) (by (repeat (first | exact mH _ _ | apply mT))))).toR hpb (Nat.le_trans hpl (by omega)) hpa hpe)) h1; rw [hck] at hq; exact hq)))|((first|refine kR' ?_ ?_|refine kQ' ?_ ?_);all_goals(intro hc;try simp only[hcs]at hc;try(exfalso;first|contradiction|omega))))
          all_goals
            all_goals (
              apply DW.quiet [0, 1, 2, 3, 4]
              · decide +kernel
              · first | exact fun _ h => h | exact fun _ h => St.sub h (by repeat (first | exact List.Sublist.refl _ | apply List.Sublist.cons_cons | apply List.Sublist.cons))
              repeat'(first|refine yv' ?_|refine uv' ?_|refine un' ?_|(refine us' ?_ ?_;all_goals(intro hc;try simp only[hcs]at hc;try(exfalso;first|contradiction|omega)))|apply QL.nil)
              all_goals (show DW _ _ _ _ _ _ _ _))
            all_goals (
              apply DW.loud 5
              · exact rfl
              · decide +kernel
              repeat'(first|refine kg' ?_|refine kG' ?_|apply kM|refine kv' ?_|refine kK' fun _=>?_|refine kU' ?_|refine kB' fun _=>?_|refine kA' fun _=>?_|(apply addX;(iterate 2 exact rfl);(iterate 2(first|omega|(dsimp only;omega)));exact rfl))
              all_goals (refine At.stage_same (fun _ h => St.sub h (by repeat (first | exact List.Sublist.refl _ | apply List.Sublist.cons_cons | apply List.Sublist.cons))) ?_))
            all_goals (apply DW.done; (· decide +kernel))
            all_goals apply At.sink
            repeat'(first|refine kv' ?_|apply jJ|refine jE' ?_|refine jp' ?_|(apply jc;kernel_rfl)|refine kg' ?_|refine kG' ?_|refine kB' fun _=>?_|refine kA' fun _=>?_|refine kK' fun _=>?_|refine kU' ?_|((first|refine kR' ?_ ?_|refine kQ' ?_ ?_);all_goals(intro hc;try simp only[hcs]at hc;try(exfalso;first|contradiction|omega))))
            (apply ret2c; (· exact rfl); (· exact inferInstance); (· exact rfl); (· (repeat (first | exact List.Mem.head _ | apply List.Mem.tail))); (· exact rfl); intro w' hS)
            exact unp_zero 4 hS
        cases hck : chkP ({ zPkt with kind := 3, to := tt, j1 := gV u, j2 := gV (gT u), j3 := gV (gT (gT u)) } : Pkt)
        · rw [if_pos (.inr hck)] at hr1
          subst hr1
          repeat'(first|(apply CW.reg_sink 6 (St w NoF [codR bc br 4]); (· exact rfl); (· decide +kernel))|refine kv' ?_|apply jJ|refine jE' ?_|refine jp' ?_|(apply jc;kernel_rfl)|refine kg' ?_|refine kG' ?_|refine kB' fun _=>?_|refine kA' fun _=>?_|refine kK' fun _=>?_|refine kU' ?_|(apply kq; (· exact rfl); (· intro w1 h1; first | exact CallsTo.q (show CallsTo Tryz.prog 67 [.pointer (some ⟨br, 0, none⟩)] w1 _ from c72 br aZ cZ l2 w1 (h1.holds (rrA 143 [] br aZ cZ l2) (by (repeat (first | exact mH _ _ | apply mT))))) h1 | (have hq := CallsTo.q (e10 ({ zPkt with kind := 3, to := tt, j1 := gV u, j2 := gV (gT u), j3 := gV (gT (gT u)) } : Pkt) (zA) w1 ((hX w1 (h1.holds (osl (.slice none 0 0) 3 1 0 []) (by (repeat (first | exact mH _ _ | apply mT))))).toR hpb (Nat.le_trans hpl (by omega)) hpa hpe)) h1; rw [hck] at hq; exact hq)))|((first|refine kR' ?_ ?_|refine kQ' ?_ ?_);all_goals(intro hc;try simp only[hcs]at hc;try(exfalso;first|contradiction|omega))))
          all_goals
            all_goals (
              apply DW.quiet [0, 1, 2, 3, 4]
              · decide +kernel
              · first | exact fun _ h => h | exact fun _ h => St.sub h (by repeat (first | exact List.Sublist.refl _ | apply List.Sublist.cons_cons | apply List.Sublist.cons))
              repeat'(first|refine yv' ?_|refine uv' ?_|refine un' ?_|(refine us' ?_ ?_;all_goals(intro hc;try simp only[hcs]at hc;try(exfalso;first|contradiction|omega)))|apply QL.nil)
              all_goals (show DW _ _ _ _ _ _ _ _))
            all_goals (
              apply DW.loud 5
              · exact rfl
              · decide +kernel
              repeat'(first|refine kg' ?_|refine kG' ?_|apply kM|refine kv' ?_|refine kK' fun _=>?_|refine kU' ?_|refine kB' fun _=>?_|refine kA' fun _=>?_|(apply addX;(iterate 2 exact rfl);(iterate 2(first|omega|(dsimp only;omega)));exact rfl))
              all_goals (refine At.stage_same (fun _ h => St.sub h (by repeat (first | exact List.Sublist.refl _ | apply List.Sublist.cons_cons | apply List.Sublist.cons))) ?_))
            all_goals (apply DW.done; (· decide +kernel))
            all_goals apply At.sink
            repeat'(first|refine kv' ?_|apply jJ|refine jE' ?_|refine jp' ?_|(apply jc;kernel_rfl)|refine kg' ?_|refine kG' ?_|refine kB' fun _=>?_|refine kA' fun _=>?_|refine kK' fun _=>?_|refine kU' ?_|((first|refine kR' ?_ ?_|refine kQ' ?_ ?_);all_goals(intro hc;try simp only[hcs]at hc;try(exfalso;first|contradiction|omega))))
            (apply ret2c; (· exact rfl); (· exact inferInstance); (· exact rfl); (· (repeat (first | exact List.Mem.head _ | apply List.Mem.tail))); (· exact rfl); intro w' hS)
            exact unp_zero 4 hS
        · rw [if_neg (fun h => h.elim hll (fun h => Bool.noConfusion (hck.symm.trans h)))] at hr1
          subst hr1
          repeat'(first|refine kv' ?_|apply jJ|refine jE' ?_|refine jp' ?_|(apply jc;kernel_rfl)|refine kg' ?_|refine kG' ?_|refine kB' fun _=>?_|refine kA' fun _=>?_|refine kK' fun _=>?_|refine kU' ?_|(apply kq; (· exact rfl); (· intro w1 h1; first | exact CallsTo.q (show CallsTo Tryz.prog 67 [.pointer (some ⟨br, 0, none⟩)] w1 _ from c72 br aZ cZ l2 w1 (h1.holds (rrA 143 [] br aZ cZ l2) (by (repeat (first | exact mH _ _ | apply mT))))) h1 | (have hq := CallsTo.q (e10 ({ zPkt with kind := 3, to := tt, j1 := gV u, j2 := gV (gT u), j3 := gV (gT (gT u)) } : Pkt) (zA) w1 ((hX w1 (h1.holds (osl (.slice none 0 0) 3 1 0 []) (by (repeat (first | exact mH _ _ | apply mT))))).toR hpb (Nat.le_trans hpl (by omega)) hpa hpe)) h1; rw [hck] at hq; exact hq)))|((first|refine kR' ?_ ?_|refine kQ' ?_ ?_);all_goals(intro hc;try simp only[hcs]at hc;try(exfalso;first|contradiction|omega))))
          (apply ret2c; (· exact rfl); (· exact inferInstance); (· exact rfl); (· (repeat (first | exact List.Mem.head _ | apply List.Mem.tail))); (· exact rfl); intro w' hS)
          exact ⟨zA, osl (.slice none 0 0) 3 1 0 [], rfl, (hS.sub (L' := [osl (.slice none 0 0) 3 1 0 []]) (by (repeat (first | exact List.Sublist.refl _ | apply List.Sublist.cons_cons | apply List.Sublist.cons)))).new1 rfl, osl.dep _ _ _ _ _, rfl, hX⟩
      · skip

        rw [if_pos he] at hr1
        subst hr1
        repeat'(first|(apply CW.reg_sink 6 (St w NoF [codR bc br e2]); (· exact rfl); (· decide +kernel))|refine kv' ?_|apply jJ|refine jE' ?_|refine jp' ?_|(apply jc;kernel_rfl)|refine kg' ?_|refine kG' ?_|refine kB' fun _=>?_|refine kA' fun _=>?_|refine kK' fun _=>?_|refine kU' ?_|((first|refine kR' ?_ ?_|refine kQ' ?_ ?_);all_goals(intro hc;try simp only[hcs]at hc;try(exfalso;first|contradiction|omega))))
        all_goals
          all_goals (
            apply DW.quiet [0, 1, 2, 3, 4]
            · decide +kernel
            · first | exact fun _ h => h | exact fun _ h => St.sub h (by repeat (first | exact List.Sublist.refl _ | apply List.Sublist.cons_cons | apply List.Sublist.cons))
            repeat'(first|refine yv' ?_|refine uv' ?_|refine un' ?_|(refine us' ?_ ?_;all_goals(intro hc;try simp only[hcs]at hc;try(exfalso;first|contradiction|omega)))|apply QL.nil)
            all_goals (show DW _ _ _ _ _ _ _ _))
          all_goals (
            apply DW.loud 5
            · exact rfl
            · decide +kernel
            repeat'(first|refine kg' ?_|refine kG' ?_|apply kM|refine kv' ?_|refine kK' fun _=>?_|refine kU' ?_|refine kB' fun _=>?_|refine kA' fun _=>?_|(apply addX;(iterate 2 exact rfl);(iterate 2(first|omega|(dsimp only;omega)));exact rfl))
            all_goals (refine At.stage_same (fun _ h => St.sub h (by repeat (first | exact List.Sublist.refl _ | apply List.Sublist.cons_cons | apply List.Sublist.cons))) ?_))
          all_goals (apply DW.done; (· decide +kernel))
          all_goals apply At.sink
          repeat'(first|refine kv' ?_|apply jJ|refine jE' ?_|refine jp' ?_|(apply jc;kernel_rfl)|refine kg' ?_|refine kG' ?_|refine kB' fun _=>?_|refine kA' fun _=>?_|refine kK' fun _=>?_|refine kU' ?_|((first|refine kR' ?_ ?_|refine kQ' ?_ ?_);all_goals(intro hc;try simp only[hcs]at hc;try(exfalso;first|contradiction|omega))))
          (apply ret2c; (· exact rfl); (· exact inferInstance); (· exact rfl); (· (repeat (first | exact List.Mem.head _ | apply List.Mem.tail))); (· exact rfl); intro w' hS)
          exact unp_zero e2 hS
    by_cases hk4 : k = 4
    · subst hk4
      rw [if_neg (by decide), if_neg (by decide), if_neg (by decide), if_pos rfl] at hp
      simp only [Prod.mk.injEq] at hp
      obtain ⟨hpp, hs2⟩ := hp
      subst hpp
      repeat'(first|refine kv' ?_|apply jJ|refine jE' ?_|refine jp' ?_|(apply jc;kernel_rfl)|refine kg' ?_|refine kG' ?_|refine kB' fun _=>?_|refine kA' fun _=>?_|refine kK' fun _=>?_|refine kU' ?_|((first|refine kR' ?_ ?_|refine kQ' ?_ ?_);all_goals(intro hc;try simp only[hcs]at hc;try(exfalso;first|contradiction|omega))))
      apply LR.call
      · exact rfl
      intro w1 h1
      refine CallsTo.mono (show CallsTo Tryz.prog 65 [.pointer (some ⟨bc, 0, none⟩)] w1 _ from e65 bc br a5 c5 u w1 (h1.holds (rD bc br a5 c5 u) (by (repeat (first | exact mH _ _ | apply mT)))) hok2) ?_
      rintro v w2 ⟨t, ta, tc, aZ, cZ, rfl, hmz, ht, st⟩
      have hT : comT u = (l2, e2) := hs2
      rw [hT] at st ht

      have h5 := ((St.did h1 (.head _ _ _) rfl st (both_dep (rD_dep _ _ _ _ _) (osl.dep _ _ _ _ _))).part (rD_dep _ _ _ _ _) (osl.dep _ _ _ _ _)).part (Asrt.dep_own _ _) (rrA_dep _ _ _ _ _ _)
      refine LR.back h5 ?_
      clear h1 h5 st
      by_cases he : e2 = 0
      · subst he
        have htt9 := ht rfl
        subst htt9
        have hX : ∀ w2, (osl (.slice ta (comV u).ents.length tc) 77 6 (comV u).ents.length ((comV u).ents.flatMap Ent.cells)).holds w2 → PktM w2 ({ zPkt with kind := 4, to := tt, c := comV u } : Pkt) ({ zA with ca := ta, cc := tc }) := fun w2 h2 => ⟨Rd.nil _ _, fun _ => rfl, Rd.nil _ _, fun _ => rfl, ownsRow_rd h2, hmz⟩
        rw [if_neg (by simp)] at hr1
        by_cases hll : 0 < l2.length
        · rw [if_pos (.inl hll)] at hr1
          subst hr1
          have hck : chkP ({ zPkt with kind := 4, to := tt, c := comV u } : Pkt) = chkP ({ zPkt with kind := 4, to := tt, c := comV u } : Pkt) := rfl
          repeat'(first|(apply CW.reg_sink 6 (St w NoF [codR bc br 4]); (· exact rfl); (· decide +kernel))|refine kv' ?_|apply jJ|refine jE' ?_|refine jp' ?_|(apply jc;kernel_rfl)|refine kg' ?_|refine kG' ?_|refine kB' fun _=>?_|refine kA' fun _=>?_|refine kK' fun _=>?_|refine kU' ?_|(apply kq; (· exact rfl); (· intro w1 h1; first | exact CallsTo.q (show CallsTo Tryz.prog 67 [.pointer (some ⟨br, 0, none⟩)] w1 _ from c72 br aZ cZ l2 w1 (h1.holds (rrA 143 [] br aZ cZ l2) (by (repeat (first | exact mH _ _ | apply mT))))) h1 | (have hq := CallsTo.q (e10 ({ zPkt with kind := 4, to := tt, c := comV u } : Pkt) ({ zA with ca := ta, cc := tc }) w1 ((hX w1 (h1.holds (osl (.slice ta (comV u).ents.length tc) 77 6 (comV u).ents.length ((comV u).ents.flatMap Ent.cells)) (by (repeat (first | exact mH _ _ | apply mT))))).toR hpb (Nat.le_trans hpl (by omega)) hpa hpe)) h1; rw [hck] at hq; exact hq)))|((first|refine kR' ?_ ?_|refine kQ' ?_ ?_);all_goals(intro hc;try simp only[hcs]at hc;try(exfalso;first|contradiction|omega))))
          all_goals
            all_goals (
              apply DW.quiet [0, 1, 2, 3, 4]
              · decide +kernel
              · first | exact fun _ h => h | exact fun _ h => St.sub h (by repeat (first | exact List.Sublist.refl _ | apply List.Sublist.cons_cons | apply List.Sublist.cons))
              repeat'(first|refine yv' ?_|refine uv' ?_|refine un' ?_|(refine us' ?_ ?_;all_goals(intro hc;try simp only[hcs]at hc;try(exfalso;first|contradiction|omega)))|apply QL.nil)
              all_goals (show DW _ _ _ _ _ _ _ _))
            all_goals (
              apply DW.loud 5
              · exact rfl
              · decide +kernel
              repeat'(first|refine kg' ?_|refine kG' ?_|apply kM|refine kv' ?_|refine kK' fun _=>?_|refine kU' ?_|refine kB' fun _=>?_|refine kA' fun _=>?_|(apply addX;(iterate 2 exact rfl);(iterate 2(first|omega|(dsimp only;omega)));exact rfl))
              all_goals (refine At.stage_same (fun _ h => St.sub h (by repeat (first | exact List.Sublist.refl _ | apply List.Sublist.cons_cons | apply List.Sublist.cons))) ?_))
            all_goals (apply DW.done; (· decide +kernel))
            all_goals apply At.sink
            repeat'(first|refine kv' ?_|apply jJ|refine jE' ?_|refine jp' ?_|(apply jc;kernel_rfl)|refine kg' ?_|refine kG' ?_|refine kB' fun _=>?_|refine kA' fun _=>?_|refine kK' fun _=>?_|refine kU' ?_|((first|refine kR' ?_ ?_|refine kQ' ?_ ?_);all_goals(intro hc;try simp only[hcs]at hc;try(exfalso;first|contradiction|omega))))
            (apply ret2c; (· exact rfl); (· exact inferInstance); (· exact rfl); (· (repeat (first | exact List.Mem.head _ | apply List.Mem.tail))); (· exact rfl); intro w' hS)
            exact unp_zero 4 hS
        cases hck : chkP ({ zPkt with kind := 4, to := tt, c := comV u } : Pkt)
        · rw [if_pos (.inr hck)] at hr1
          subst hr1
          repeat'(first|(apply CW.reg_sink 6 (St w NoF [codR bc br 4]); (· exact rfl); (· decide +kernel))|refine kv' ?_|apply jJ|refine jE' ?_|refine jp' ?_|(apply jc;kernel_rfl)|refine kg' ?_|refine kG' ?_|refine kB' fun _=>?_|refine kA' fun _=>?_|refine kK' fun _=>?_|refine kU' ?_|(apply kq; (· exact rfl); (· intro w1 h1; first | exact CallsTo.q (show CallsTo Tryz.prog 67 [.pointer (some ⟨br, 0, none⟩)] w1 _ from c72 br aZ cZ l2 w1 (h1.holds (rrA 143 [] br aZ cZ l2) (by (repeat (first | exact mH _ _ | apply mT))))) h1 | (have hq := CallsTo.q (e10 ({ zPkt with kind := 4, to := tt, c := comV u } : Pkt) ({ zA with ca := ta, cc := tc }) w1 ((hX w1 (h1.holds (osl (.slice ta (comV u).ents.length tc) 77 6 (comV u).ents.length ((comV u).ents.flatMap Ent.cells)) (by (repeat (first | exact mH _ _ | apply mT))))).toR hpb (Nat.le_trans hpl (by omega)) hpa hpe)) h1; rw [hck] at hq; exact hq)))|((first|refine kR' ?_ ?_|refine kQ' ?_ ?_);all_goals(intro hc;try simp only[hcs]at hc;try(exfalso;first|contradiction|omega))))
          all_goals
            all_goals (
              apply DW.quiet [0, 1, 2, 3, 4]
              · decide +kernel
              · first | exact fun _ h => h | exact fun _ h => St.sub h (by repeat (first | exact List.Sublist.refl _ | apply List.Sublist.cons_cons | apply List.Sublist.cons))
              repeat'(first|refine yv' ?_|refine uv' ?_|refine un' ?_|(refine us' ?_ ?_;all_goals(intro hc;try simp only[hcs]at hc;try(exfalso;first|contradiction|omega)))|apply QL.nil)
              all_goals (show DW _ _ _ _ _ _ _ _))
            all_goals (
              apply DW.loud 5
              · exact rfl
              · decide +kernel
              repeat'(first|refine kg' ?_|refine kG' ?_|apply kM|refine kv' ?_|refine kK' fun _=>?_|refine kU' ?_|refine kB' fun _=>?_|refine kA' fun _=>?_|(apply addX;(iterate 2 exact rfl);(iterate 2(first|omega|(dsimp only;omega)));exact rfl))
              all_goals (refine At.stage_same (fun _ h => St.sub h (by repeat (first | exact List.Sublist.refl _ | apply List.Sublist.cons_cons | apply List.Sublist.cons))) ?_))
            all_goals (apply DW.done; (· decide +kernel))
            all_goals apply At.sink
            repeat'(first|refine kv' ?_|apply jJ|refine jE' ?_|refine jp' ?_|(apply jc;kernel_rfl)|refine kg' ?_|refine kG' ?_|refine kB' fun _=>?_|refine kA' fun _=>?_|refine kK' fun _=>?_|refine kU' ?_|((first|refine kR' ?_ ?_|refine kQ' ?_ ?_);all_goals(intro hc;try simp only[hcs]at hc;try(exfalso;first|contradiction|omega))))
            (apply ret2c; (· exact rfl); (· exact inferInstance); (· exact rfl); (· (repeat (first | exact List.Mem.head _ | apply List.Mem.tail))); (· exact rfl); intro w' hS)
            exact unp_zero 4 hS
        · rw [if_neg (fun h => h.elim hll (fun h => Bool.noConfusion (hck.symm.trans h)))] at hr1
          subst hr1
          repeat'(first|refine kv' ?_|apply jJ|refine jE' ?_|refine jp' ?_|(apply jc;kernel_rfl)|refine kg' ?_|refine kG' ?_|refine kB' fun _=>?_|refine kA' fun _=>?_|refine kK' fun _=>?_|refine kU' ?_|(apply kq; (· exact rfl); (· intro w1 h1; first | exact CallsTo.q (show CallsTo Tryz.prog 67 [.pointer (some ⟨br, 0, none⟩)] w1 _ from c72 br aZ cZ l2 w1 (h1.holds (rrA 143 [] br aZ cZ l2) (by (repeat (first | exact mH _ _ | apply mT))))) h1 | (have hq := CallsTo.q (e10 ({ zPkt with kind := 4, to := tt, c := comV u } : Pkt) ({ zA with ca := ta, cc := tc }) w1 ((hX w1 (h1.holds (osl (.slice ta (comV u).ents.length tc) 77 6 (comV u).ents.length ((comV u).ents.flatMap Ent.cells)) (by (repeat (first | exact mH _ _ | apply mT))))).toR hpb (Nat.le_trans hpl (by omega)) hpa hpe)) h1; rw [hck] at hq; exact hq)))|((first|refine kR' ?_ ?_|refine kQ' ?_ ?_);all_goals(intro hc;try simp only[hcs]at hc;try(exfalso;first|contradiction|omega))))
          (apply ret2c; (· exact rfl); (· exact inferInstance); (· exact rfl); (· (repeat (first | exact List.Mem.head _ | apply List.Mem.tail))); (· exact rfl); intro w' hS)
          exact ⟨{ zA with ca := ta, cc := tc }, osl (.slice ta (comV u).ents.length tc) 77 6 (comV u).ents.length ((comV u).ents.flatMap Ent.cells), rfl, (hS.sub (L' := [osl (.slice ta (comV u).ents.length tc) 77 6 (comV u).ents.length ((comV u).ents.flatMap Ent.cells)]) (by (repeat (first | exact List.Sublist.refl _ | apply List.Sublist.cons_cons | apply List.Sublist.cons)))).new1 rfl, osl.dep _ _ _ _ _, rfl, hX⟩
      · skip

        rw [if_pos he] at hr1
        subst hr1
        repeat'(first|(apply CW.reg_sink 6 (St w NoF [codR bc br e2]); (· exact rfl); (· decide +kernel))|refine kv' ?_|apply jJ|refine jE' ?_|refine jp' ?_|(apply jc;kernel_rfl)|refine kg' ?_|refine kG' ?_|refine kB' fun _=>?_|refine kA' fun _=>?_|refine kK' fun _=>?_|refine kU' ?_|((first|refine kR' ?_ ?_|refine kQ' ?_ ?_);all_goals(intro hc;try simp only[hcs]at hc;try(exfalso;first|contradiction|omega))))
        all_goals
          all_goals (
            apply DW.quiet [0, 1, 2, 3, 4]
            · decide +kernel
            · first | exact fun _ h => h | exact fun _ h => St.sub h (by repeat (first | exact List.Sublist.refl _ | apply List.Sublist.cons_cons | apply List.Sublist.cons))
            repeat'(first|refine yv' ?_|refine uv' ?_|refine un' ?_|(refine us' ?_ ?_;all_goals(intro hc;try simp only[hcs]at hc;try(exfalso;first|contradiction|omega)))|apply QL.nil)
            all_goals (show DW _ _ _ _ _ _ _ _))
          all_goals (
            apply DW.loud 5
            · exact rfl
            · decide +kernel
            repeat'(first|refine kg' ?_|refine kG' ?_|apply kM|refine kv' ?_|refine kK' fun _=>?_|refine kU' ?_|refine kB' fun _=>?_|refine kA' fun _=>?_|(apply addX;(iterate 2 exact rfl);(iterate 2(first|omega|(dsimp only;omega)));exact rfl))
            all_goals (refine At.stage_same (fun _ h => St.sub h (by repeat (first | exact List.Sublist.refl _ | apply List.Sublist.cons_cons | apply List.Sublist.cons))) ?_))
          all_goals (apply DW.done; (· decide +kernel))
          all_goals apply At.sink
          repeat'(first|refine kv' ?_|apply jJ|refine jE' ?_|refine jp' ?_|(apply jc;kernel_rfl)|refine kg' ?_|refine kG' ?_|refine kB' fun _=>?_|refine kA' fun _=>?_|refine kK' fun _=>?_|refine kU' ?_|((first|refine kR' ?_ ?_|refine kQ' ?_ ?_);all_goals(intro hc;try simp only[hcs]at hc;try(exfalso;first|contradiction|omega))))
          (apply ret2c; (· exact rfl); (· exact inferInstance); (· exact rfl); (· (repeat (first | exact List.Mem.head _ | apply List.Mem.tail))); (· exact rfl); intro w' hS)
          exact unp_zero e2 hS
    have hk5 : k = 5 := by omega
    · subst hk5
      rw [if_neg (by decide), if_neg (by decide), if_neg (by decide), if_neg (by decide), if_pos rfl] at hp
      simp only [Prod.mk.injEq] at hp
      obtain ⟨hpp, hs2⟩ := hp
      subst hpp
      repeat'(first|refine kv' ?_|apply jJ|refine jE' ?_|refine jp' ?_|(apply jc;kernel_rfl)|refine kg' ?_|refine kG' ?_|refine kB' fun _=>?_|refine kA' fun _=>?_|refine kK' fun _=>?_|refine kU' ?_|(apply LR.call (d := 64); (· exact rfl); (intro w1 h1; refine CallsTo.mono (show CallsTo Tryz.prog 62 [.pointer (some ⟨bc, 0, none⟩)] w1 _ from e62 bc br a5 c5 u w1 (h1.holds (rD bc br a5 c5 u) (by (repeat (first | exact mH _ _ | apply mT)))) hok2) ?_; rintro v w2 ⟨a6, c6, rfl, st⟩; refine LR.back (St.did h1 (by (repeat (first | exact sH _ _ _ | apply sT))) rfl st (rD_dep _ _ _ _ _)) ?_; clear st h1))|(apply LR.call (d := 68); (· exact rfl); (intro w1 h1; refine CallsTo.mono (show CallsTo Tryz.prog 62 [.pointer (some ⟨bc, 0, none⟩)] w1 _ from e62 bc br a6 c6 (gT u) w1 (h1.holds (rD bc br a6 c6 (gT u)) (by (repeat (first | exact mH _ _ | apply mT)))) (okS_gT hok2)) ?_; rintro v w2 ⟨a7, c7, rfl, st⟩; refine LR.back (St.did h1 (by (repeat (first | exact sH _ _ _ | apply sT))) rfl st (rD_dep _ _ _ _ _)) ?_; clear st h1))|(apply LR.call (d := 83); (· exact rfl); (intro w1 h1; refine CallsTo.mono (show CallsTo Tryz.prog 66 [.pointer (some ⟨bc, 0, none⟩)] w1 _ from e66 bc br a5 c5 u w1 (h1.holds (rD bc br a5 c5 u) (by (repeat (first | exact mH _ _ | apply mT)))) hok2) ?_; rintro v w2 ⟨a7, c7, rfl, st⟩; refine LR.back (St.did h1 (by (repeat (first | exact sH _ _ _ | apply sT))) rfl st (rD_dep _ _ _ _ _)) ?_; clear st h1))|((first|refine kR' ?_ ?_|refine kQ' ?_ ?_);all_goals(intro hc;try simp only[hcs]at hc;try(exfalso;first|contradiction|omega))))
      apply LR.call
      · exact rfl
      intro w1 h1
      refine CallsTo.mono (show CallsTo Tryz.prog 62 [.pointer (some ⟨bc, 0, none⟩)] w1 _ from e62 bc br a7 c7 (gT (gT u)) w1 (h1.holds (rD bc br a7 c7 (gT (gT u))) (by (repeat (first | exact mH _ _ | apply mT)))) (okS_gT (okS_gT hok2))) ?_
      rintro v w2 ⟨aZ, cZ, rfl, st⟩
      rw [hs2] at st
      have h5 := ((St.did h1 (.head _ _ _) rfl st (rD_dep _ _ _ _ _)).part (Asrt.dep_own _ _) (rrA_dep _ _ _ _ _ _)).nilsl 3 1
      refine LR.back h5 ?_
      clear h1 h5 st
      by_cases he : e2 = 0
      · subst he

        have hX : ∀ w2, (osl (.slice none 0 0) 3 1 0 []).holds w2 → PktM w2 ({ zPkt with kind := 5, to := tt, b1 := gV u, b2 := gV (gT u), b3 := gV (gT (gT u)) } : Pkt) (zA) := fun w2 _ => ⟨Rd.nil _ _, fun _ => rfl, Rd.nil _ _, fun _ => rfl, Rd.nil _ _, fun _ => rfl⟩
        rw [if_neg (by simp)] at hr1
        by_cases hll : 0 < l2.length
        · rw [if_pos (.inl hll)] at hr1
          subst hr1
          have hck : chkP ({ zPkt with kind := 5, to := tt, b1 := gV u, b2 := gV (gT u), b3 := gV (gT (gT u)) } : Pkt) = chkP ({ zPkt with kind := 5, to := tt, b1 := gV u, b2 := gV (gT u), b3 := gV (gT (gT u)) } : Pkt) := rfl
          repeat'(first|(apply CW.reg_sink 6 (St w NoF [codR bc br 4]); (· exact rfl); (· decide +kernel))|refine kv' ?_|apply jJ|refine jE' ?_|refine jp' ?_|(apply jc;kernel_rfl)|refine kg' ?_|refine kG' ?_|refine kB' fun _=>?_|refine kA' fun _=>?_|refine kK' fun _=>?_|refine kU' ?_|(apply kq; (· exact rfl); (· intro w1 h1; first | exact CallsTo.q (show CallsTo Tryz.prog 67 [.pointer (some ⟨br, 0, none⟩)] w1 _ from c72 br aZ cZ l2 w1 (h1.holds (rrA 143 [] br aZ cZ l2) (by (repeat (first | exact mH _ _ | apply mT))))) h1 | (have hq := CallsTo.q (e10 ({ zPkt with kind := 5, to := tt, b1 := gV u, b2 := gV (gT u), b3 := gV (gT (gT u)) } : Pkt) (zA) w1 ((hX w1 (h1.holds (osl (.slice none 0 0) 3 1 0 []) (by (repeat (first | exact mH _ _ | apply mT))))).toR hpb (Nat.le_trans hpl (by omega)) hpa hpe)) h1; rw [hck] at hq; exact hq)))|((first|refine kR' ?_ ?_|refine kQ' ?_ ?_);all_goals(intro hc;try simp only[hcs]at hc;try(exfalso;first|contradiction|omega))))
          all_goals
            all_goals (
              apply DW.quiet [0, 1, 2, 3, 4]
              · decide +kernel
              · first | exact fun _ h => h | exact fun _ h => St.sub h (by repeat (first | exact List.Sublist.refl _ | apply List.Sublist.cons_cons | apply List.Sublist.cons))
              repeat'(first|refine yv' ?_|refine uv' ?_|refine un' ?_|(refine us' ?_ ?_;all_goals(intro hc;try simp only[hcs]at hc;try(exfalso;first|contradiction|omega)))|apply QL.nil)
              all_goals (show DW _ _ _ _ _ _ _ _))
            all_goals (
              apply DW.loud 5
              · exact rfl
              · decide +kernel
              repeat'(first|refine kg' ?_|refine kG' ?_|apply kM|refine kv' ?_|refine kK' fun _=>?_|refine kU' ?_|refine kB' fun _=>?_|refine kA' fun _=>?_|(apply addX;(iterate 2 exact rfl);(iterate 2(first|omega|(dsimp only;omega)));exact rfl))
              all_goals (refine At.stage_same (fun _ h => St.sub h (by repeat (first | exact List.Sublist.refl _ | apply List.Sublist.cons_cons | apply List.Sublist.cons))) ?_))
            all_goals (apply DW.done; (· decide +kernel))
            all_goals apply At.sink
            repeat'(first|refine kv' ?_|apply jJ|refine jE' ?_|refine jp' ?_|(apply jc;kernel_rfl)|refine kg' ?_|refine kG' ?_|refine kB' fun _=>?_|refine kA' fun _=>?_|refine kK' fun _=>?_|refine kU' ?_|((first|refine kR' ?_ ?_|refine kQ' ?_ ?_);all_goals(intro hc;try simp only[hcs]at hc;try(exfalso;first|contradiction|omega))))
            (apply ret2c; (· exact rfl); (· exact inferInstance); (· exact rfl); (· (repeat (first | exact List.Mem.head _ | apply List.Mem.tail))); (· exact rfl); intro w' hS)
            exact unp_zero 4 hS
        cases hck : chkP ({ zPkt with kind := 5, to := tt, b1 := gV u, b2 := gV (gT u), b3 := gV (gT (gT u)) } : Pkt)
        · rw [if_pos (.inr hck)] at hr1
          subst hr1
          repeat'(first|(apply CW.reg_sink 6 (St w NoF [codR bc br 4]); (· exact rfl); (· decide +kernel))|refine kv' ?_|apply jJ|refine jE' ?_|refine jp' ?_|(apply jc;kernel_rfl)|refine kg' ?_|refine kG' ?_|refine kB' fun _=>?_|refine kA' fun _=>?_|refine kK' fun _=>?_|refine kU' ?_|(apply kq; (· exact rfl); (· intro w1 h1; first | exact CallsTo.q (show CallsTo Tryz.prog 67 [.pointer (some ⟨br, 0, none⟩)] w1 _ from c72 br aZ cZ l2 w1 (h1.holds (rrA 143 [] br aZ cZ l2) (by (repeat (first | exact mH _ _ | apply mT))))) h1 | (have hq := CallsTo.q (e10 ({ zPkt with kind := 5, to := tt, b1 := gV u, b2 := gV (gT u), b3 := gV (gT (gT u)) } : Pkt) (zA) w1 ((hX w1 (h1.holds (osl (.slice none 0 0) 3 1 0 []) (by (repeat (first | exact mH _ _ | apply mT))))).toR hpb (Nat.le_trans hpl (by omega)) hpa hpe)) h1; rw [hck] at hq; exact hq)))|((first|refine kR' ?_ ?_|refine kQ' ?_ ?_);all_goals(intro hc;try simp only[hcs]at hc;try(exfalso;first|contradiction|omega))))
          all_goals
            all_goals (
              apply DW.quiet [0, 1, 2, 3, 4]
              · decide +kernel
              · first | exact fun _ h => h | exact fun _ h => St.sub h (by repeat (first | exact List.Sublist.refl _ | apply List.Sublist.cons_cons | apply List.Sublist.cons))
              repeat'(first|refine yv' ?_|refine uv' ?_|refine un' ?_|(refine us' ?_ ?_;all_goals(intro hc;try simp only[hcs]at hc;try(exfalso;first|contradiction|omega)))|apply QL.nil)
              all_goals (show DW _ _ _ _ _ _ _ _))
            all_goals (
              apply DW.loud 5
              · exact rfl
              · decide +kernel
              repeat'(first|refine kg' ?_|refine kG' ?_|apply kM|refine kv' ?_|refine kK' fun _=>?_|refine kU' ?_|refine kB' fun _=>?_|refine kA' fun _=>?_|(apply addX;(iterate 2 exact rfl);(iterate 2(first|omega|(dsimp only;omega)));exact rfl))
              all_goals (refine At.stage_same (fun _ h => St.sub h (by repeat (first | exact List.Sublist.refl _ | apply List.Sublist.cons_cons | apply List.Sublist.cons))) ?_))
            all_goals (apply DW.done; (· decide +kernel))
            all_goals apply At.sink
            repeat'(first|refine kv' ?_|apply jJ|refine jE' ?_|refine jp' ?_|(apply jc;kernel_rfl)|refine kg' ?_|refine kG' ?_|refine kB' fun _=>?_|refine kA' fun _=>?_|refine kK' fun _=>?_|refine kU' ?_|((first|refine kR' ?_ ?_|refine kQ' ?_ ?_);all_goals(intro hc;try simp only[hcs]at hc;try(exfalso;first|contradiction|omega))))
            (apply ret2c; (· exact rfl); (· exact inferInstance); (· exact rfl); (· (repeat (first | exact List.Mem.head _ | apply List.Mem.tail))); (· exact rfl); intro w' hS)
            exact unp_zero 4 hS
        · rw [if_neg (fun h => h.elim hll (fun h => Bool.noConfusion (hck.symm.trans h)))] at hr1
          subst hr1
          repeat'(first|refine kv' ?_|apply jJ|refine jE' ?_|refine jp' ?_|(apply jc;kernel_rfl)|refine kg' ?_|refine kG' ?_|refine kB' fun _=>?_|refine kA' fun _=>?_|refine kK' fun _=>?_|refine kU' ?_|(apply kq; (· exact rfl); (· intro w1 h1; first | exact CallsTo.q (show CallsTo Tryz.prog 67 [.pointer (some ⟨br, 0, none⟩)] w1 _ from c72 br aZ cZ l2 w1 (h1.holds (rrA 143 [] br aZ cZ l2) (by (repeat (first | exact mH _ _ | apply mT))))) h1 | (have hq := CallsTo.q (e10 ({ zPkt with kind := 5, to := tt, b1 := gV u, b2 := gV (gT u), b3 := gV (gT (gT u)) } : Pkt) (zA) w1 ((hX w1 (h1.holds (osl (.slice none 0 0) 3 1 0 []) (by (repeat (first | exact mH _ _ | apply mT))))).toR hpb (Nat.le_trans hpl (by omega)) hpa hpe)) h1; rw [hck] at hq; exact hq)))|((first|refine kR' ?_ ?_|refine kQ' ?_ ?_);all_goals(intro hc;try simp only[hcs]at hc;try(exfalso;first|contradiction|omega))))
          (apply ret2c; (· exact rfl); (· exact inferInstance); (· exact rfl); (· (repeat (first | exact List.Mem.head _ | apply List.Mem.tail))); (· exact rfl); intro w' hS)
          exact ⟨zA, osl (.slice none 0 0) 3 1 0 [], rfl, (hS.sub (L' := [osl (.slice none 0 0) 3 1 0 []]) (by (repeat (first | exact List.Sublist.refl _ | apply List.Sublist.cons_cons | apply List.Sublist.cons)))).new1 rfl, osl.dep _ _ _ _ _, rfl, hX⟩
      · skip

        rw [if_pos he] at hr1
        subst hr1
        repeat'(first|(apply CW.reg_sink 6 (St w NoF [codR bc br e2]); (· exact rfl); (· decide +kernel))|refine kv' ?_|apply jJ|refine jE' ?_|refine jp' ?_|(apply jc;kernel_rfl)|refine kg' ?_|refine kG' ?_|refine kB' fun _=>?_|refine kA' fun _=>?_|refine kK' fun _=>?_|refine kU' ?_|((first|refine kR' ?_ ?_|refine kQ' ?_ ?_);all_goals(intro hc;try simp only[hcs]at hc;try(exfalso;first|contradiction|omega))))
        all_goals
          all_goals (
            apply DW.quiet [0, 1, 2, 3, 4]
            · decide +kernel
            · first | exact fun _ h => h | exact fun _ h => St.sub h (by repeat (first | exact List.Sublist.refl _ | apply List.Sublist.cons_cons | apply List.Sublist.cons))
            repeat'(first|refine yv' ?_|refine uv' ?_|refine un' ?_|(refine us' ?_ ?_;all_goals(intro hc;try simp only[hcs]at hc;try(exfalso;first|contradiction|omega)))|apply QL.nil)
            all_goals (show DW _ _ _ _ _ _ _ _))
          all_goals (
            apply DW.loud 5
            · exact rfl
            · decide +kernel
            repeat'(first|refine kg' ?_|refine kG' ?_|apply kM|refine kv' ?_|refine kK' fun _=>?_|refine kU' ?_|refine kB' fun _=>?_|refine kA' fun _=>?_|(apply addX;(iterate 2 exact rfl);(iterate 2(first|omega|(dsimp only;omega)));exact rfl))
            all_goals (refine At.stage_same (fun _ h => St.sub h (by repeat (first | exact List.Sublist.refl _ | apply List.Sublist.cons_cons | apply List.Sublist.cons))) ?_))
          all_goals (apply DW.done; (· decide +kernel))
          all_goals apply At.sink
          repeat'(first|refine kv' ?_|apply jJ|refine jE' ?_|refine jp' ?_|(apply jc;kernel_rfl)|refine kg' ?_|refine kG' ?_|refine kB' fun _=>?_|refine kA' fun _=>?_|refine kK' fun _=>?_|refine kU' ?_|((first|refine kR' ?_ ?_|refine kQ' ?_ ?_);all_goals(intro hc;try simp only[hcs]at hc;try(exfalso;first|contradiction|omega))))
          (apply ret2c; (· exact rfl); (· exact inferInstance); (· exact rfl); (· (repeat (first | exact List.Mem.head _ | apply List.Mem.tail))); (· exact rfl); intro w' hS)
          exact unp_zero e2 hS
  · have hk0 := hke he1
    subst hk0
    have g1 : gV (l1, e1) = 0 := gV_err he1
    have g2 : gT (l1, e1) = (l1, e1) := gT_err he1
    rw [g1, g2] at hp
    unfold parseK at hp
    rw [if_neg (by decide), if_neg (by decide), if_neg (by decide), if_neg (by decide), if_neg (by decide)] at hp
    simp only [Prod.mk.injEq] at hp
    obtain ⟨hpp, rfl, rfl⟩ := hp
    rw [if_pos he1] at hr1
    subst hr1
    repeat'(first|(apply kA (d := 7);exact rfl;intro bp)|refine kv' ?_|apply jJ|refine jE' ?_|refine jp' ?_|(apply jc;kernel_rfl)|refine kg' ?_|refine kG' ?_|refine kB' fun _=>?_|refine kA' fun _=>?_|refine kK' fun _=>?_|refine kU' ?_|((first|refine kR' ?_ ?_|refine kQ' ?_ ?_);all_goals(intro hc;try simp only[hcs]at hc;try(exfalso;first|contradiction|omega))))
    apply LR.call
    · exact rfl
    intro w1 h1
    have h2 := St.join (x := codR bc br e1) (St.up2 (St.up2 h1)) rfl rfl
    refine CallsTo.mono (show CallsTo Tryz.prog 62 [.pointer (some ⟨bc, 0, none⟩)] w1 _ from e62 bc br a4 c4 (l1, e1) w1 (h2.holds (rD bc br a4 c4 (l1, e1)) (mH _ _)) hok1) ?_
    rintro v w2 ⟨a5, c5, rfl, st⟩
    rw [g1, g2] at *
    have h5 := (St.did h2 (.head _ _ _) rfl st (rD_dep _ _ _ _ _)).part (Asrt.dep_own _ _) (rrA_dep _ _ _ _ _ _)
    refine LR.back h5 ?_
    clear h1 h2 h5 st
    repeat'(first|(apply CW.reg_sink 6 (St w NoF [codR bc br e1]); (· exact rfl); (· decide +kernel))|refine kv' ?_|apply jJ|refine jE' ?_|refine jp' ?_|(apply jc;kernel_rfl)|refine kg' ?_|refine kG' ?_|refine kB' fun _=>?_|refine kA' fun _=>?_|refine kK' fun _=>?_|refine kU' ?_|((first|refine kR' ?_ ?_|refine kQ' ?_ ?_);all_goals(intro hc;try simp only[hcs]at hc;try(exfalso;first|contradiction|omega))))
    all_goals
      all_goals (
        apply DW.quiet [0, 1, 2, 3, 4]
        · decide +kernel
        · first | exact fun _ h => h | exact fun _ h => St.sub h (by repeat (first | exact List.Sublist.refl _ | apply List.Sublist.cons_cons | apply List.Sublist.cons))
        repeat'(first|refine yv' ?_|refine uv' ?_|refine un' ?_|(refine us' ?_ ?_;all_goals(intro hc;try simp only[hcs]at hc;try(exfalso;first|contradiction|omega)))|apply QL.nil)
        all_goals (show DW _ _ _ _ _ _ _ _))
      all_goals (
        apply DW.loud 5
        · exact rfl
        · decide +kernel
        repeat'(first|refine kg' ?_|refine kG' ?_|apply kM|refine kv' ?_|refine kK' fun _=>?_|refine kU' ?_|refine kB' fun _=>?_|refine kA' fun _=>?_|(apply addX;(iterate 2 exact rfl);(iterate 2(first|omega|(dsimp only;omega)));exact rfl))
        all_goals (refine At.stage_same (fun _ h => St.sub h (by repeat (first | exact List.Sublist.refl _ | apply List.Sublist.cons_cons | apply List.Sublist.cons))) ?_))
      all_goals (apply DW.done; (· decide +kernel))
      all_goals apply At.sink
      repeat'(first|refine kv' ?_|apply jJ|refine jE' ?_|refine jp' ?_|(apply jc;kernel_rfl)|refine kg' ?_|refine kG' ?_|refine kB' fun _=>?_|refine kA' fun _=>?_|refine kK' fun _=>?_|refine kU' ?_|((first|refine kR' ?_ ?_|refine kQ' ?_ ?_);all_goals(intro hc;try simp only[hcs]at hc;try(exfalso;first|contradiction|omega))))
      (apply ret2c; (· exact rfl); (· exact inferInstance); (· exact rfl); (· (repeat (first | exact List.Mem.head _ | apply List.Mem.tail))); (· exact rfl); intro w' hS)
      exact unp_zero e1 hS
end Go.Proofs.YtkolmkdbjagfcaaGreat

namespace Go.Proofs.YtkolmkdbjagfcaaGreat
open Go.Hb
attribute [local irreducible] LR CW At Ev thn blk finK noG again CallsTo DW QL dnext TW DP
set_option linter.unusedSimpArgs false
set_option linter.unusedVariables false
set_option maxRecDepth 100000

theorem PktM.toR2 {w w0 : World} {p : Pkt} {A B : PAd} (h : PktM w p A) (hR : PktR w0 p B) : PktR w p A :=
  ⟨h.hd, h.hdz, hR.hdb, hR.hdm, h.ht, h.htz, hR.htm, h.hc, h.hcz, hR.hcm⟩
set_option maxHeartbeats 16000000 in
theorem e3 (p : Pkt) (A : PAd) (w : World) (hR : PktR w p A) (hI : PktI p) : CallsTo Tryz.prog 3 [p.val A] w fun v w' => v = .bool true ∧ Grew w w' := by
  refine go_in (n := 43) (St.refl _ NoF) Tryz.func3 rfl rfl ?_
  repeat'(first|(apply kB;(iterate 2 exact rfl);intro b1)|refine kv' ?_|apply jJ|refine jE' ?_|refine jp' ?_|(apply jc;kernel_rfl)|refine kg' ?_|refine kG' ?_|refine kB' fun _=>?_|refine kA' fun _=>?_|refine kK' fun _=>?_|refine kU' ?_|((first|refine kR' ?_ ?_|refine kQ' ?_ ?_);all_goals(intro hc;try simp only[hcs]at hc;try(exfalso;first|contradiction|omega))))
  apply LR.call
  · exact rfl
  intro w1 h1
  refine CallsTo.mono (show CallsTo Tryz.prog 6 [p.val A] w1 _ from e6 p A w1 (hR.old h1)) ?_
  rintro v w2 ⟨A2, X, rfl, hn, hXd, hXe, hX⟩
  refine LR.back (h1.got hn hXd) ?_
  clear hn h1
  obtain ⟨L, hL⟩ : ∃ L, (packP p).1 = L := ⟨_, rfl⟩
  have h7 : ∀ (B : PAd) (w1 : World), PktR w1 p B → CallsTo Tryz.prog 7 [p.val B] w1 (fun v w' => ∃ a' c', v = .tuple [.slice a' L.length c', .int .i64 (packP p).2].toArray ∧ NewSl w1 w' (.slice a' L.length c') 5 1 L.length (bv L)) := fun B w1 hB => by
    have hq := p30 p B w1 hB hI
    rw [hL] at hq
    exact hq
  have h8 : ∀ (B : PAd) (w1 : World), PktR w1 p B → CallsTo Tryz.prog 8 [p.val B] w1 (fun v w' => ∃ a' c', v = .tuple [.slice a' L.length c', .int .i64 (packP p).2].toArray ∧ NewSl w1 w' (.slice a' L.length c') 5 1 L.length (bv L)) := fun B w1 hB => by
    have hq := e8 p B w1 hB
    rw [hL] at hq
    exact hq
  have hLl : L.length ≤ 100000 := by
    rw [← hL]
    unfold packP
    split
    · rename_i hck
      have := body_len (chk_may hck).1
      simp only [sealL_len]
      omega
    · simp
  repeat'(first|refine kv' ?_|apply jJ|refine jE' ?_|refine jp' ?_|(apply jc;kernel_rfl)|refine kg' ?_|refine kG' ?_|refine kB' fun _=>?_|refine kA' fun _=>?_|refine kK' fun _=>?_|refine kU' ?_|((first|refine kR' ?_ ?_|refine kQ' ?_ ?_);all_goals(intro hc;try simp only[hcs]at hc;try(exfalso;first|contradiction|omega))))
  apply LR.call
  · exact rfl
  intro w1 h1
  refine CallsTo.mono (h7 A2 w1 ((hX w1 (h1.holds X (by (repeat (first | exact mH _ _ | apply mT))))).toR2 hR)) ?_
  rintro v w2 ⟨a3, c3, rfl, hn⟩
  refine LR.back (h1.newSl hn) ?_
  clear hn h1
  repeat'(first|refine kv' ?_|apply jJ|refine jE' ?_|refine jp' ?_|(apply jc;kernel_rfl)|refine kg' ?_|refine kG' ?_|refine kB' fun _=>?_|refine kA' fun _=>?_|refine kK' fun _=>?_|refine kU' ?_|((first|refine kR' ?_ ?_|refine kQ' ?_ ?_);all_goals(intro hc;try simp only[hcs]at hc;try(exfalso;first|contradiction|omega))))
  apply LR.call
  · exact rfl
  intro w1 h1
  refine CallsTo.mono (h8 A w1 (hR.old h1)) ?_
  rintro v w2 ⟨a4, c4, rfl, hn⟩
  refine LR.back (h1.newSl hn) ?_
  clear hn h1
  repeat'(first|(apply CW.reg_heldC)|refine kv' ?_|apply jJ|refine jE' ?_|refine jp' ?_|(apply jc;kernel_rfl)|refine kg' ?_|refine kG' ?_|refine kB' fun _=>?_|refine kA' fun _=>?_|refine kK' fun _=>?_|refine kU' ?_|((first|refine kR' ?_ ?_|refine kQ' ?_ ?_);all_goals(intro hc;try simp only[hcs]at hc;try(exfalso;first|contradiction|omega))))
  all_goals (
    apply DW.quiet [0, 2]
    · decide +kernel
    · first | exact fun _ h => h | exact fun _ h => St.sub h (by repeat (first | exact List.Sublist.refl _ | apply List.Sublist.cons_cons | apply List.Sublist.cons))
    repeat'(first|refine yv' ?_|refine uv' ?_|refine un' ?_|(refine us' ?_ ?_;all_goals(intro hc;try simp only[hcs]at hc;try(exfalso;first|contradiction|omega)))|apply QL.nil)
    all_goals (show DW _ _ _ _ _ _ _ _))
  all_goals (
    apply DW.loud 1
    · exact rfl
    · decide +kernel
    repeat'(first|refine kg' ?_|refine kG' ?_|apply kM|refine kv' ?_|refine kK' fun _=>?_|refine kU' ?_|refine kB' fun _=>?_|refine kA' fun _=>?_|(apply kq; (· exact rfl); (· intro w1 h1; first | exact CallsTo.q (show CallsTo Tryz.prog 9 [p.val A2] w1 _ from p31 p A2 w1 ((hX w1 (h1.holds X (by (repeat (first | exact mH _ _ | apply mT))))).toR2 hR) hI) h1 | exact CallsTo.q (show CallsTo Tryz.prog 10 [p.val A] w1 _ from e10 p A w1 (hR.old h1)) h1 | (have hq := CallsTo.q (show CallsTo Tryz.prog 11 [.slice a3 L.length c3, .slice a4 L.length c4] w1 _ from c19 a3 a4 c3 c4 L L w1 (ownsRow_rd (h1.holds (osl (.slice a3 L.length c3) 5 1 L.length (bv L)) (by (repeat (first | exact mH _ _ | apply mT))))) (ownsRow_rd (h1.holds (osl (.slice a4 L.length c4) 5 1 L.length (bv L)) (by (repeat (first | exact mH _ _ | apply mT))))) (by omega)) h1; rw [decide_eq_true rfl] at hq; exact hq) | (have hq := CallsTo.q (show CallsTo Tryz.prog 12 [p.val A2, p.val A] w1 _ from e12 p p A2 A w1 (((hX w1 (h1.holds X (by (repeat (first | exact mH _ _ | apply mT))))).toR2 hR).toS) (hR.old h1).toS) h1; rw [sameP_self] at hq; exact hq) | exact CallsTo.q (p29 w1) h1)))
    all_goals (refine At.stage_same (fun _ h => St.sub h (by repeat (first | exact List.Sublist.refl _ | apply List.Sublist.cons_cons | apply List.Sublist.cons))) ?_))
  all_goals (
    apply DW.loud 3
    · exact rfl
    · decide +kernel
    repeat'(first|refine kg' ?_|refine kG' ?_|apply kM|refine kv' ?_|refine kK' fun _=>?_|refine kU' ?_|refine kB' fun _=>?_|refine kA' fun _=>?_|(apply kq; (· exact rfl); (· intro w1 h1; first | exact CallsTo.q (show CallsTo Tryz.prog 9 [p.val A2] w1 _ from p31 p A2 w1 ((hX w1 (h1.holds X (by (repeat (first | exact mH _ _ | apply mT))))).toR2 hR) hI) h1 | exact CallsTo.q (show CallsTo Tryz.prog 10 [p.val A] w1 _ from e10 p A w1 (hR.old h1)) h1 | (have hq := CallsTo.q (show CallsTo Tryz.prog 11 [.slice a3 L.length c3, .slice a4 L.length c4] w1 _ from c19 a3 a4 c3 c4 L L w1 (ownsRow_rd (h1.holds (osl (.slice a3 L.length c3) 5 1 L.length (bv L)) (by (repeat (first | exact mH _ _ | apply mT))))) (ownsRow_rd (h1.holds (osl (.slice a4 L.length c4) 5 1 L.length (bv L)) (by (repeat (first | exact mH _ _ | apply mT))))) (by omega)) h1; rw [decide_eq_true rfl] at hq; exact hq) | (have hq := CallsTo.q (show CallsTo Tryz.prog 12 [p.val A2, p.val A] w1 _ from e12 p p A2 A w1 (((hX w1 (h1.holds X (by (repeat (first | exact mH _ _ | apply mT))))).toR2 hR).toS) (hR.old h1).toS) h1; rw [sameP_self] at hq; exact hq) | exact CallsTo.q (p29 w1) h1)))
    all_goals (refine At.stage_same (fun _ h => St.sub h (by repeat (first | exact List.Sublist.refl _ | apply List.Sublist.cons_cons | apply List.Sublist.cons))) ?_))
  all_goals (
    apply DW.quiet [4, 5, 6, 7, 8, 9, 10, 11, 12]
    · decide +kernel
    · first | exact fun _ h => h | exact fun _ h => St.sub h (by repeat (first | exact List.Sublist.refl _ | apply List.Sublist.cons_cons | apply List.Sublist.cons))
    repeat'(first|refine yv' ?_|refine uv' ?_|refine un' ?_|(refine us' ?_ ?_;all_goals(intro hc;try simp only[hcs]at hc;try(exfalso;first|contradiction|omega)))|apply QL.nil)
    all_goals (show DW _ _ _ _ _ _ _ _))
  all_goals (
    apply DW.loud 13
    · exact rfl
    · decide +kernel
    repeat'(first|refine kg' ?_|refine kG' ?_|apply kM|refine kv' ?_|refine kK' fun _=>?_|refine kU' ?_|refine kB' fun _=>?_|refine kA' fun _=>?_|(apply kq; (· exact rfl); (· intro w1 h1; first | exact CallsTo.q (show CallsTo Tryz.prog 9 [p.val A2] w1 _ from p31 p A2 w1 ((hX w1 (h1.holds X (by (repeat (first | exact mH _ _ | apply mT))))).toR2 hR) hI) h1 | exact CallsTo.q (show CallsTo Tryz.prog 10 [p.val A] w1 _ from e10 p A w1 (hR.old h1)) h1 | (have hq := CallsTo.q (show CallsTo Tryz.prog 11 [.slice a3 L.length c3, .slice a4 L.length c4] w1 _ from c19 a3 a4 c3 c4 L L w1 (ownsRow_rd (h1.holds (osl (.slice a3 L.length c3) 5 1 L.length (bv L)) (by (repeat (first | exact mH _ _ | apply mT))))) (ownsRow_rd (h1.holds (osl (.slice a4 L.length c4) 5 1 L.length (bv L)) (by (repeat (first | exact mH _ _ | apply mT))))) (by omega)) h1; rw [decide_eq_true rfl] at hq; exact hq) | (have hq := CallsTo.q (show CallsTo Tryz.prog 12 [p.val A2, p.val A] w1 _ from e12 p p A2 A w1 (((hX w1 (h1.holds X (by (repeat (first | exact mH _ _ | apply mT))))).toR2 hR).toS) (hR.old h1).toS) h1; rw [sameP_self] at hq; exact hq) | exact CallsTo.q (p29 w1) h1)))
    all_goals (refine At.stage_same (fun _ h => St.sub h (by repeat (first | exact List.Sublist.refl _ | apply List.Sublist.cons_cons | apply List.Sublist.cons))) ?_))
  all_goals (
    apply DW.quiet [14, 15, 16, 17]
    · decide +kernel
    · first | exact fun _ h => h | exact fun _ h => St.sub h (by repeat (first | exact List.Sublist.refl _ | apply List.Sublist.cons_cons | apply List.Sublist.cons))
    repeat'(first|refine yv' ?_|refine uv' ?_|refine un' ?_|(refine us' ?_ ?_;all_goals(intro hc;try simp only[hcs]at hc;try(exfalso;first|contradiction|omega)))|apply QL.nil)
    all_goals (show DW _ _ _ _ _ _ _ _))
  all_goals (
    apply DW.loud 18
    · exact rfl
    · decide +kernel
    repeat'(first|refine kg' ?_|refine kG' ?_|apply kM|refine kv' ?_|refine kK' fun _=>?_|refine kU' ?_|refine kB' fun _=>?_|refine kA' fun _=>?_|(apply kq; (· exact rfl); (· intro w1 h1; first | exact CallsTo.q (show CallsTo Tryz.prog 9 [p.val A2] w1 _ from p31 p A2 w1 ((hX w1 (h1.holds X (by (repeat (first | exact mH _ _ | apply mT))))).toR2 hR) hI) h1 | exact CallsTo.q (show CallsTo Tryz.prog 10 [p.val A] w1 _ from e10 p A w1 (hR.old h1)) h1 | (have hq := CallsTo.q (show CallsTo Tryz.prog 11 [.slice a3 L.length c3, .slice a4 L.length c4] w1 _ from c19 a3 a4 c3 c4 L L w1 (ownsRow_rd (h1.holds (osl (.slice a3 L.length c3) 5 1 L.length (bv L)) (by (repeat (first | exact mH _ _ | apply mT))))) (ownsRow_rd (h1.holds (osl (.slice a4 L.length c4) 5 1 L.length (bv L)) (by (repeat (first | exact mH _ _ | apply mT))))) (by omega)) h1; rw [decide_eq_true rfl] at hq; exact hq) | (have hq := CallsTo.q (show CallsTo Tryz.prog 12 [p.val A2, p.val A] w1 _ from e12 p p A2 A w1 (((hX w1 (h1.holds X (by (repeat (first | exact mH _ _ | apply mT))))).toR2 hR).toS) (hR.old h1).toS) h1; rw [sameP_self] at hq; exact hq) | exact CallsTo.q (p29 w1) h1)))
    all_goals (refine At.stage_same (fun _ h => St.sub h (by repeat (first | exact List.Sublist.refl _ | apply List.Sublist.cons_cons | apply List.Sublist.cons))) ?_))
  all_goals (
    apply DW.quiet [19, 20]
    · decide +kernel
    · first | exact fun _ h => h | exact fun _ h => St.sub h (by repeat (first | exact List.Sublist.refl _ | apply List.Sublist.cons_cons | apply List.Sublist.cons))
    repeat'(first|refine yv' ?_|refine uv' ?_|refine un' ?_|(refine us' ?_ ?_;all_goals(intro hc;try simp only[hcs]at hc;try(exfalso;first|contradiction|omega)))|apply QL.nil)
    all_goals (show DW _ _ _ _ _ _ _ _))
  all_goals (
    apply DW.loud 21
    · exact rfl
    · decide +kernel
    repeat'(first|refine kg' ?_|refine kG' ?_|apply kM|refine kv' ?_|refine kK' fun _=>?_|refine kU' ?_|refine kB' fun _=>?_|refine kA' fun _=>?_|(apply kq; (· exact rfl); (· intro w1 h1; first | exact CallsTo.q (show CallsTo Tryz.prog 9 [p.val A2] w1 _ from p31 p A2 w1 ((hX w1 (h1.holds X (by (repeat (first | exact mH _ _ | apply mT))))).toR2 hR) hI) h1 | exact CallsTo.q (show CallsTo Tryz.prog 10 [p.val A] w1 _ from e10 p A w1 (hR.old h1)) h1 | (have hq := CallsTo.q (show CallsTo Tryz.prog 11 [.slice a3 L.length c3, .slice a4 L.length c4] w1 _ from c19 a3 a4 c3 c4 L L w1 (ownsRow_rd (h1.holds (osl (.slice a3 L.length c3) 5 1 L.length (bv L)) (by (repeat (first | exact mH _ _ | apply mT))))) (ownsRow_rd (h1.holds (osl (.slice a4 L.length c4) 5 1 L.length (bv L)) (by (repeat (first | exact mH _ _ | apply mT))))) (by omega)) h1; rw [decide_eq_true rfl] at hq; exact hq) | (have hq := CallsTo.q (show CallsTo Tryz.prog 12 [p.val A2, p.val A] w1 _ from e12 p p A2 A w1 (((hX w1 (h1.holds X (by (repeat (first | exact mH _ _ | apply mT))))).toR2 hR).toS) (hR.old h1).toS) h1; rw [sameP_self] at hq; exact hq) | exact CallsTo.q (p29 w1) h1)))
    all_goals (refine At.stage_same (fun _ h => St.sub h (by repeat (first | exact List.Sublist.refl _ | apply List.Sublist.cons_cons | apply List.Sublist.cons))) ?_))
  all_goals (
    apply DW.quiet [22, 23]
    · decide +kernel
    · first | exact fun _ h => h | exact fun _ h => St.sub h (by repeat (first | exact List.Sublist.refl _ | apply List.Sublist.cons_cons | apply List.Sublist.cons))
    repeat'(first|refine yv' ?_|refine uv' ?_|refine un' ?_|(refine us' ?_ ?_;all_goals(intro hc;try simp only[hcs]at hc;try(exfalso;first|contradiction|omega)))|apply QL.nil)
    all_goals (show DW _ _ _ _ _ _ _ _))
  all_goals (first | (apply DW.done_thn; (· decide +kernel)) | (apply DW.done; (· decide +kernel)))
  repeat'(first|refine kv' ?_|apply jJ|refine jE' ?_|refine jp' ?_|(apply jc;kernel_rfl)|refine kg' ?_|refine kG' ?_|refine kB' fun _=>?_|refine kA' fun _=>?_|refine kK' fun _=>?_|refine kU' ?_|((first|refine kR' ?_ ?_|refine kQ' ?_ ?_);all_goals(intro hc;try simp only[hcs]at hc;try(exfalso;first|contradiction|omega))))
  all_goals try (exfalso; revert hc; simp; done)
  (apply ret1; (· exact rfl); intro w' hS)
  exact ⟨rfl, hS.toKeep⟩
theorem PktM.toS {w : World} {p : Pkt} {A : PAd} (h : PktM w p A) (h1 : p.d.msg.body.length ≤ 140737488351232) (h2 : p.t.ask.length ≤ 16) (h3 : p.c.ents.length ≤ 8) : PktS w p A := ⟨h.hd, by omega, h.ht, by omega, h.hc, by omega⟩
set_option maxHeartbeats 16000000 in
theorem e4 (a : Option Addr) (c : Nat) (l : List Int) (w : World) (hr : Rd w a (bv l)) (hb : Byt l) (hz : a = none → c = 0) (hcap : l.length ≤ c) (hm : l.length ≤ 140737488351232) : CallsTo Tryz.prog 4 [.slice a l.length c] w fun v w' => v = .bool true ∧ Grew w w' := by
  refine go_in (n := 65) (St.rd1 hr) Tryz.func4 rfl rfl ?_
  have hf := unp_facts hb
  obtain ⟨⟨p, e⟩, hp⟩ : ∃ r, unpackP l = r := ⟨_, rfl⟩
  rw [hp] at hf
  simp only at hf
  obtain ⟨hpb, hpl, hpa, hpe, hpi⟩ := hf
  repeat'(first|refine kv' ?_|apply jJ|refine jE' ?_|refine jp' ?_|(apply jc;kernel_rfl)|refine kg' ?_|refine kG' ?_|refine kB' fun _=>?_|refine kA' fun _=>?_|refine kK' fun _=>?_|refine kU' ?_|((first|refine kR' ?_ ?_|refine kQ' ?_ ?_);all_goals(intro hc;try simp only[hcs]at hc;try(exfalso;first|contradiction|omega))))
  apply LR.call
  · exact rfl
  intro w1 h1
  refine CallsTo.mono (show CallsTo Tryz.prog 14 [.slice a l.length c] w1 _ from c22 a c l w1 (h1.rd_of (by (repeat (first | exact mH _ _ | apply mT)))) hz (by omega)) ?_
  rintro v w2 ⟨a1, c1, rfl, hn⟩
  have ca1 := ownsRow_cap hn.own
  refine LR.back (h1.newSl hn) ?_
  clear hn h1
  repeat'(first|refine kv' ?_|apply jJ|refine jE' ?_|refine jp' ?_|(apply jc;kernel_rfl)|refine kg' ?_|refine kG' ?_|refine kB' fun _=>?_|refine kA' fun _=>?_|refine kK' fun _=>?_|refine kU' ?_|((first|refine kR' ?_ ?_|refine kQ' ?_ ?_);all_goals(intro hc;try simp only[hcs]at hc;try(exfalso;first|contradiction|omega))))
  apply LR.call
  · exact rfl
  intro w1 h1
  refine CallsTo.mono (show CallsTo Tryz.prog 15 [.slice a1 l.length c1] w1 _ from p32q a1 c1 l w1 (h1.rd_of_own (by (repeat (first | exact mH _ _ | apply mT)))) hb (fun e => (ownsRow_some h1.g0 e).2) ca1 (by omega)) ?_
  rw [hp]
  rintro v w2 ⟨A, X, hv, hn, hXd, hXe, hX, hXb⟩
  replace hv : v = .tuple [p.val A, .int .i64 e].toArray := hv
  subst hv
  replace hX : ∀ w2, X.holds w2 → PktM w2 p A := hX
  replace hXb : BodX X p A := hXb
  refine LR.back (h1.got hn hXd) ?_
  clear hn h1
  repeat'(first|(apply kA (d := 4);exact rfl;intro b4)|refine kv' ?_|apply jJ|refine jE' ?_|refine jp' ?_|(apply jc;kernel_rfl)|refine kg' ?_|refine kG' ?_|refine kB' fun _=>?_|refine kA' fun _=>?_|refine kK' fun _=>?_|refine kU' ?_|((first|refine kR' ?_ ?_|refine kQ' ?_ ?_);all_goals(intro hc;try simp only[hcs]at hc;try(exfalso;first|contradiction|omega))))
  apply LR.call
  · exact rfl
  intro w1 h1
  refine CallsTo.mono (show CallsTo Tryz.prog 16 [.slice a l.length c] w1 _ from e16 a c l w1 (h1.rd_of (by (repeat (first | exact mH _ _ | apply mT)))) hb hz hcap (by omega)) ?_
  rw [hp]
  rintro v w2 ⟨B, Y, hv, hn, hYd, hYe, hY⟩
  replace hv : v = .tuple [p.val B, .int .i64 e].toArray := hv
  subst hv
  replace hY : ∀ w2, Y.holds w2 → PktM w2 p B := hY
  refine LR.back (h1.got hn hYd) ?_
  clear hn h1
  repeat'(first|(apply kA (d := 6);exact rfl;intro b6)|refine kv' ?_|apply jJ|refine jE' ?_|refine jp' ?_|(apply jc;kernel_rfl)|refine kg' ?_|refine kG' ?_|refine kB' fun _=>?_|refine kA' fun _=>?_|refine kK' fun _=>?_|refine kU' ?_|(apply kq; (· exact rfl); (· intro w1 h1; first | (have hq := CallsTo.q (show CallsTo Tryz.prog 12 [p.val A, p.val B] w1 _ from e12 p p A B w1 ((hX w1 (h1.holds X (by (repeat (first | exact mH _ _ | apply mT))))).toS hpl hpa hpe) ((hY w1 (h1.holds Y (by (repeat (first | exact mH _ _ | apply mT))))).toS hpl hpa hpe)) h1; rw [sameP_self] at hq; exact hq) | (have hq := CallsTo.q (show CallsTo Tryz.prog 11 [.slice a1 l.length c1, .slice a l.length c] w1 _ from c19 a1 a c1 c l l w1 (ownsRow_rd (h1.holds (osl (.slice a1 l.length c1) 5 1 l.length (bv l)) (by (repeat (first | exact mH _ _ | apply mT))))) (h1.rd_of (a := a) (xs := bv l) (by (repeat (first | exact mH _ _ | apply mT)))) (by omega)) h1; rw [decide_eq_true rfl] at hq; exact hq)))|((first|refine kR' ?_ ?_|refine kQ' ?_ ?_);all_goals(intro hc;try simp only[hcs]at hc;try(exfalso;first|contradiction|omega))))
  by_cases hb0 : p.d.msg.body = []
  · apply CW.loop [8, 36, 37, 38, 39, 40, 41, 42, 43, 44, 45, 46, 47, 48, 49, 50, 51, 52, 53, 54, 55, 56, 57, 58] (fun _ : Unit => True) (fun _ => [(8, Value.int .i64 0)])
      (fun _ => St w NoF [.own b4 (.cells (p.cells A).toArray 42 (0, 0)), osl (.slice a1 l.length c1) 5 1 l.length (bv l), rdA a (bv l)]) (fun _ => 0)
    · exact fun w' hw' => ⟨(), trivial, ⟨rfl, trivial⟩, hw'.sub (by (repeat (first | exact List.Sublist.refl _ | apply List.Sublist.cons_cons | apply List.Sublist.cons)))⟩
    intro _ g _
    have hl0 : (p.d.msg.body.length : Int) = 0 := by rw [hb0]; rfl
    repeat'(first|refine kv' ?_|apply jJ|refine jE' ?_|refine jp' ?_|(apply jc;kernel_rfl)|refine kg' ?_|refine kG' ?_|refine kB' fun _=>?_|refine kA' fun _=>?_|refine kK' fun _=>?_|refine kU' ?_|(apply kq; (· exact rfl); (· intro w1 h1; first | (have hq := CallsTo.q (show CallsTo Tryz.prog 11 [.slice a1 l.length c1, .slice a l.length c] w1 _ from c19 a1 a c1 c l l w1 (ownsRow_rd (h1.holds (osl (.slice a1 l.length c1) 5 1 l.length (bv l)) (by (repeat (first | exact mH _ _ | apply mT))))) (h1.rd_of (a := a) (xs := bv l) (by (repeat (first | exact mH _ _ | apply mT)))) (by omega)) h1; rw [decide_eq_true rfl] at hq; exact hq) | exact CallsTo.q (p29 w1) h1))|((first|refine kR' ?_ ?_|refine kQ' ?_ ?_);all_goals(intro hc;try simp only[hcs]at hc;try(exfalso;first|contradiction|omega))))
    all_goals try (exfalso; omega)
    (apply ret1; (· exact rfl); intro w' hS)
    exact ⟨rfl, hS.toKeep⟩
  have hXx := hXb hb0
  subst hXx
  obtain ⟨da, dc, ta, tc, ca, cc⟩ := A
  simp only at hX ⊢
  have hn0 : 0 < p.d.msg.body.length := List.length_pos_iff.2 hb0
  apply CW.loop [8, 36, 37, 38, 39, 40, 41, 42, 43, 44, 45, 46, 47, 48, 49, 50, 51, 52, 53, 54, 55, 56, 57, 58] (fun s : Nat × List Int => s.1 ≤ p.d.msg.body.length ∧ s.2.length = p.d.msg.body.length) (fun s => [(8, Value.int .i64 (s.1 : Int))])
    (fun s => St w NoF [osl (.slice da p.d.msg.body.length dc) 5 1 p.d.msg.body.length (bv s.2), .own b4 (.cells (p.cells ⟨da, dc, ta, tc, ca, cc⟩).toArray 42 (0, 0)), osl (.slice a1 l.length c1) 5 1 l.length (bv l), rdA a (bv l)]) (fun s => p.d.msg.body.length - s.1)
  · refine fun w' hw' => ⟨(0, p.d.msg.body), ⟨by simp, rfl⟩, ⟨rfl, trivial⟩, ?_⟩
    exact front (hw'.sub (L' := [.own b4 (.cells (p.cells ⟨da, dc, ta, tc, ca, cc⟩).toArray 42 (0, 0)), osl (.slice da p.d.msg.body.length dc) 5 1 p.d.msg.body.length (bv p.d.msg.body), osl (.slice a1 l.length c1) 5 1 l.length (bv l), rdA a (bv l)]) (by (repeat (first | exact List.Sublist.refl _ | apply List.Sublist.cons_cons | apply List.Sublist.cons)))) 1 rfl rfl
  rintro ⟨i, l'⟩ g ⟨hi, hl'⟩
  simp only at hi hl' ⊢
  by_cases hlt : i < p.d.msg.body.length
  · have hne : (bv l') ≠ [] := fun e => by have := congrArg List.length e; simp at this; subst this; simp at hl'; omega
    refine LR_cls_cw fun w1 hw1 => ?_
    obtain ⟨bx, ox, rfl⟩ := (ownsRow_rd hw1.g0).form hne
    refine CW.sub (D := St w NoF _) ?_ (fun u e => e ▸ hw1)
    have hil : (i : Int) < (p.d.msg.body.length : Int) := by omega
    repeat'(first|(apply CW.reg_held (St w NoF [.own b4 (.cells (p.cells ⟨some ⟨bx, ox, none⟩, dc, ta, tc, ca, cc⟩).toArray 42 (0, 0)), osl (.slice a1 l.length c1) 5 1 l.length (bv l), rdA a (bv l)]))|refine kv' ?_|apply jJ|refine jE' ?_|refine jp' ?_|(apply jc;kernel_rfl)|refine kg' ?_|refine kG' ?_|refine kB' fun _=>?_|refine kA' fun _=>?_|refine kK' fun _=>?_|refine kU' ?_|((first|refine kR' ?_ ?_|refine kQ' ?_ ?_);all_goals(intro hc;try simp only[hcs]at hc;try(exfalso;first|contradiction|omega))))
    apply DW.quiet [0, 1, 2, 3, 4, 5, 6, 7, 8, 9, 10]
    · decide +kernel
    · exact fun _ h => h.tail1
    repeat'(first|refine yv' ?_|(apply QL.ev; (· exact rfl); (· apply Ev.indexAddr; (· exact rfl); (· exact rfl); (· first | omega | (dsimp only; omega)); (· first | omega | (dsimp only; omega))); (· exact rfl))|refine uv' ?_|refine un' ?_|apply QL.nil)
    apply DW.loud 11
    · exact rfl
    · decide +kernel
    repeat'(first|refine kv' ?_|apply jJ|refine jE' ?_|refine jp' ?_|(apply jc;kernel_rfl)|refine kg' ?_|refine kG' ?_|refine kB' fun _=>?_|refine kA' fun _=>?_|refine kK' fun _=>?_|refine kU' ?_|(apply LR.ev; (· apply Ev.load_osl; (· exact rfl); (· (repeat (first | exact mH _ _ | apply mT))); (· exact bv_at (l := l') (i := i) (by simp) (by omega))); (· exact rfl))|((first|refine kR' ?_ ?_|refine kQ' ?_ ?_);all_goals(intro hc;try simp only[hcs]at hc;try(exfalso;first|contradiction|omega))))
    refine At.stage_same (fun _ h => h.tail1) ?_
    apply DW.quiet [12, 13]
    · decide +kernel
    · exact fun _ h => h.tail1
    repeat'(first|refine yv' ?_|(apply QL.ev; (· exact rfl); (· apply Ev.indexAddr; (· exact rfl); (· exact rfl); (· first | omega | (dsimp only; omega)); (· first | omega | (dsimp only; omega))); (· exact rfl))|refine uv' ?_|refine un' ?_|apply QL.nil)
    apply DW.loud 14
    · exact rfl
    · decide +kernel
    refine LR.store_obj (v := .int .u8 (xorI .u8 l'[i] 90)) (z' := osl (.slice (some ⟨bx, ox, none⟩) p.d.msg.body.length dc) 5 1 p.d.msg.body.length (bv (l'.set i (xorI .u8 l'[i] 90)))) rfl rfl (sH _ _ _) rfl ?_ (osl.dep _ _ _ _ _) ?_
    · have st := Stores.osl (P := Tryz.prog) (T := 5) (q := 1) (b := bx) (o := ox) (i := (i : Int).toNat * 1) (n := p.d.msg.body.length) (c := dc) (v := .int .u8 (xorI .u8 l'[i] 90)) (vs := [.int .u8 (xorI .u8 l'[i] 90)]) (xs := bv l') (E := 5) (sz := 1) inferInstance rfl rfl rfl (by simp; omega)
      rw [show (i : Int).toNat * 1 = i by omega] at st ⊢
      rwa [splice_bv _ _ _ (by omega)] at st
    repeat'(first|refine kv' ?_|apply jJ|refine jE' ?_|refine jp' ?_|(apply jc;kernel_rfl)|refine kg' ?_|refine kG' ?_|refine kB' fun _=>?_|refine kA' fun _=>?_|refine kK' fun _=>?_|refine kU' ?_|((first|refine kR' ?_ ?_|refine kQ' ?_ ?_);all_goals(intro hc;try simp only[hcs]at hc;try(exfalso;first|contradiction|omega))))
    refine At.stage_same (fun _ h => h.tail1) ?_
    apply DW.done
    · kernel_rfl
    repeat'(first|refine kv' ?_|apply jJ|refine jE' ?_|refine jp' ?_|(apply jc;kernel_rfl)|refine kg' ?_|refine kG' ?_|refine kB' fun _=>?_|refine kA' fun _=>?_|refine kK' fun _=>?_|refine kU' ?_|(apply addX;(iterate 2 exact rfl);(iterate 2(first|omega|(dsimp only;omega)));exact rfl)|((first|refine kR' ?_ ?_|refine kQ' ?_ ?_);all_goals(intro hc;try simp only[hcs]at hc;try(exfalso;first|contradiction|omega))))
    apply At.again (i + 1, l'.set i (xorI .u8 l'[i] 90)) ⟨by show i + 1 ≤ _; omega, by simp [hl']⟩
    · (repeat (first | exact Out.refl _ _ | exact Out.mix | (apply Out.upd; (· exact rfl)) | (apply Out.updL; (· exact rfl)) | (apply Out.mixs; (· exact rfl))))
    · exact ⟨rfl, trivial⟩
    · exact fun w' hw' => hw'
    · show p.d.msg.body.length - (i + 1) < p.d.msg.body.length - i; omega
  · repeat'(first|refine kv' ?_|apply jJ|refine jE' ?_|refine jp' ?_|(apply jc;kernel_rfl)|refine kg' ?_|refine kG' ?_|refine kB' fun _=>?_|refine kA' fun _=>?_|refine kK' fun _=>?_|refine kU' ?_|(apply kq; (· exact rfl); (· intro w1 h1; first | (have hq := CallsTo.q (show CallsTo Tryz.prog 11 [.slice a1 l.length c1, .slice a l.length c] w1 _ from c19 a1 a c1 c l l w1 (ownsRow_rd (h1.holds (osl (.slice a1 l.length c1) 5 1 l.length (bv l)) (by (repeat (first | exact mH _ _ | apply mT))))) (h1.rd_of (a := a) (xs := bv l) (by (repeat (first | exact mH _ _ | apply mT)))) (by omega)) h1; rw [decide_eq_true rfl] at hq; exact hq) | exact CallsTo.q (p29 w1) h1))|((first|refine kR' ?_ ?_|refine kQ' ?_ ?_);all_goals(intro hc;try simp only[hcs]at hc;try(exfalso;first|contradiction|omega))))
    all_goals try (exfalso; omega)
    (apply ret1; (· exact rfl); intro w' hS)
    exact ⟨rfl, hS.toKeep⟩
end Go.Proofs.YtkolmkdbjagfcaaGreat

namespace Go.Proofs
open Go.Shelf
end Go.Proofs

namespace Go.Proofs.YtkolmkdbjagfcaaGreat
open Go.Hb
attribute [local irreducible] LR CW At Ev thn blk finK noG again CallsTo
set_option linter.unusedSimpArgs false
set_option linter.unusedVariables false
set_option maxRecDepth 100000

def sortI (l : List Int) : List Int := l.mergeSort fun x y => decide (x ≤ y)
theorem sortI_len (l : List Int) : (sortI l).length = l.length := List.length_mergeSort ..
theorem compact_len (l : List Int) : (Lib.compact l).length ≤ l.length := by
  unfold Lib.compact Lib.compactUpTo
  rw [List.length_map]
  refine Nat.le_trans (List.length_filter_le _ _) ?_
  simp
theorem callsTo_of {P : Program} {g : FuncId} {args : List Value} {w : World} {R : Ending → World → Prop} {K : Value → World → Prop} (h : Calls P g args.toArray w R) (hk : ∀ e w', R e w' → ∃ v, e = .returned v ∧ K v w') : CallsTo P g args w K :=
  by unfold CallsTo; exact Calls.mono h hk
theorem il_stay {w : World} {a : Option Addr} {c : Nat} {l : List Int} (h : w.ownsRow 0 3 1 (.slice a l.length c) l.length (iv l)) : Step (il a c l) (il a c l) w w :=
  ⟨St.refl w _, h, fun _ hk => .inl hk⟩
/-- l[:k:k] -/
theorem Ev.slice_cut {P : Program} {f : Frm} {T T' E : TypeId} {x y z : Operand} {C : World → Prop} {sz by_ k c j : Nat} {a : Option Addr} [h : SliceOf P T E sz by_] (hx : f.ev x = .slice a k c) (hy : f.ev y = .int .i64 (j : Int)) (hz : f.ev z = .int .i64 (j : Int)) (h2 : j ≤ c) :
    Ev P C f (.slice T x none (some y) (some z)) T' (.slice (subA a j 0 sz) j j) := by
  unfold Ev
  intro w _ d p af g
  simp [execOp, hx, hy, hz, Instr.sliceAt, Instr.slice, Instr.sliceBounds, Instr.sliceBound, asIntOf, run_underlying h.und, size_of_slice h, h2, subA]
theorem ownsAt_cut {w : World} {E : TypeId} {sz k c l : Nat} {a : Option Addr} {xs : List Value} (h : ownsAt w E sz (.slice a k c) k xs) (hl : l ≤ k) : ownsAt w E sz (.slice a l l) l (xs.take (l * sz)) := by
  have hm : l * sz ≤ k * sz := Nat.mul_le_mul_right _ hl
  refine ⟨by rw [List.length_take, h.1]; omega, ?_⟩
  rcases h.2 with ⟨he, hn⟩ | ⟨g, o, cap, cur, he, hg, h1, h2, h3, h4⟩
  · simp only [Value.slice.injEq] at he
    obtain ⟨rfl, _, rfl⟩ := he
    have : l = 0 := by omega
    subst this
    exact .inl ⟨rfl, rfl⟩
  · simp only [Value.slice.injEq] at he
    obtain ⟨rfl, _, rfl⟩ := he
    have hm2 : l * sz ≤ c * sz := Nat.mul_le_mul_right _ (by omega)
    refine .inr ⟨g, o, l, cur, rfl, hg, by omega, by omega, by omega, ?_⟩
    rw [← h4, List.take_take, Nat.min_eq_left hm]
theorem ownsAt_sub0 {w : World} {E : TypeId} {sz n c j : Nat} {a : Option Addr} {xs : List Value} (h : ownsAt w E sz (.slice a n c) n xs) : subA a j 0 sz = a := by
  rcases h.2 with ⟨he, hn⟩ | ⟨g, o, cap, cur, he, _⟩
  · simp only [Value.slice.injEq] at he
    obtain ⟨rfl, _, rfl⟩ := he
    simp [subA]
  · simp only [Value.slice.injEq] at he
    obtain ⟨rfl, _, rfl⟩ := he
    exact subA_zero
/-- A new slice that may be a piece of its block. -/
structure NewOd (w w' : World) (v : Value) (E : TypeId) (sz n : Nat) (xs : List Value) : Prop where
  grew : Grew w w'
  own : ownsAt w' E sz v n xs
  new : ∀ k, v.ownBlock = some k → w.heap.size ≤ k ∧ k < w'.heap.size
theorem St.newOd {w0 w w' : World} {F : Nat → Prop} {L : List Asrt} {v : Value} {E : TypeId} {sz n : Nat} {xs : List Value} (h : St w0 F L w) (hn : NewOd w w' v E sz n xs) : St w0 F (odl v E sz n xs :: L) w' :=
  h.push hn.grew hn.own (fun k hk => hn.new k hk) (odl.dep _ _ _ _ _)
end Go.Proofs.YtkolmkdbjagfcaaGreat

namespace Go.Proofs.YtkolmkdbjagfcaaGreat
open Go.Hb
set_option linter.unusedSimpArgs false
set_option linter.unusedVariables false
set_option maxRecDepth 100000

theorem ints_of : ∀ (css : List (List Value)), (∀ c ∈ css, ∃ n : Int, c = [.int .i64 n] ∧ i64 n) → ∃ l : List Int, css.flatten = iv l ∧ l.length = css.length ∧ ∀ x ∈ l, i64 x
  | [], _ => ⟨[], rfl, rfl, fun p hp => by simp at hp⟩
  | c :: r, h => by
    obtain ⟨n, rfl, hp⟩ := h c List.mem_cons_self
    obtain ⟨l, h1, h2, h3⟩ := ints_of r fun c hc => h c (List.mem_cons_of_mem _ hc)
    refine ⟨n :: l, by rw [List.flatten_cons, h1]; rfl, by simp [h2], fun q hq => ?_⟩
    rcases List.mem_cons.1 hq with rfl | hq
    · exact hp
    · exact h3 q hq
theorem opn_ints : Opn Tryz.prog 31 (fun w cs => ∃ (a : Option Addr) (c : Nat) (l : List Int), cs = [.slice a l.length c] ∧ Rd w a (iv l) ∧ (∀ x ∈ l, i64 x) ∧ (a = none → c = 0) ∧ l.length ≤ c ∧ l.length ≤ 17592186043904) := by
  refine (opn_slice Tryz.underlying31 (sz := 1) (by_ := 8) (by kernel_rfl) (by omega) (by kernel_rfl) opn_i64).mono ?_
  rintro w cs ⟨a, len, cap, css, rfl, rfl, hg, hr, hz, hc, hm⟩
  obtain ⟨l, h1, h2, h3⟩ := ints_of css fun c hc => (hg c hc).1
  rw [h1] at hr
  have hm : css.length * 8 ≤ 140737488351232 := hm
  exact ⟨a, cap, l, by rw [h2], hr, h3, hz, by omega, by omega⟩
def TkI (t : Tk) : Prop := i64 t.r1 ∧ i64 t.r2 ∧ i64 t.hop ∧ i64 t.seq ∧ i64 t.aru ∧ i64 t.low ∧ i64 t.stamp ∧ i64 t.idle ∧ ∀ x ∈ t.ask, i64 x
theorem opn_tok : Opn Tryz.prog 33 (fun w cs => ∃ (t : Tk) (a : Option Addr) (c : Nat), cs = t.cells a c ∧ Rd w a (iv t.ask) ∧ TkI t ∧ (a = none → c = 0) ∧ t.ask.length ≤ c ∧ t.ask.length ≤ 17592186043904) := by
  refine (opn_struct Tryz.underlying33).mono fun w cs ⟨hl, h⟩ => ?_
  have hl : cs.length = 9 := hl
  match cs, hl with
  | [y0, y1, y2, y3, y4, y5, y6, y7, y8], hl =>
    obtain ⟨x0, x1, h0, g0, g1⟩ := h 0 _ rfl _ opn_ring
    obtain ⟨x2, h2, g2⟩ := h 1 _ rfl _ opn_i64
    obtain ⟨x3, h3, g3⟩ := h 2 _ rfl _ opn_i64
    obtain ⟨x4, h4, g4⟩ := h 3 _ rfl _ opn_i64
    obtain ⟨x5, h5, g5⟩ := h 4 _ rfl _ opn_i64
    obtain ⟨x6, h6, g6⟩ := h 5 _ rfl _ opn_i64
    obtain ⟨x7, h7, g7⟩ := h 6 _ rfl _ opn_i64
    obtain ⟨a, c, l, h8, hr, hb, hz, hc, hm⟩ := h 7 _ rfl _ opn_ints
    have k0 : [y0, y1] = [Value.int .i64 x0, .int .i64 x1] := h0
    have k2 : [y2] = [Value.int .i64 x2] := h2
    have k3 : [y3] = [Value.int .i64 x3] := h3
    have k4 : [y4] = [Value.int .i64 x4] := h4
    have k5 : [y5] = [Value.int .i64 x5] := h5
    have k6 : [y6] = [Value.int .i64 x6] := h6
    have k7 : [y7] = [Value.int .i64 x7] := h7
    have k8 : [y8] = [Value.slice a l.length c] := h8
    simp only [List.cons.injEq, and_true] at k0 k2 k3 k4 k5 k6 k7 k8
    exact ⟨⟨x0, x1, x2, x3, x4, x5, x6, x7, l⟩, a, c, by rw [k0.1, k0.2, k2, k3, k4, k5, k6, k7, k8]; rfl, hr, ⟨g0, g1, g2, g3, g4, g5, g6, g7, hb⟩, hz, hc, hm⟩
structure Vst where
  node : Int
  aru : Int
  gaps : List Int
def Vst.cells (v : Vst) (a : Option Addr) (c : Nat) : List Value := [.int .i64 v.node, .int .i64 v.aru, .slice a v.gaps.length c]
def Vst.val (v : Vst) (a : Option Addr) (c : Nat) : Value := .agg (v.cells a c).toArray
def VstI (v : Vst) : Prop := i64 v.node ∧ i64 v.aru ∧ ∀ x ∈ v.gaps, i64 x
end Go.Proofs.YtkolmkdbjagfcaaGreat

namespace Go.Proofs.YtkolmkdbjagfcaaGreat
open Go.Hb Go.ChangeShapes Go.WideShapes
set_option linter.unusedSimpArgs false
set_option linter.unusedVariables false
set_option maxRecDepth 100000

theorem opn_ent : Opn Tryz.prog 77 (fun _ cs => ∃ e : Ent, cs = e.cells) := by
  refine (opn_struct Tryz.underlying77).mono fun w cs ⟨hl, h⟩ => ?_
  have hl : cs.length = 6 := hl
  match cs, hl with
  | [y0, y1, y2, y3, y4, y5], _ =>
    obtain ⟨x0, h0, _⟩ := h 0 _ rfl _ opn_i64
    obtain ⟨x1, x2, h1, _, _⟩ := h 1 _ rfl _ opn_ring
    obtain ⟨x3, h2, _⟩ := h 2 _ rfl _ opn_i64
    obtain ⟨x4, h3, _⟩ := h 3 _ rfl _ opn_i64
    obtain ⟨x5, h4, _⟩ := h 4 _ rfl _ opn_i64
    have h0 : [y0] = [Value.int .i64 x0] := h0
    have h1 : [y1, y2] = [Value.int .i64 x1, .int .i64 x2] := h1
    have h2 : [y3] = [Value.int .i64 x3] := h2
    have h3 : [y4] = [Value.int .i64 x4] := h3
    have h4 : [y5] = [Value.int .i64 x5] := h4
    simp only [List.cons.injEq, and_true] at h0 h1 h2 h3 h4
    exact ⟨⟨x0, x1, x2, x3, x4, x5⟩, by rw [h0, h1.1, h1.2, h2, h3, h4]; rfl⟩
theorem opn_ents : Opn Tryz.prog 36 (fun w cs => ∃ (a : Option Addr) (c : Nat) (l : List Ent), cs = [.slice a l.length c] ∧ Rd w a (l.flatMap Ent.cells) ∧ (a = none → c = 0) ∧ l.length ≤ 2932031007317) := by
  refine (opn_slice Tryz.underlying36 (sz := 6) (by_ := 48) (by kernel_rfl) (by omega) (by kernel_rfl) opn_ent).mono ?_
  rintro w cs ⟨a, len, cap, css, rfl, rfl, hg, hr, hz, hc, hm⟩
  obtain ⟨l, h1, h2, _⟩ := Go.Hb.rows_of (f := Ent.cells) (R := fun _ => True) css fun c hc => (by obtain ⟨e, he⟩ := (hg c hc).1; exact ⟨e, he, trivial⟩)
  rw [h1] at hr
  have hm : css.length * 48 ≤ 140737488351232 := hm
  exact ⟨a, cap, l, by rw [h2], hr, hz, by omega⟩
theorem opn_com : Opn Tryz.prog 38 (fun w cs => ∃ (x : Cmt) (a : Option Addr) (c : Nat), cs = x.cells a c ∧ Rd w a (x.ents.flatMap Ent.cells) ∧ (a = none → c = 0) ∧ x.ents.length ≤ 2932031007317 ∧ i64 x.mem) := by
  refine (opn_struct Tryz.underlying38).mono fun w cs ⟨hl, h⟩ => ?_
  have hl : cs.length = 5 := hl
  match cs, hl with
  | [y0, y1, y2, y3, y4], _ =>
    obtain ⟨x0, x1, h0, _, _⟩ := h 0 _ rfl _ opn_ring
    obtain ⟨x2, h1, g2⟩ := h 1 _ rfl _ opn_i64
    obtain ⟨x3, h2, _⟩ := h 2 _ rfl _ opn_i64
    obtain ⟨a, c, l, h3, hr, hz, hm⟩ := h 3 _ rfl _ opn_ents
    have h0 : [y0, y1] = [Value.int .i64 x0, .int .i64 x1] := h0
    have h1 : [y2] = [Value.int .i64 x2] := h1
    have h2 : [y3] = [Value.int .i64 x3] := h2
    have h3 : [y4] = [Value.slice a l.length c] := h3
    simp only [List.cons.injEq, and_true] at h0 h1 h2 h3
    exact ⟨⟨x0, x1, x2, x3, l⟩, a, c, by rw [h0.1, h0.2, h1, h2, h3]; rfl, hr, hz, hm, g2⟩
theorem opn_join : Opn Tryz.prog 35 (fun _ cs => ∃ x y z : Int, cs = [.int .i64 x, .int .i64 y, .int .i64 z] ∧ i64 y) := by
  refine (opn_struct Tryz.underlying35).mono fun w cs ⟨hl, h⟩ => ?_
  have hl : cs.length = 3 := hl
  match cs, hl with
  | [y0, y1, y2], _ =>
    obtain ⟨x0, h0, _⟩ := h 0 _ rfl _ opn_i64
    obtain ⟨x1, h1, g1⟩ := h 1 _ rfl _ opn_i64
    obtain ⟨x2, h2, _⟩ := h 2 _ rfl _ opn_i64
    have h0 : [y0] = [Value.int .i64 x0] := h0
    have h1 : [y1] = [Value.int .i64 x1] := h1
    have h2 : [y2] = [Value.int .i64 x2] := h2
    simp only [List.cons.injEq, and_true] at h0 h1 h2
    exact ⟨x0, x1, x2, by rw [h0, h1, h2], g1⟩
theorem opn_bea : Opn Tryz.prog 40 (fun _ cs => ∃ x y z : Int, cs = [.int .i64 x, .int .i64 y, .int .i64 z]) := by
  refine (opn_struct Tryz.underlying40).mono fun w cs ⟨hl, h⟩ => ?_
  have hl : cs.length = 3 := hl
  match cs, hl with
  | [y0, y1, y2], _ =>
    obtain ⟨x0, x1, h0, _, _⟩ := h 0 _ rfl _ opn_ring
    obtain ⟨x2, h2, _⟩ := h 1 _ rfl _ opn_i64
    have h0 : [y0, y1] = [Value.int .i64 x0, .int .i64 x1] := h0
    have h2 : [y2] = [Value.int .i64 x2] := h2
    simp only [List.cons.injEq, and_true] at h0 h2
    exact ⟨x0, x1, x2, by rw [h0.1, h0.2, h2]⟩
theorem opn_pkt : Opn Tryz.prog 42 (fun w cs => ∃ (p : Pkt) (A : PAd), cs = p.cells A ∧ PktR w p A ∧ PktI p) := by
  refine (opn_struct Tryz.underlying42).mono fun w cs ⟨hl, h⟩ => ?_
  have hl : cs.length = 40 := hl
  match cs, hl with
  | y0 :: y1 :: y2 :: y3 :: y4 :: y5 :: y6 :: y7 :: y8 :: y9 :: y10 :: y11 :: y12 :: y13 :: y14 :: y15 :: y16 :: y17 :: y18 :: y19 :: y20 :: y21 :: y22 :: y23 :: y24 :: y25 :: y26 :: y27 :: y28 :: y29 :: y30 :: y31 :: y32 :: y33 :: y34 :: y35 :: y36 :: y37 :: y38 :: y39 :: [], _ =>
    obtain ⟨x0, h0, _⟩ := h 0 _ rfl _ opn_i64
    obtain ⟨x1, h1, _⟩ := h 1 _ rfl _ opn_i64
    obtain ⟨d, da, dc, h2, dr, db, dz, dm, _⟩ := h 2 _ rfl _ opn_dat
    obtain ⟨t, ta, tc, h3, tr, _, tz, _, tm⟩ := h 3 _ rfl _ opn_tok
    obtain ⟨j1, j2, j3, h4, g4⟩ := h 4 _ rfl _ opn_join
    obtain ⟨c, ca, cc, h5, cr, cz, cm, g5⟩ := h 5 _ rfl _ opn_com
    obtain ⟨b1, b2, b3, h6⟩ := h 6 _ rfl _ opn_bea
    have h0 : [y0] = [Value.int .i64 x0] := h0
    have h1 : [y1] = [Value.int .i64 x1] := h1
    have h2 : [y2, y3, y4, y5, y6, y7, y8, y9, y10, y11, y12, y13, y14, y15, y16, y17, y18, y19] = d.cells da dc := h2
    have h3 : [y20, y21, y22, y23, y24, y25, y26, y27, y28] = t.cells ta tc := h3
    have h4 : [y29, y30, y31] = [Value.int .i64 j1, .int .i64 j2, .int .i64 j3] := h4
    have h5 : [y32, y33, y34, y35, y36] = c.cells ca cc := h5
    have h6 : [y37, y38, y39] = [Value.int .i64 b1, .int .i64 b2, .int .i64 b3] := h6
    refine ⟨⟨x0, x1, d, ⟨t.r1, t.r2, t.hop, t.seq, t.aru, t.low, t.stamp, t.idle, t.ask⟩, j1, j2, j3, c, b1, b2, b3⟩, ⟨da, dc, ta, tc, ca, cc⟩, ?_, ⟨dr, dz, db, dm, tr, tz, tm, cr, cz, cm⟩, ?_⟩
    · show [y0] ++ [y1] ++ ([y2, y3, y4, y5, y6, y7, y8, y9, y10, y11, y12, y13, y14, y15, y16, y17, y18, y19] ++ ([y20, y21, y22, y23, y24, y25, y26, y27, y28] ++ ([y29, y30, y31] ++ ([y32, y33, y34, y35, y36] ++ [y37, y38, y39])))) = _
      rw [h0, h1, h2, h3, h4, h5, h6]
      rfl
    · unfold i64 at g4 g5
      exact ⟨by simp only; omega, by simp only; omega⟩
end Go.Proofs.YtkolmkdbjagfcaaGreat

namespace Go.Proofs.YtkolmkdbjagfcaaGreat
open Go.Hb Go.ChangeShapes Go.WideShapes
attribute [local irreducible] LR CW At Ev thn blk finK noG again CallsTo DW QL dnext
set_option linter.unusedSimpArgs false
set_option linter.unusedVariables false

set_option maxHeartbeats 1000000 in
set_option maxRecDepth 100000 in
theorem packetUnpacks_lifted (os : Os) (started : os.Started) (H : Type) (enc : TypeId × Value → H) :
    ReturnsInHanded {} Tryz.checked os 4 .any (Rows.packetUnpacksSpec.pre6 enc Tryz.prog Tryz.f4 Rows.packetUnpacksRow.domain false) (Rows.packetUnpacksSpec.post enc Tryz.prog Tryz.f4 false true false false) := by
  refine returnsInHanded_of_change_sized (C := Tryz.checked) (s := Rows.packetUnpacksSpec) own_knob started (by kernel_rfl) Tryz.func4
    (ChangeSpec.witness6 (enc := enc) (C := Tryz.checked) false ⟨#[], #[.slice none 0 0], []⟩ 12 (by kernel_rfl) (by kernel_rfl) (by kernel_rfl) (by kernel_rfl)) ?_
  intro W base args ds gs before hval hW hcnd hwt _
  have hW' := hW
  obtain ⟨p, q, hA0, hV, rfl, hfz, hnd⟩ := hW'
  obtain ⟨rfl, rfl⟩ := trodVars_none hV
  have hA : DataW.TrodAll enc Tryz.prog W 0 (fun _ => true) true Tryz.f4.params.toList args.toList ds p := hA0
  rw [Tryz.params4] at hA
  obtain ⟨v0, vs0, d0, ds0, p0, q0, hargs, rfl, rfl, h0, r0⟩ := trodAll_cons hA
  obtain ⟨rfl, rfl, rfl⟩ := trodAll_nil r0
  obtain rfl : args = #[v0] := by cases args; simp_all
  obtain ⟨a0, c0, l0, hcs0, hr0, hb0, hz0, hc0, hm0⟩ := opn_arg (i := 0) opn_bytes h0 hwt rfl rfl
  obtain ⟨b0, n0, e0, rfl⟩ := okWide_slice Tryz.underlying26 (hval 0 26 v0 rfl rfl)
  have hcs0 : [Value.slice b0 n0 e0] = [.slice a0 l0.length c0] := hcs0
  simp only [List.cons.injEq, Value.slice.injEq, and_true] at hcs0
  obtain ⟨e10, e20, e30⟩ := hcs0
  have e10 := e10.symm
  have e30 := e30.symm
  subst e10; subst e20; subst e30
  refine (e4 a0 c0 l0 W hr0 hb0 hz0 hc0 (by omega)).calls fun v W' ⟨hv, hg⟩ => ⟨v, rfl, ?_⟩
  subst hv
  exact law_post kids full_slices hW hg rfl rfl (by kernel_rfl) Tryz.underlying4 (by rw [Tryz.params4]; decide +kernel)

theorem packetUnpacks_holds : Rows.PacketUnpacksSaid :=
  OpenClaim.holds_of_wide 4 Tryz.f4 rfl rfl rfl rfl rfl rfl rfl ⟨rfl, rfl, rfl, rfl, rfl⟩ rfl rfl rfl rfl rfl (by kernel_rfl) Tryz.func4 (by kernel_rfl)
    (of_decide_eq_true (by kernel_rfl)) (by unfold Func.isWrapper; first | (rw [if_pos (by decide +kernel)]; kernel_rfl) | (rw [if_neg (by decide +kernel)]; exact ⟨rfl, rfl⟩))
    (fun os started H enc _ => packetUnpacks_lifted os started H enc)
end Go.Proofs.YtkolmkdbjagfcaaGreat
