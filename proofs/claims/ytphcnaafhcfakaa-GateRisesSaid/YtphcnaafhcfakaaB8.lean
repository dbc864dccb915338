/-
  What is passed rises: the law.
-/
import Derived.Test.YtphcnaafhcfakaaB71
-- all by hand
namespace Go.Proofs.Ytphcnaafhcfakaa
open Go.Hb Go.ChangeShapes Go.WideShapes
attribute [local irreducible] LR CW At Ev thn blk finK noG again CallsTo DW QL dnext TW DP
set_option linter.unusedSimpArgs false
set_option linter.unusedVariables false
set_option maxRecDepth 100000

theorem cmpI_pos {x y : Int} : 0 < cmpI x y ↔ y < x := by unfold cmpI; split <;> (try split) <;> omega
theorem cmpI_neg {x y : Int} : cmpI x y < 0 ↔ x < y := by unfold cmpI; split <;> (try split) <;> omega
theorem keysI_pos (a b : Ky) : 0 < keysI a b ↔ b.t < a.t ∨ (a.t = b.t ∧ (b.s < a.s ∨ (a.s = b.s ∧ (b.r < a.r ∨ (a.r = b.r ∧ b.q < a.q))))) := by
  have h1 := @cmpI_pos a.t b.t
  have h2 := @cmpI_zero a.t b.t
  have h3 := @cmpI_pos a.s b.s
  have h4 := @cmpI_zero a.s b.s
  have h5 := @cmpI_pos a.r b.r
  have h6 := @cmpI_zero a.r b.r
  have h7 := @cmpI_pos a.q b.q
  have h8 := @cmpI_zero a.q b.q
  simp only [keysI, ringsI, orL]
  split <;> (try split) <;> (try split) <;> (try split) <;> omega
theorem mark_rises {g : Gt} {k : Ky} (h : markB g k = true) : 0 < keysI k g.p := by
  unfold markB owesB aboveB at h
  simp only [Bool.and_eq_true, Bool.not_eq_true', decide_eq_true_eq, decide_eq_false_iff_not, not_and, Int.not_lt] at h
  obtain ⟨⟨⟨h1, h2, h3⟩, h4⟩, h5⟩ := h
  have h5 := h5 h2
  have h6 : ¬ 0 < keysI g.w k := by omega
  rw [keysI_pos] at h3 h6 ⊢
  omega
theorem check_mark {g : Gt} {k : Ky} (hn : 1 ≤ g.node ∧ g.node ≤ 8) (h : markB g k = true) : check (markM g k) = 0 := by
  have hk : okK k := by unfold markB at h; simp only [Bool.and_eq_true, decide_eq_true_eq] at h; exact h.1.2
  unfold markM; rw [if_pos h]
  unfold okK at hk
  unfold check checkM
  rw [if_neg (by simp), if_pos ?_]
  unfold mayB kindB emptyB plainB
  simp [withinB_iff, hk, hn]
theorem chart_may {ps : List Plc} (h : (charts ps).2 = 0) : (charts ps).1.length ≤ 160 ∧ (places (charts ps).1).2 = 0 := by
  obtain ⟨h4, hb, hc⟩ := charts_ok h
  have he : (charts ps).1 = plcsBytes ps := congrArg Prod.fst hc
  have h2 := places_enc [] h
  rw [List.append_nil, if_neg (by simp)] at h2
  rw [he, h2]
  refine ⟨?_, rfl⟩
  have hr := plcs_room hb
  have hl : (enc ps.length).length ≤ 1 := enc_len1 (by omega)
  unfold plcsBytes
  simp only [List.length_append]
  omega
theorem check_chart {node : Int} {ps : List Plc} {k : Ky} (hn : 1 ≤ node ∧ node ≤ 8) (h : (charts ps).2 = 0) (hk : okK k) : check (fromM (chartM node (charts ps).1) k) = 0 := by
  obtain ⟨h1, h2⟩ := chart_may h
  unfold okK at hk
  unfold check checkM
  rw [if_neg (by show ¬ 160 < (charts ps).1.length; omega), if_pos ?_]
  unfold mayB kindB chartB plainB
  simp [withinB_iff, fromM, chartM, hk, hn, h2]
theorem okK_zero : okK zeroK := by show keyE 0 0 0 0 = 0; kernel_rfl
theorem check_chart0 {node : Int} {ps : List Plc} (hn : 1 ≤ node ∧ node ≤ 8) (h : (charts ps).2 = 0) : check (chartM node (charts ps).1) = 0 := check_chart (k := zeroK) hn h okK_zero
theorem check_from {m : Msg} {k : Ky} (h : check m = 0) (hk : okK k) (h5 : m.kind = 1 ∨ m.kind = 4) : check (fromM m k) = 0 := by
  obtain ⟨h1, h2⟩ := check_ok h
  unfold okK at hk
  unfold check checkM
  rw [if_neg (by show ¬ 160 < m.body.length; omega), if_pos ?_]
  unfold mayB kindB at h2 ⊢
  rcases h5 with h5 | h5
  · unfold textB at h2 ⊢
    simp only [h5, fromM, withinB_iff, Bool.and_eq_true, decide_eq_true_eq, if_true] at h2 ⊢
    exact ⟨⟨h2.1.1, hk⟩, h2.2⟩
  · unfold chartB plainB at h2 ⊢
    simp only [h5, fromM, withinB_iff, Bool.and_eq_true, decide_eq_true_eq, if_true] at h2 ⊢
    simp only [show ¬ ((4 : Int) = 1) by omega, show ¬ ((4 : Int) = 2) by omega, show ¬ ((4 : Int) = 3) by omega, if_false, Bool.and_eq_true, decide_eq_true_eq] at h2 ⊢
    exact ⟨⟨h2.1.1, hk⟩, h2.2⟩
theorem pass_rises {g : Gt} {x : Itm} (h : passB g x = true) : 0 < keysI x.k g.p ∧ okK x.k := by
  unfold passB aboveB at h
  simp only [Bool.and_eq_true, decide_eq_true_eq] at h
  exact ⟨h.1.2, h.1.1⟩
theorem check_pass {g : Gt} {x : Itm} (hn : 1 ≤ g.node ∧ g.node ≤ 8) (h : passB g x = true) : check (passM g x) = 0 := by
  have hk := (pass_rises h).2
  unfold passM; rw [if_pos h]
  unfold passB itemB at h
  simp only [Bool.and_eq_true] at h
  unfold itemM
  by_cases h0 : x.m.kind = 0
  · rw [if_pos h0] at h ⊢
    exact check_chart hn (by simpa using h.2) hk
  · rw [if_neg h0] at h ⊢
    by_cases h1 : x.m.kind = 1 ∨ x.m.kind = 4
    · rw [if_pos h1] at h ⊢
      exact check_from (by simpa using h.2) hk h1
    · rw [if_neg h1] at h; simp at h
theorem check_begin {g : Gt} {k : Ky} {ps : List Plc} (hn : 1 ≤ g.node ∧ g.node ≤ 8) (h : beginB k ps = true) : check (beginM g k ps) = 0 := by
  unfold beginM; rw [if_pos h]
  unfold beginB at h
  simp only [decide_eq_true_eq] at h
  exact check_chart0 hn h.2
theorem charts_byt (ps : List Plc) : Byt (charts ps).1 := by
  by_cases h : (charts ps).2 = 0
  · obtain ⟨h4, hb, hc⟩ := charts_ok h
    have he : (charts ps).1 = plcsBytes ps := congrArg Prod.fst hc
    rw [he]
    unfold plcsBytes
    refine (enc_byt (by omega)).append ?_
    intro b hb'
    obtain ⟨p, hp, hb'⟩ := List.mem_flatMap.1 hb'
    exact encs_byt (plcNums_ok (hb p hp)) b hb'
  · have : (charts ps).1 = [] := by
      unfold charts at h ⊢
      split
      · rfl
      · rename_i h1; rw [if_neg h1] at h
        split
        · rfl
        · rename_i h2; rw [if_neg h2] at h
          split
          · rfl
          · rename_i h3; rw [if_neg h3] at h; exact absurd rfl h
    rw [this]
    intro b hb; simp at hb
theorem item_in_row (x : DooA) {j : Nat} {v : Value} (h : (x.d.x.cells x.a x.c)[j]? = some v) : x.row[1 + j]? = some v := by
  have hlt : j < 21 := (List.getElem?_eq_some_iff.1 h).1
  have e : x.row = .int .i64 x.d.kind :: (x.d.x.cells x.a x.c ++ [.slice x.ak x.d.ps.length x.ck]) := rfl
  rw [e, Nat.add_comm, List.getElem?_cons_succ, List.getElem?_append_left hlt]
  exact h

set_option maxHeartbeats 8000000 in
theorem g10 (node : Int) (al : Option Addr) (cl : Nat) (l : List DooA) (w : World) (hr : Rd w al (l.flatMap DooA.row)) (hR : ∀ x ∈ l, DooR w x) (hm : l.length ≤ 140737488351232) :
    CallsTo Try.prog 10 [.int .i64 node, .slice al l.length cl] w fun v w' => v = .bool true ∧ Grew w w' := by
  refine go_in (n := 136) (St.rd1 hr) Try.func10 rfl rfl ?_
  have hnb := bring_bd node 8 (by omega)
  repeat' (
    first
    | (
      first
      | (apply kp; iterate 2 exact rfl)
      | apply ja | apply jb | apply jg | apply jj | (apply je; exact rfl) | (apply jf; exact rfl) | apply jd | apply jh | apply ji | (apply jc; kernel_rfl) | apply jk | apply jl | apply jm | apply jn | apply jo | (apply jp; exact rfl) | apply jq | apply jr | apply js | apply jt | apply ju | apply jv | apply jw | apply kN | apply kM
      | (apply kf; iterate 2 exact rfl)
      | (apply ko; (· exact rfl); (· repeat (first | exact mH _ _ | apply mT)); iterate 2 exact rfl)
      | (apply ka; (· exact rfl); (· repeat (first | exact mH _ _ | apply mT)); iterate 2 exact rfl)
      | (apply kr; (· exact rfl); (· repeat (first | exact mH _ _ | apply mT)); iterate 3 exact rfl)
      | (apply ks; (· exact rfl); (· repeat (first | exact mH _ _ | apply mT)); iterate 2 exact rfl)
      | (apply kn; iterate 2 exact rfl)
      | (apply ke; iterate 2 exact rfl)
      | (apply kx; iterate 2 exact rfl)
      | (apply kc; iterate 2 exact rfl)
      | (apply kb; iterate 2 exact rfl)
      | (apply kg; iterate 2 exact rfl)
      | (apply kG; iterate 3 exact rfl)
      | (apply kB; (iterate 2 exact rfl); intro _)
      | (apply kA; exact rfl; intro _)
      | (apply kL; (iterate 3 exact rfl); (· repeat (first | exact BS.nil _ | (apply BS.int; exact rfl) | (apply BS.ptr; exact rfl) | (apply BS.slice; exact rfl) | (apply BS.agg; iterate 2 exact rfl))); intro _)
      | (apply kT; (iterate 2 exact rfl); (· repeat (first | exact sH _ _ _ | apply sT)); iterate 2 exact rfl)
      | (apply kS; (iterate 2 exact rfl); (· repeat (first | exact sH _ _ _ | apply sT)); exact rfl)
      | (apply kh; (iterate 2 exact rfl); (first | decide | omega); exact rfl)
      | (apply kl; (iterate 2 exact rfl); (first | decide | omega); exact rfl)
      )
    | (apply kq; (· exact rfl); (· intro w1 h1; exact CallsTo.q (g30 w1) h1))
    | (apply kq; (· exact rfl); (· intro w1 h1; exact CallsTo.q (c31 _ _ w1 (by omega)) h1))
    | (apply LR.ev; (· apply Ev.add; (· exact rfl); (· exact rfl); (· first | omega | (dsimp only; omega)); (· first | omega | (dsimp only; omega))); (· exact rfl))
    | ((first | (apply kR; (· exact rfl); (· exact rfl)) | (apply kQ; (· exact rfl))); all_goals (intro hc; try simp only [decide_eq_true_eq, decide_eq_false_iff_not, Bool.not_eq_true', Bool.not_eq_false', Bool.not_eq_true, Bool.not_eq_false, Bool.not_true, Bool.not_false, Int.not_lt, Int.not_le, List.cons.injEq, and_true, beq_iff_eq, beq_eq_false_iff_ne] at hc; try (exfalso; first | contradiction | omega)))
    )
  obtain ⟨nd, end_⟩ : ∃ nd, nd = 1 + bring node 8 := ⟨_, rfl⟩
  rw [← end_]
  have hnd : 1 ≤ nd ∧ nd ≤ 8 := by omega
  apply LR.call
  · exact rfl
  intro w1 h1
  have hh := g31 nd w1 hnd
  skip
  refine CallsTo.mono hh ?_
  clear hh
  rintro v w2 ⟨bg, rfl, hn⟩
  have h2 := h1.got hn (Asrt.dep_own _ _)
  refine LR.back h2 ?_
  clear h2 h1
  repeat' (
    first
    | (
      first
      | (apply kp; iterate 2 exact rfl)
      | apply ja | apply jb | apply jg | apply jj | (apply je; exact rfl) | (apply jf; exact rfl) | apply jd | apply jh | apply ji | (apply jc; kernel_rfl) | apply jk | apply jl | apply jm | apply jn | apply jo | (apply jp; exact rfl) | apply jq | apply jr | apply js | apply jt | apply ju | apply jv | apply jw | apply kN | apply kM
      | (apply kf; iterate 2 exact rfl)
      | (apply ko; (· exact rfl); (· repeat (first | exact mH _ _ | apply mT)); iterate 2 exact rfl)
      | (apply ka; (· exact rfl); (· repeat (first | exact mH _ _ | apply mT)); iterate 2 exact rfl)
      | (apply kr; (· exact rfl); (· repeat (first | exact mH _ _ | apply mT)); iterate 3 exact rfl)
      | (apply ks; (· exact rfl); (· repeat (first | exact mH _ _ | apply mT)); iterate 2 exact rfl)
      | (apply kn; iterate 2 exact rfl)
      | (apply ke; iterate 2 exact rfl)
      | (apply kx; iterate 2 exact rfl)
      | (apply kc; iterate 2 exact rfl)
      | (apply kb; iterate 2 exact rfl)
      | (apply kg; iterate 2 exact rfl)
      | (apply kG; iterate 3 exact rfl)
      | (apply kB; (iterate 2 exact rfl); intro _)
      | (apply kA; exact rfl; intro _)
      | (apply kL; (iterate 3 exact rfl); (· repeat (first | exact BS.nil _ | (apply BS.int; exact rfl) | (apply BS.ptr; exact rfl) | (apply BS.slice; exact rfl) | (apply BS.agg; iterate 2 exact rfl))); intro _)
      | (apply kT; (iterate 2 exact rfl); (· repeat (first | exact sH _ _ _ | apply sT)); iterate 2 exact rfl)
      | (apply kS; (iterate 2 exact rfl); (· repeat (first | exact sH _ _ _ | apply sT)); exact rfl)
      | (apply kh; (iterate 2 exact rfl); (first | decide | omega); exact rfl)
      | (apply kl; (iterate 2 exact rfl); (first | decide | omega); exact rfl)
      )
    | ((first | (apply kR; (· exact rfl); (· exact rfl)) | (apply kQ; (· exact rfl))); all_goals (intro hc; try simp only [decide_eq_true_eq, decide_eq_false_iff_not, Bool.not_eq_true', Bool.not_eq_false', Bool.not_eq_true, Bool.not_eq_false, Bool.not_true, Bool.not_false, Int.not_lt, Int.not_le, List.cons.injEq, and_true, beq_iff_eq, beq_eq_false_iff_ne] at hc; try (exfalso; first | contradiction | omega)))
    )
  rename_i bl
  apply CW.loop [4, 8, 9, 10, 11, 12, 13, 25, 26, 27, 28, 29, 30, 31, 32, 33, 34, 35, 36, 37, 38, 39, 40, 41, 42, 43, 44, 45, 46, 47, 48, 49, 50, 51, 52, 53, 54, 55, 56, 57, 58, 59, 60, 61, 62, 63, 64, 65, 66, 67, 68, 69, 70, 71, 72, 73, 74, 75, 76, 77, 78, 79, 80, 81, 82, 83, 84, 85, 86, 87, 88, 89, 90, 91, 92, 93, 94, 95, 96, 97, 98, 99, 100, 101, 102, 103, 104, 105, 106, 107, 108, 109, 110, 111, 112, 113, 114, 115, 116, 117, 118, 119, 120, 121, 122, 123, 124, 125, 126, 127, 128, 129, 130, 131, 132, 133, 134, 135] (fun s : Nat × Gt => s.1 ≤ l.length ∧ s.2.node = nd) (fun s => [(8, Value.int .i64 (s.1 : Int))]) (fun s => St w NoF [.own bl (.cells s.2.p.cells.toArray 25 (0, 0)), gO 95 bg s.2, rdA al (l.flatMap DooA.row)]) (fun s => l.length - s.1)
  · exact fun w' hw' => ⟨(0, newG nd), ⟨by simp, rfl⟩, ⟨rfl, trivial⟩, hw'⟩
  rintro ⟨i, G⟩ g ⟨hi, hG⟩
  simp only at hi hG ⊢
  have hGn : 1 ≤ G.node ∧ G.node ≤ 8 := by omega
  by_cases hlt : i < l.length ∧ i < 150
  · obtain ⟨hl, h150⟩ := hlt
    obtain ⟨ba, oa, rfl⟩ := hr.form (rows_ne DooA.row_len (by omega) hl)
    have hx := hR _ (List.getElem_mem hl)
    generalize hX : l[i] = X at hx
    have hk : bring X.d.kind 6 = 0 ∨ bring X.d.kind 6 = 1 ∨ bring X.d.kind 6 = 2 ∨ bring X.d.kind 6 = 3 ∨ bring X.d.kind 6 = 4 ∨ bring X.d.kind 6 = 5 := by have := bring_bd X.d.kind 6 (by omega); omega
    have hg41 := fun w1 => g41 X.d X.a X.c X.ak X.ck w1
    have ldk : ∀ w', Rd w' (some ⟨ba, oa, none⟩) (l.flatMap DooA.row) → ∀ q, q = oa + i * 23 + 1 → ∀ j v, X.d.x.k.cells[j]? = some v → w'.cell? ((⟨ba, q, none⟩ : Addr).add j) = some v := by
      intro w' hw' q hq j v hj
      subst hq hX
      rw [addr_add]
      refine row_cell DooA.row_len hw' hl (1 + j) (item_in_row _ (j := j) ?_) (by omega)
      exact List.getElem?_append_left (List.getElem?_eq_some_iff.1 hj).1 ▸ hj
    have ldr : ∀ w', Rd w' (some ⟨ba, oa, none⟩) (l.flatMap DooA.row) → ∀ q, q = oa + i * 23 → ∀ j v, X.row[j]? = some v → w'.cell? ((⟨ba, q, none⟩ : Addr).add j) = some v := by
      intro w' hw' q hq j v hj
      subst hq hX
      exact rd_row DooA.row_len hw' hl rfl j v hj
    have ldi : ∀ w', Rd w' (some ⟨ba, oa, none⟩) (l.flatMap DooA.row) → ∀ q, q = oa + i * 23 + 1 → ∀ j v, (X.d.x.cells X.a X.c)[j]? = some v → w'.cell? ((⟨ba, q, none⟩ : Addr).add j) = some v := by
      intro w' hw' q hq j v hj
      subst hq hX
      rw [addr_add]
      exact row_cell DooA.row_len hw' hl (1 + j) (item_in_row _ hj) (by omega)
    have ldp : ∀ w', Rd w' (some ⟨ba, oa, none⟩) (l.flatMap DooA.row) → ∀ q, q = oa + i * 23 + 22 → w'.cell? ⟨ba, q, none⟩ = some (.slice X.ak X.d.ps.length X.ck) := by
      intro w' hw' q hq
      subst hq hX
      exact row_cell DooA.row_len hw' hl 22 rfl rfl
    have hi1 : i + 1 ≤ l.length := by omega
    have hdec : l.length - (i + 1) < l.length - i := by omega
    rcases hk with hk | hk | hk | hk | hk | hk
    · have hel : (itemM G X.d.x).body.length ≤ 140737488351232 ∧ Byt (itemM G X.d.x).body := by
        unfold itemM
        split
        · have := charts_len [X.d.x.p]
          exact ⟨by show (charts [X.d.x.p]).1.length ≤ _; omega, charts_byt _⟩
        · split
          · exact ⟨hx.hm, hx.hb⟩
          · exact ⟨by simp [zeroMsg], by simp [zeroMsg, Byt]⟩
      cases hpb : passB G X.d.x
      · have e : passS G X.d.x = G := by unfold passS; rw [if_neg (by rw [hpb]; simp)]
        have e2 : passM G X.d.x = zeroMsg := by unfold passM; rw [if_neg (by rw [hpb]; simp)]
        repeat' (
          first
          | (
            first
            | (apply kp; iterate 2 exact rfl)
            | apply ja | apply jb | apply jg | apply jj | (apply je; exact rfl) | (apply jf; exact rfl) | apply jd | apply jh | apply ji | (apply jc; kernel_rfl) | apply jk | apply jl | apply jm | apply jn | apply jo | (apply jp; exact rfl) | apply jq | apply jr | apply js | apply jt | apply ju | apply jv | apply jw | apply kN | apply kM
            | (apply kf; iterate 2 exact rfl)
            | (apply ko; (· exact rfl); (· repeat (first | exact mH _ _ | apply mT)); iterate 2 exact rfl)
            | (apply ka; (· exact rfl); (· repeat (first | exact mH _ _ | apply mT)); iterate 2 exact rfl)
            | (apply kr; (· exact rfl); (· repeat (first | exact mH _ _ | apply mT)); iterate 3 exact rfl)
            | (apply ks; (· exact rfl); (· repeat (first | exact mH _ _ | apply mT)); iterate 2 exact rfl)
            | (apply kn; iterate 2 exact rfl)
            | (apply ke; iterate 2 exact rfl)
            | (apply kx; iterate 2 exact rfl)
            | (apply kc; iterate 2 exact rfl)
            | (apply kb; iterate 2 exact rfl)
            | (apply kg; iterate 2 exact rfl)
            | (apply kG; iterate 3 exact rfl)
            | (apply kB; (iterate 2 exact rfl); intro _)
            | (apply kA; exact rfl; intro _)
            | (apply kL; (iterate 3 exact rfl); (· repeat (first | exact BS.nil _ | (apply BS.int; exact rfl) | (apply BS.ptr; exact rfl) | (apply BS.slice; exact rfl) | (apply BS.agg; iterate 2 exact rfl))); intro _)
            | (apply kT; (iterate 2 exact rfl); (· repeat (first | exact sH _ _ _ | apply sT)); iterate 2 exact rfl)
            | (apply kS; (iterate 2 exact rfl); (· repeat (first | exact sH _ _ _ | apply sT)); exact rfl)
            | (apply kh; (iterate 2 exact rfl); (first | decide | omega); exact rfl)
            | (apply kl; (iterate 2 exact rfl); (first | decide | omega); exact rfl)
            )
          | (apply LR.ev; (· apply Ev.indexAddr; (· exact rfl); (· exact rfl); (· first | omega | (dsimp only; omega)); (· first | omega | (dsimp only; omega))); (· exact rfl))
          | (apply LR.ev; (· first | (apply Ev.load_agg_at (cs := X.row); (· exact rfl); (· exact rfl); (· intro w' hw'; exact ldr w' (hw'.rd_of (by (repeat (first | exact mH _ _ | apply mT)))) _ (by simp))) | (apply Ev.load_agg_at (cs := X.d.x.k.cells); (· exact rfl); (· exact rfl); (· intro w' hw'; exact ldk w' (hw'.rd_of (by (repeat (first | exact mH _ _ | apply mT)))) _ (by simp))) | (apply Ev.load_agg_at (cs := X.d.x.cells X.a X.c); (· exact rfl); (· exact rfl); (· intro w' hw'; exact ldi w' (hw'.rd_of (by (repeat (first | exact mH _ _ | apply mT)))) _ (by simp)))); (· exact rfl))
          | (apply kq; (· exact rfl); (· intro w1 h1; have hq := CallsTo.q (hg41 w1) h1; rw [hk] at hq; exact hq))
          | ((first | (apply kR; (· exact rfl); (· exact rfl)) | (apply kQ; (· exact rfl))); all_goals (intro hc; try simp only [decide_eq_true_eq, decide_eq_false_iff_not, Bool.not_eq_true', Bool.not_eq_false', Bool.not_eq_true, Bool.not_eq_false, Bool.not_true, Bool.not_false, Int.not_lt, Int.not_le, List.cons.injEq, and_true, beq_iff_eq, beq_eq_false_iff_ne] at hc; try (exfalso; first | contradiction | omega)))
          )
        apply LR.call
        · exact rfl
        intro w1 h1
        have hh := g32 bg G X.d.x X.a X.c w1 (h1.own_at (by (repeat (first | exact mH _ _ | apply mT)))) (by omega) (h1.oldRd hx.hr) (h1.oldApart (x := gO 95 bg G) (by (repeat (first | exact mH _ _ | apply mT))) rfl hx.hr) hx.hz (by have := hx.hm; omega) hx.hb hx.hp
        rw [hpb, e, e2] at hh
        refine CallsTo.mono hh ?_
        clear hh
        rintro v w2 ⟨a1, c1, rfl, st⟩
        have h2 := h1.two st rfl rfl rfl (by (repeat (first | exact sH _ _ _ | apply sT)))
        refine LR.back h2 ?_
        clear h2 h1
        repeat' (
          first
          | (apply CW.reg_heldC)
          | (
            first
            | (apply kp; iterate 2 exact rfl)
            | apply ja | apply jb | apply jg | apply jj | (apply je; exact rfl) | (apply jf; exact rfl) | apply jd | apply jh | apply ji | (apply jc; kernel_rfl) | apply jk | apply jl | apply jm | apply jn | apply jo | (apply jp; exact rfl) | apply jq | apply jr | apply js | apply jt | apply ju | apply jv | apply jw | apply kN | apply kM
            | (apply kf; iterate 2 exact rfl)
            | (apply ko; (· exact rfl); (· repeat (first | exact mH _ _ | apply mT)); iterate 2 exact rfl)
            | (apply ka; (· exact rfl); (· repeat (first | exact mH _ _ | apply mT)); iterate 2 exact rfl)
            | (apply kr; (· exact rfl); (· repeat (first | exact mH _ _ | apply mT)); iterate 3 exact rfl)
            | (apply ks; (· exact rfl); (· repeat (first | exact mH _ _ | apply mT)); iterate 2 exact rfl)
            | (apply kn; iterate 2 exact rfl)
            | (apply ke; iterate 2 exact rfl)
            | (apply kx; iterate 2 exact rfl)
            | (apply kc; iterate 2 exact rfl)
            | (apply kb; iterate 2 exact rfl)
            | (apply kg; iterate 2 exact rfl)
            | (apply kG; iterate 3 exact rfl)
            | (apply kB; (iterate 2 exact rfl); intro _)
            | (apply kA; exact rfl; intro _)
            | (apply kL; (iterate 3 exact rfl); (· repeat (first | exact BS.nil _ | (apply BS.int; exact rfl) | (apply BS.ptr; exact rfl) | (apply BS.slice; exact rfl) | (apply BS.agg; iterate 2 exact rfl))); intro _)
            | (apply kT; (iterate 2 exact rfl); (· repeat (first | exact sH _ _ _ | apply sT)); iterate 2 exact rfl)
            | (apply kS; (iterate 2 exact rfl); (· repeat (first | exact sH _ _ _ | apply sT)); exact rfl)
            | (apply kh; (iterate 2 exact rfl); (first | decide | omega); exact rfl)
            | (apply kl; (iterate 2 exact rfl); (first | decide | omega); exact rfl)
            )
          | ((first | (apply kR; (· exact rfl); (· exact rfl)) | (apply kQ; (· exact rfl))); all_goals (intro hc; try simp only [decide_eq_true_eq, decide_eq_false_iff_not, Bool.not_eq_true', Bool.not_eq_false', Bool.not_eq_true, Bool.not_eq_false, Bool.not_true, Bool.not_false, Int.not_lt, Int.not_le, List.cons.injEq, and_true, beq_iff_eq, beq_eq_false_iff_ne] at hc; try (exfalso; first | contradiction | omega)))
          )
        all_goals (
          apply DW.quiet [0, 2]
          · decide +kernel
          · first | exact fun _ h => h | exact fun _ h => St.sub h (by repeat (first | exact List.Sublist.refl _ | apply List.Sublist.cons_cons | apply List.Sublist.cons))
          repeat' (
            first
            | (apply yp; iterate 3 exact rfl)
            | (apply QL.ev; exact rfl
               · first
                 | (apply Ev.load_own; (· exact rfl); (· repeat (first | exact mH _ _ | apply mT)); exact rfl)
                 | (apply Ev.load_agg; (· exact rfl); (· repeat (first | exact mH _ _ | apply mT)); exact rfl)
                 | (apply Ev.load_rdq; (· exact rfl); (· repeat (first | exact mH _ _ | apply mT)); iterate 2 exact rfl)
                 | (apply Ev.load_ardq; (· exact rfl); (· repeat (first | exact mH _ _ | apply mT)); exact rfl)
                 | (apply Ev.fieldAddr; exact rfl)
                 | (apply Ev.len; exact rfl)
                 | (apply EqOf.eq; exact rfl)
                 | (apply EqOf.ne; exact rfl)
                 | (apply Ev.conv; exact rfl)
                 | (apply Ev.buildN; exact rfl)
                 | (apply Ev.shr; (iterate 2 exact rfl); first | decide | omega)
                 | (apply Ev.shl; (iterate 2 exact rfl); first | decide | omega)
               · exact rfl)
            | (apply yq; iterate 5 exact rfl)
            | (apply QL.evg; iterate 3 exact rfl
               · first
                 | (apply Ev.load_own; (· exact rfl); (· repeat (first | exact mH _ _ | apply mT)); exact rfl)
                 | (apply Ev.load_agg; (· exact rfl); (· repeat (first | exact mH _ _ | apply mT)); exact rfl)
                 | (apply Ev.load_rdq; (· exact rfl); (· repeat (first | exact mH _ _ | apply mT)); iterate 2 exact rfl)
                 | (apply Ev.load_ardq; (· exact rfl); (· repeat (first | exact mH _ _ | apply mT)); exact rfl)
                 | (apply Ev.fieldAddr; exact rfl)
                 | (apply Ev.len; exact rfl)
                 | (apply EqOf.eq; exact rfl)
                 | (apply EqOf.ne; exact rfl)
                 | (apply Ev.conv; exact rfl)
                 | (apply Ev.buildN; exact rfl)
                 | (apply Ev.shr; (iterate 2 exact rfl); first | decide | omega)
                 | (apply Ev.shl; (iterate 2 exact rfl); first | decide | omega)
               · exact rfl)
            | (apply yn; iterate 4 exact rfl)
            | ((apply QL.split; (· exact rfl); (· exact rfl); (· exact rfl)); all_goals (intro hc; try simp only [decide_eq_true_eq, decide_eq_false_iff_not, Bool.not_eq_true', Bool.not_eq_false', Bool.not_eq_true, Bool.not_eq_false, Bool.not_true, Bool.not_false, Int.not_lt, Int.not_le, List.cons.injEq, and_true, beq_iff_eq, beq_eq_false_iff_ne] at hc; try (exfalso; first | contradiction | omega)))
            | apply QL.nil
            )
          all_goals (show DW _ _ _ _ _ _ _ _))
        all_goals (
          apply DW.loud 1
          · exact rfl
          · decide +kernel
          repeat' (
            first
            | (apply kg; iterate 2 exact rfl)
            | (apply kG; iterate 3 exact rfl)
            | apply kM
            | (
              first
              | (apply kp; iterate 2 exact rfl)
              | (apply ko; (· exact rfl); (· repeat (first | exact mH _ _ | apply mT)); iterate 2 exact rfl)
              | (apply ka; (· exact rfl); (· repeat (first | exact mH _ _ | apply mT)); iterate 2 exact rfl)
              | (apply kL; (iterate 3 exact rfl); (· repeat (first | exact BS.nil _ | (apply BS.int; exact rfl) | (apply BS.ptr; exact rfl) | (apply BS.slice; exact rfl) | (apply BS.agg; iterate 2 exact rfl))); intro _)
              | (apply kT; (iterate 2 exact rfl); (· repeat (first | exact sH _ _ _ | apply sT)); iterate 2 exact rfl)
              | (apply kS; (iterate 2 exact rfl); (· repeat (first | exact sH _ _ _ | apply sT)); exact rfl)
              | (apply kB; (iterate 2 exact rfl); intro _)
              | (apply kA; exact rfl; intro _)
              )
            | (apply kq; (· exact rfl); (· intro w1 h1; exact CallsTo.q (g45 bg (G) w1 (h1.rd_of_blk (by (repeat (first | exact mH _ _ | apply mT)))) (by show G.node ≠ 0; omega)) h1))
            )
          all_goals (refine At.stage_same (fun _ h => St.sub h (by repeat (first | exact List.Sublist.refl _ | apply List.Sublist.cons_cons | apply List.Sublist.cons))) ?_))
        all_goals (
          apply DW.quiet [3]
          · decide +kernel
          · first | exact fun _ h => h | exact fun _ h => St.sub h (by repeat (first | exact List.Sublist.refl _ | apply List.Sublist.cons_cons | apply List.Sublist.cons))
          repeat' (
            first
            | (apply yp; iterate 3 exact rfl)
            | (apply QL.ev; exact rfl
               · first
                 | (apply Ev.load_own; (· exact rfl); (· repeat (first | exact mH _ _ | apply mT)); exact rfl)
                 | (apply Ev.load_agg; (· exact rfl); (· repeat (first | exact mH _ _ | apply mT)); exact rfl)
                 | (apply Ev.load_rdq; (· exact rfl); (· repeat (first | exact mH _ _ | apply mT)); iterate 2 exact rfl)
                 | (apply Ev.load_ardq; (· exact rfl); (· repeat (first | exact mH _ _ | apply mT)); exact rfl)
                 | (apply Ev.fieldAddr; exact rfl)
                 | (apply Ev.len; exact rfl)
                 | (apply EqOf.eq; exact rfl)
                 | (apply EqOf.ne; exact rfl)
                 | (apply Ev.conv; exact rfl)
                 | (apply Ev.buildN; exact rfl)
                 | (apply Ev.shr; (iterate 2 exact rfl); first | decide | omega)
                 | (apply Ev.shl; (iterate 2 exact rfl); first | decide | omega)
               · exact rfl)
            | (apply yq; iterate 5 exact rfl)
            | (apply QL.evg; iterate 3 exact rfl
               · first
                 | (apply Ev.load_own; (· exact rfl); (· repeat (first | exact mH _ _ | apply mT)); exact rfl)
                 | (apply Ev.load_agg; (· exact rfl); (· repeat (first | exact mH _ _ | apply mT)); exact rfl)
                 | (apply Ev.load_rdq; (· exact rfl); (· repeat (first | exact mH _ _ | apply mT)); iterate 2 exact rfl)
                 | (apply Ev.load_ardq; (· exact rfl); (· repeat (first | exact mH _ _ | apply mT)); exact rfl)
                 | (apply Ev.fieldAddr; exact rfl)
                 | (apply Ev.len; exact rfl)
                 | (apply EqOf.eq; exact rfl)
                 | (apply EqOf.ne; exact rfl)
                 | (apply Ev.conv; exact rfl)
                 | (apply Ev.buildN; exact rfl)
                 | (apply Ev.shr; (iterate 2 exact rfl); first | decide | omega)
                 | (apply Ev.shl; (iterate 2 exact rfl); first | decide | omega)
               · exact rfl)
            | (apply yn; iterate 4 exact rfl)
            | ((apply QL.split; (· exact rfl); (· exact rfl); (· exact rfl)); all_goals (intro hc; try simp only [decide_eq_true_eq, decide_eq_false_iff_not, Bool.not_eq_true', Bool.not_eq_false', Bool.not_eq_true, Bool.not_eq_false, Bool.not_true, Bool.not_false, Int.not_lt, Int.not_le, List.cons.injEq, and_true, beq_iff_eq, beq_eq_false_iff_ne] at hc; try (exfalso; first | contradiction | omega)))
            | apply QL.nil
            )
          all_goals (show DW _ _ _ _ _ _ _ _))
        all_goals (first | (apply DW.done_thn; (· decide +kernel)) | (apply DW.done; (· decide +kernel)))
        repeat' (
          first
          | (
            first
            | (apply kp; iterate 2 exact rfl)
            | apply ja | apply jb | apply jg | apply jj | (apply je; exact rfl) | (apply jf; exact rfl) | apply jd | apply jh | apply ji | (apply jc; kernel_rfl) | apply jk | apply jl | apply jm | apply jn | apply jo | (apply jp; exact rfl) | apply jq | apply jr | apply js | apply jt | apply ju | apply jv | apply jw | apply kN | apply kM
            | (apply kf; iterate 2 exact rfl)
            | (apply ko; (· exact rfl); (· repeat (first | exact mH _ _ | apply mT)); iterate 2 exact rfl)
            | (apply ka; (· exact rfl); (· repeat (first | exact mH _ _ | apply mT)); iterate 2 exact rfl)
            | (apply kr; (· exact rfl); (· repeat (first | exact mH _ _ | apply mT)); iterate 3 exact rfl)
            | (apply ks; (· exact rfl); (· repeat (first | exact mH _ _ | apply mT)); iterate 2 exact rfl)
            | (apply kn; iterate 2 exact rfl)
            | (apply ke; iterate 2 exact rfl)
            | (apply kx; iterate 2 exact rfl)
            | (apply kc; iterate 2 exact rfl)
            | (apply kb; iterate 2 exact rfl)
            | (apply kg; iterate 2 exact rfl)
            | (apply kG; iterate 3 exact rfl)
            | (apply kB; (iterate 2 exact rfl); intro _)
            | (apply kA; exact rfl; intro _)
            | (apply kL; (iterate 3 exact rfl); (· repeat (first | exact BS.nil _ | (apply BS.int; exact rfl) | (apply BS.ptr; exact rfl) | (apply BS.slice; exact rfl) | (apply BS.agg; iterate 2 exact rfl))); intro _)
            | (apply kT; (iterate 2 exact rfl); (· repeat (first | exact sH _ _ _ | apply sT)); iterate 2 exact rfl)
            | (apply kS; (iterate 2 exact rfl); (· repeat (first | exact sH _ _ _ | apply sT)); exact rfl)
            | (apply kh; (iterate 2 exact rfl); (first | decide | omega); exact rfl)
            | (apply kl; (iterate 2 exact rfl); (first | decide | omega); exact rfl)
            )
          | (apply LR.ev; (· apply Ev.add; (· exact rfl); (· exact rfl); (· first | omega | (dsimp only; omega)); (· first | omega | (dsimp only; omega))); (· exact rfl))
          | ((first | (apply kR; (· exact rfl); (· exact rfl)) | (apply kQ; (· exact rfl))); all_goals (intro hc; try simp only [decide_eq_true_eq, decide_eq_false_iff_not, Bool.not_eq_true', Bool.not_eq_false', Bool.not_eq_true, Bool.not_eq_false, Bool.not_true, Bool.not_false, Int.not_lt, Int.not_le, List.cons.injEq, and_true, beq_iff_eq, beq_eq_false_iff_ne] at hc; try (exfalso; first | contradiction | omega)))
          )
        all_goals (try (exfalso; revert hc; simp; done))
        refine At.again (i + 1, G) ⟨hi1, hG⟩ ?_ ?_ ?_ ?_
        · (repeat (first | exact Out.refl _ _ | exact Out.mix | (apply Out.upd; (· exact rfl)) | (apply Out.updL; (· exact rfl)) | (apply Out.mixs; (· exact rfl))))
        · exact ⟨rfl, trivial⟩
        · intro w' hw'
          refine hw'.sub ?_
          repeat (first | exact List.Sublist.refl _ | apply List.Sublist.cons_cons | apply List.Sublist.cons)
          done
        · exact hdec
      · have e : passS G X.d.x = { G with p := X.d.x.k } := by unfold passS; rw [if_pos hpb]
        have e2 : passM G X.d.x = fromM (itemM G X.d.x) X.d.x.k := by unfold passM; rw [if_pos hpb]
        have hck := check_pass hGn hpb
        rw [e2] at hck
        have hri := (pass_rises hpb).1
        repeat' (
          first
          | (
            first
            | (apply kp; iterate 2 exact rfl)
            | apply ja | apply jb | apply jg | apply jj | (apply je; exact rfl) | (apply jf; exact rfl) | apply jd | apply jh | apply ji | (apply jc; kernel_rfl) | apply jk | apply jl | apply jm | apply jn | apply jo | (apply jp; exact rfl) | apply jq | apply jr | apply js | apply jt | apply ju | apply jv | apply jw | apply kN | apply kM
            | (apply kf; iterate 2 exact rfl)
            | (apply ko; (· exact rfl); (· repeat (first | exact mH _ _ | apply mT)); iterate 2 exact rfl)
            | (apply ka; (· exact rfl); (· repeat (first | exact mH _ _ | apply mT)); iterate 2 exact rfl)
            | (apply kr; (· exact rfl); (· repeat (first | exact mH _ _ | apply mT)); iterate 3 exact rfl)
            | (apply ks; (· exact rfl); (· repeat (first | exact mH _ _ | apply mT)); iterate 2 exact rfl)
            | (apply kn; iterate 2 exact rfl)
            | (apply ke; iterate 2 exact rfl)
            | (apply kx; iterate 2 exact rfl)
            | (apply kc; iterate 2 exact rfl)
            | (apply kb; iterate 2 exact rfl)
            | (apply kg; iterate 2 exact rfl)
            | (apply kG; iterate 3 exact rfl)
            | (apply kB; (iterate 2 exact rfl); intro _)
            | (apply kA; exact rfl; intro _)
            | (apply kL; (iterate 3 exact rfl); (· repeat (first | exact BS.nil _ | (apply BS.int; exact rfl) | (apply BS.ptr; exact rfl) | (apply BS.slice; exact rfl) | (apply BS.agg; iterate 2 exact rfl))); intro _)
            | (apply kT; (iterate 2 exact rfl); (· repeat (first | exact sH _ _ _ | apply sT)); iterate 2 exact rfl)
            | (apply kS; (iterate 2 exact rfl); (· repeat (first | exact sH _ _ _ | apply sT)); exact rfl)
            | (apply kh; (iterate 2 exact rfl); (first | decide | omega); exact rfl)
            | (apply kl; (iterate 2 exact rfl); (first | decide | omega); exact rfl)
            )
          | (apply LR.ev; (· apply Ev.indexAddr; (· exact rfl); (· exact rfl); (· first | omega | (dsimp only; omega)); (· first | omega | (dsimp only; omega))); (· exact rfl))
          | (apply LR.ev; (· first | (apply Ev.load_agg_at (cs := X.row); (· exact rfl); (· exact rfl); (· intro w' hw'; exact ldr w' (hw'.rd_of (by (repeat (first | exact mH _ _ | apply mT)))) _ (by simp))) | (apply Ev.load_agg_at (cs := X.d.x.k.cells); (· exact rfl); (· exact rfl); (· intro w' hw'; exact ldk w' (hw'.rd_of (by (repeat (first | exact mH _ _ | apply mT)))) _ (by simp))) | (apply Ev.load_agg_at (cs := X.d.x.cells X.a X.c); (· exact rfl); (· exact rfl); (· intro w' hw'; exact ldi w' (hw'.rd_of (by (repeat (first | exact mH _ _ | apply mT)))) _ (by simp)))); (· exact rfl))
          | (apply kq; (· exact rfl); (· intro w1 h1; have hq := CallsTo.q (hg41 w1) h1; rw [hk] at hq; exact hq))
          | ((first | (apply kR; (· exact rfl); (· exact rfl)) | (apply kQ; (· exact rfl))); all_goals (intro hc; try simp only [decide_eq_true_eq, decide_eq_false_iff_not, Bool.not_eq_true', Bool.not_eq_false', Bool.not_eq_true, Bool.not_eq_false, Bool.not_true, Bool.not_false, Int.not_lt, Int.not_le, List.cons.injEq, and_true, beq_iff_eq, beq_eq_false_iff_ne] at hc; try (exfalso; first | contradiction | omega)))
          )
        apply LR.call
        · exact rfl
        intro w1 h1
        have hh := g32 bg G X.d.x X.a X.c w1 (h1.own_at (by (repeat (first | exact mH _ _ | apply mT)))) (by omega) (h1.oldRd hx.hr) (h1.oldApart (x := gO 95 bg G) (by (repeat (first | exact mH _ _ | apply mT))) rfl hx.hr) hx.hz (by have := hx.hm; omega) hx.hb hx.hp
        rw [hpb, e, e2] at hh
        refine CallsTo.mono hh ?_
        clear hh
        rintro v w2 ⟨a1, c1, rfl, st⟩
        have h2 := h1.two st rfl rfl rfl (by (repeat (first | exact sH _ _ _ | apply sT)))
        refine LR.back h2 ?_
        clear h2 h1
        repeat' (
          first
          | (apply CW.reg_heldC)
          | (
            first
            | (apply kp; iterate 2 exact rfl)
            | apply ja | apply jb | apply jg | apply jj | (apply je; exact rfl) | (apply jf; exact rfl) | apply jd | apply jh | apply ji | (apply jc; kernel_rfl) | apply jk | apply jl | apply jm | apply jn | apply jo | (apply jp; exact rfl) | apply jq | apply jr | apply js | apply jt | apply ju | apply jv | apply jw | apply kN | apply kM
            | (apply kf; iterate 2 exact rfl)
            | (apply ko; (· exact rfl); (· repeat (first | exact mH _ _ | apply mT)); iterate 2 exact rfl)
            | (apply ka; (· exact rfl); (· repeat (first | exact mH _ _ | apply mT)); iterate 2 exact rfl)
            | (apply kr; (· exact rfl); (· repeat (first | exact mH _ _ | apply mT)); iterate 3 exact rfl)
            | (apply ks; (· exact rfl); (· repeat (first | exact mH _ _ | apply mT)); iterate 2 exact rfl)
            | (apply kn; iterate 2 exact rfl)
            | (apply ke; iterate 2 exact rfl)
            | (apply kx; iterate 2 exact rfl)
            | (apply kc; iterate 2 exact rfl)
            | (apply kb; iterate 2 exact rfl)
            | (apply kg; iterate 2 exact rfl)
            | (apply kG; iterate 3 exact rfl)
            | (apply kB; (iterate 2 exact rfl); intro _)
            | (apply kA; exact rfl; intro _)
            | (apply kL; (iterate 3 exact rfl); (· repeat (first | exact BS.nil _ | (apply BS.int; exact rfl) | (apply BS.ptr; exact rfl) | (apply BS.slice; exact rfl) | (apply BS.agg; iterate 2 exact rfl))); intro _)
            | (apply kT; (iterate 2 exact rfl); (· repeat (first | exact sH _ _ _ | apply sT)); iterate 2 exact rfl)
            | (apply kS; (iterate 2 exact rfl); (· repeat (first | exact sH _ _ _ | apply sT)); exact rfl)
            | (apply kh; (iterate 2 exact rfl); (first | decide | omega); exact rfl)
            | (apply kl; (iterate 2 exact rfl); (first | decide | omega); exact rfl)
            )
          | (apply kq; (· exact rfl); (· intro w1 h1; exact CallsTo.q (g44 X.d.x.k G.p w1) h1))
          | (apply kq; (· exact rfl); (· intro w1 h1; have hq := CallsTo.q (d17 (fromM (itemM G X.d.x) X.d.x.k) a1 c1 w1 (h1.rd_of_own (by (repeat (first | exact mH _ _ | apply mT)))) (fun e => (ownsRow_some (h1.holds (osl (.slice a1 (fromM (itemM G X.d.x) X.d.x.k).body.length c1) 5 1 (fromM (itemM G X.d.x) X.d.x.k).body.length (bv (fromM (itemM G X.d.x) X.d.x.k).body)) (by (repeat (first | exact mH _ _ | apply mT)))) e).2) (by show (itemM G X.d.x).body.length ≤ _; omega) hel.2) h1; rw [hck] at hq; show CallsTo Try.prog 43 [(fromM (itemM G X.d.x) X.d.x.k).val a1 c1] w1 _; exact hq))
          | ((first | (apply kR; (· exact rfl); (· exact rfl)) | (apply kQ; (· exact rfl))); all_goals (intro hc; try simp only [decide_eq_true_eq, decide_eq_false_iff_not, Bool.not_eq_true', Bool.not_eq_false', Bool.not_eq_true, Bool.not_eq_false, Bool.not_true, Bool.not_false, Int.not_lt, Int.not_le, List.cons.injEq, and_true, beq_iff_eq, beq_eq_false_iff_ne] at hc; try (exfalso; first | contradiction | omega)))
          )
        all_goals (try (exfalso; revert hc; first | (simp [fromM]; done) | omega))
        repeat' (
          first
          | (apply CW.reg_heldC)
          | (
            first
            | (apply kp; iterate 2 exact rfl)
            | apply ja | apply jb | apply jg | apply jj | (apply je; exact rfl) | (apply jf; exact rfl) | apply jd | apply jh | apply ji | (apply jc; kernel_rfl) | apply jk | apply jl | apply jm | apply jn | apply jo | (apply jp; exact rfl) | apply jq | apply jr | apply js | apply jt | apply ju | apply jv | apply jw | apply kN | apply kM
            | (apply kf; iterate 2 exact rfl)
            | (apply ko; (· exact rfl); (· repeat (first | exact mH _ _ | apply mT)); iterate 2 exact rfl)
            | (apply ka; (· exact rfl); (· repeat (first | exact mH _ _ | apply mT)); iterate 2 exact rfl)
            | (apply kr; (· exact rfl); (· repeat (first | exact mH _ _ | apply mT)); iterate 3 exact rfl)
            | (apply ks; (· exact rfl); (· repeat (first | exact mH _ _ | apply mT)); iterate 2 exact rfl)
            | (apply kn; iterate 2 exact rfl)
            | (apply ke; iterate 2 exact rfl)
            | (apply kx; iterate 2 exact rfl)
            | (apply kc; iterate 2 exact rfl)
            | (apply kb; iterate 2 exact rfl)
            | (apply kg; iterate 2 exact rfl)
            | (apply kG; iterate 3 exact rfl)
            | (apply kB; (iterate 2 exact rfl); intro _)
            | (apply kA; exact rfl; intro _)
            | (apply kL; (iterate 3 exact rfl); (· repeat (first | exact BS.nil _ | (apply BS.int; exact rfl) | (apply BS.ptr; exact rfl) | (apply BS.slice; exact rfl) | (apply BS.agg; iterate 2 exact rfl))); intro _)
            | (apply kT; (iterate 2 exact rfl); (· repeat (first | exact sH _ _ _ | apply sT)); iterate 2 exact rfl)
            | (apply kS; (iterate 2 exact rfl); (· repeat (first | exact sH _ _ _ | apply sT)); exact rfl)
            | (apply kh; (iterate 2 exact rfl); (first | decide | omega); exact rfl)
            | (apply kl; (iterate 2 exact rfl); (first | decide | omega); exact rfl)
            )
          | ((first | (apply kR; (· exact rfl); (· exact rfl)) | (apply kQ; (· exact rfl))); all_goals (intro hc; try simp only [decide_eq_true_eq, decide_eq_false_iff_not, Bool.not_eq_true', Bool.not_eq_false', Bool.not_eq_true, Bool.not_eq_false, Bool.not_true, Bool.not_false, Int.not_lt, Int.not_le, List.cons.injEq, and_true, beq_iff_eq, beq_eq_false_iff_ne] at hc; try (exfalso; first | contradiction | omega)))
          )
        all_goals (
          apply DW.quiet [0, 2]
          · decide +kernel
          · first | exact fun _ h => h | exact fun _ h => St.sub h (by repeat (first | exact List.Sublist.refl _ | apply List.Sublist.cons_cons | apply List.Sublist.cons))
          repeat' (
            first
            | (apply yp; iterate 3 exact rfl)
            | (apply QL.ev; exact rfl
               · first
                 | (apply Ev.load_own; (· exact rfl); (· repeat (first | exact mH _ _ | apply mT)); exact rfl)
                 | (apply Ev.load_agg; (· exact rfl); (· repeat (first | exact mH _ _ | apply mT)); exact rfl)
                 | (apply Ev.load_rdq; (· exact rfl); (· repeat (first | exact mH _ _ | apply mT)); iterate 2 exact rfl)
                 | (apply Ev.load_ardq; (· exact rfl); (· repeat (first | exact mH _ _ | apply mT)); exact rfl)
                 | (apply Ev.fieldAddr; exact rfl)
                 | (apply Ev.len; exact rfl)
                 | (apply EqOf.eq; exact rfl)
                 | (apply EqOf.ne; exact rfl)
                 | (apply Ev.conv; exact rfl)
                 | (apply Ev.buildN; exact rfl)
                 | (apply Ev.shr; (iterate 2 exact rfl); first | decide | omega)
                 | (apply Ev.shl; (iterate 2 exact rfl); first | decide | omega)
               · exact rfl)
            | (apply yq; iterate 5 exact rfl)
            | (apply QL.evg; iterate 3 exact rfl
               · first
                 | (apply Ev.load_own; (· exact rfl); (· repeat (first | exact mH _ _ | apply mT)); exact rfl)
                 | (apply Ev.load_agg; (· exact rfl); (· repeat (first | exact mH _ _ | apply mT)); exact rfl)
                 | (apply Ev.load_rdq; (· exact rfl); (· repeat (first | exact mH _ _ | apply mT)); iterate 2 exact rfl)
                 | (apply Ev.load_ardq; (· exact rfl); (· repeat (first | exact mH _ _ | apply mT)); exact rfl)
                 | (apply Ev.fieldAddr; exact rfl)
                 | (apply Ev.len; exact rfl)
                 | (apply EqOf.eq; exact rfl)
                 | (apply EqOf.ne; exact rfl)
                 | (apply Ev.conv; exact rfl)
                 | (apply Ev.buildN; exact rfl)
                 | (apply Ev.shr; (iterate 2 exact rfl); first | decide | omega)
                 | (apply Ev.shl; (iterate 2 exact rfl); first | decide | omega)
               · exact rfl)
            | (apply yn; iterate 4 exact rfl)
            | ((apply QL.split; (· exact rfl); (· exact rfl); (· exact rfl)); all_goals (intro hc; try simp only [decide_eq_true_eq, decide_eq_false_iff_not, Bool.not_eq_true', Bool.not_eq_false', Bool.not_eq_true, Bool.not_eq_false, Bool.not_true, Bool.not_false, Int.not_lt, Int.not_le, List.cons.injEq, and_true, beq_iff_eq, beq_eq_false_iff_ne] at hc; try (exfalso; first | contradiction | omega)))
            | apply QL.nil
            )
          all_goals (show DW _ _ _ _ _ _ _ _))
        all_goals (
          apply DW.loud 1
          · exact rfl
          · decide +kernel
          repeat' (
            first
            | (apply kg; iterate 2 exact rfl)
            | (apply kG; iterate 3 exact rfl)
            | apply kM
            | (
              first
              | (apply kp; iterate 2 exact rfl)
              | (apply ko; (· exact rfl); (· repeat (first | exact mH _ _ | apply mT)); iterate 2 exact rfl)
              | (apply ka; (· exact rfl); (· repeat (first | exact mH _ _ | apply mT)); iterate 2 exact rfl)
              | (apply kL; (iterate 3 exact rfl); (· repeat (first | exact BS.nil _ | (apply BS.int; exact rfl) | (apply BS.ptr; exact rfl) | (apply BS.slice; exact rfl) | (apply BS.agg; iterate 2 exact rfl))); intro _)
              | (apply kT; (iterate 2 exact rfl); (· repeat (first | exact sH _ _ _ | apply sT)); iterate 2 exact rfl)
              | (apply kS; (iterate 2 exact rfl); (· repeat (first | exact sH _ _ _ | apply sT)); exact rfl)
              | (apply kB; (iterate 2 exact rfl); intro _)
              | (apply kA; exact rfl; intro _)
              )
            | (apply kq; (· exact rfl); (· intro w1 h1; exact CallsTo.q (g45 bg ({ G with p := X.d.x.k }) w1 (h1.rd_of_blk (by (repeat (first | exact mH _ _ | apply mT)))) (by show G.node ≠ 0; omega)) h1))
            )
          all_goals (refine At.stage_same (fun _ h => St.sub h (by repeat (first | exact List.Sublist.refl _ | apply List.Sublist.cons_cons | apply List.Sublist.cons))) ?_))
        all_goals (
          apply DW.quiet [3]
          · decide +kernel
          · first | exact fun _ h => h | exact fun _ h => St.sub h (by repeat (first | exact List.Sublist.refl _ | apply List.Sublist.cons_cons | apply List.Sublist.cons))
          repeat' (
            first
            | (apply yp; iterate 3 exact rfl)
            | (apply QL.ev; exact rfl
               · first
                 | (apply Ev.load_own; (· exact rfl); (· repeat (first | exact mH _ _ | apply mT)); exact rfl)
                 | (apply Ev.load_agg; (· exact rfl); (· repeat (first | exact mH _ _ | apply mT)); exact rfl)
                 | (apply Ev.load_rdq; (· exact rfl); (· repeat (first | exact mH _ _ | apply mT)); iterate 2 exact rfl)
                 | (apply Ev.load_ardq; (· exact rfl); (· repeat (first | exact mH _ _ | apply mT)); exact rfl)
                 | (apply Ev.fieldAddr; exact rfl)
                 | (apply Ev.len; exact rfl)
                 | (apply EqOf.eq; exact rfl)
                 | (apply EqOf.ne; exact rfl)
                 | (apply Ev.conv; exact rfl)
                 | (apply Ev.buildN; exact rfl)
                 | (apply Ev.shr; (iterate 2 exact rfl); first | decide | omega)
                 | (apply Ev.shl; (iterate 2 exact rfl); first | decide | omega)
               · exact rfl)
            | (apply yq; iterate 5 exact rfl)
            | (apply QL.evg; iterate 3 exact rfl
               · first
                 | (apply Ev.load_own; (· exact rfl); (· repeat (first | exact mH _ _ | apply mT)); exact rfl)
                 | (apply Ev.load_agg; (· exact rfl); (· repeat (first | exact mH _ _ | apply mT)); exact rfl)
                 | (apply Ev.load_rdq; (· exact rfl); (· repeat (first | exact mH _ _ | apply mT)); iterate 2 exact rfl)
                 | (apply Ev.load_ardq; (· exact rfl); (· repeat (first | exact mH _ _ | apply mT)); exact rfl)
                 | (apply Ev.fieldAddr; exact rfl)
                 | (apply Ev.len; exact rfl)
                 | (apply EqOf.eq; exact rfl)
                 | (apply EqOf.ne; exact rfl)
                 | (apply Ev.conv; exact rfl)
                 | (apply Ev.buildN; exact rfl)
                 | (apply Ev.shr; (iterate 2 exact rfl); first | decide | omega)
                 | (apply Ev.shl; (iterate 2 exact rfl); first | decide | omega)
               · exact rfl)
            | (apply yn; iterate 4 exact rfl)
            | ((apply QL.split; (· exact rfl); (· exact rfl); (· exact rfl)); all_goals (intro hc; try simp only [decide_eq_true_eq, decide_eq_false_iff_not, Bool.not_eq_true', Bool.not_eq_false', Bool.not_eq_true, Bool.not_eq_false, Bool.not_true, Bool.not_false, Int.not_lt, Int.not_le, List.cons.injEq, and_true, beq_iff_eq, beq_eq_false_iff_ne] at hc; try (exfalso; first | contradiction | omega)))
            | apply QL.nil
            )
          all_goals (show DW _ _ _ _ _ _ _ _))
        all_goals (first | (apply DW.done_thn; (· decide +kernel)) | (apply DW.done; (· decide +kernel)))
        repeat' (
          first
          | (
            first
            | (apply kp; iterate 2 exact rfl)
            | apply ja | apply jb | apply jg | apply jj | (apply je; exact rfl) | (apply jf; exact rfl) | apply jd | apply jh | apply ji | (apply jc; kernel_rfl) | apply jk | apply jl | apply jm | apply jn | apply jo | (apply jp; exact rfl) | apply jq | apply jr | apply js | apply jt | apply ju | apply jv | apply jw | apply kN | apply kM
            | (apply kf; iterate 2 exact rfl)
            | (apply ko; (· exact rfl); (· repeat (first | exact mH _ _ | apply mT)); iterate 2 exact rfl)
            | (apply ka; (· exact rfl); (· repeat (first | exact mH _ _ | apply mT)); iterate 2 exact rfl)
            | (apply kr; (· exact rfl); (· repeat (first | exact mH _ _ | apply mT)); iterate 3 exact rfl)
            | (apply ks; (· exact rfl); (· repeat (first | exact mH _ _ | apply mT)); iterate 2 exact rfl)
            | (apply kn; iterate 2 exact rfl)
            | (apply ke; iterate 2 exact rfl)
            | (apply kx; iterate 2 exact rfl)
            | (apply kc; iterate 2 exact rfl)
            | (apply kb; iterate 2 exact rfl)
            | (apply kg; iterate 2 exact rfl)
            | (apply kG; iterate 3 exact rfl)
            | (apply kB; (iterate 2 exact rfl); intro _)
            | (apply kA; exact rfl; intro _)
            | (apply kL; (iterate 3 exact rfl); (· repeat (first | exact BS.nil _ | (apply BS.int; exact rfl) | (apply BS.ptr; exact rfl) | (apply BS.slice; exact rfl) | (apply BS.agg; iterate 2 exact rfl))); intro _)
            | (apply kT; (iterate 2 exact rfl); (· repeat (first | exact sH _ _ _ | apply sT)); iterate 2 exact rfl)
            | (apply kS; (iterate 2 exact rfl); (· repeat (first | exact sH _ _ _ | apply sT)); exact rfl)
            | (apply kh; (iterate 2 exact rfl); (first | decide | omega); exact rfl)
            | (apply kl; (iterate 2 exact rfl); (first | decide | omega); exact rfl)
            )
          | (apply LR.ev; (· apply Ev.add; (· exact rfl); (· exact rfl); (· first | omega | (dsimp only; omega)); (· first | omega | (dsimp only; omega))); (· exact rfl))
          | ((first | (apply kR; (· exact rfl); (· exact rfl)) | (apply kQ; (· exact rfl))); all_goals (intro hc; try simp only [decide_eq_true_eq, decide_eq_false_iff_not, Bool.not_eq_true', Bool.not_eq_false', Bool.not_eq_true, Bool.not_eq_false, Bool.not_true, Bool.not_false, Int.not_lt, Int.not_le, List.cons.injEq, and_true, beq_iff_eq, beq_eq_false_iff_ne] at hc; try (exfalso; first | contradiction | omega)))
          )
        all_goals (try (exfalso; revert hc; simp; done))
        refine At.again (i + 1, { G with p := X.d.x.k }) ⟨hi1, hG⟩ ?_ ?_ ?_ ?_
        · (repeat (first | exact Out.refl _ _ | exact Out.mix | (apply Out.upd; (· exact rfl)) | (apply Out.updL; (· exact rfl)) | (apply Out.mixs; (· exact rfl))))
        · exact ⟨rfl, trivial⟩
        · intro w' hw'
          refine hw'.sub ?_
          repeat (first | exact List.Sublist.refl _ | apply List.Sublist.cons_cons | apply List.Sublist.cons)
          done
        · exact hdec
    · cases hwb : aboveB X.d.x.k G.w
      · have e : wantS G X.d.x.k = G := by unfold wantS; rw [if_neg (by rw [hwb]; simp)]
        repeat' (
          first
          | (
            first
            | (apply kp; iterate 2 exact rfl)
            | apply ja | apply jb | apply jg | apply jj | (apply je; exact rfl) | (apply jf; exact rfl) | apply jd | apply jh | apply ji | (apply jc; kernel_rfl) | apply jk | apply jl | apply jm | apply jn | apply jo | (apply jp; exact rfl) | apply jq | apply jr | apply js | apply jt | apply ju | apply jv | apply jw | apply kN | apply kM
            | (apply kf; iterate 2 exact rfl)
            | (apply ko; (· exact rfl); (· repeat (first | exact mH _ _ | apply mT)); iterate 2 exact rfl)
            | (apply ka; (· exact rfl); (· repeat (first | exact mH _ _ | apply mT)); iterate 2 exact rfl)
            | (apply kr; (· exact rfl); (· repeat (first | exact mH _ _ | apply mT)); iterate 3 exact rfl)
            | (apply ks; (· exact rfl); (· repeat (first | exact mH _ _ | apply mT)); iterate 2 exact rfl)
            | (apply kn; iterate 2 exact rfl)
            | (apply ke; iterate 2 exact rfl)
            | (apply kx; iterate 2 exact rfl)
            | (apply kc; iterate 2 exact rfl)
            | (apply kb; iterate 2 exact rfl)
            | (apply kg; iterate 2 exact rfl)
            | (apply kG; iterate 3 exact rfl)
            | (apply kB; (iterate 2 exact rfl); intro _)
            | (apply kA; exact rfl; intro _)
            | (apply kL; (iterate 3 exact rfl); (· repeat (first | exact BS.nil _ | (apply BS.int; exact rfl) | (apply BS.ptr; exact rfl) | (apply BS.slice; exact rfl) | (apply BS.agg; iterate 2 exact rfl))); intro _)
            | (apply kT; (iterate 2 exact rfl); (· repeat (first | exact sH _ _ _ | apply sT)); iterate 2 exact rfl)
            | (apply kS; (iterate 2 exact rfl); (· repeat (first | exact sH _ _ _ | apply sT)); exact rfl)
            | (apply kh; (iterate 2 exact rfl); (first | decide | omega); exact rfl)
            | (apply kl; (iterate 2 exact rfl); (first | decide | omega); exact rfl)
            )
          | (apply LR.ev; (· apply Ev.indexAddr; (· exact rfl); (· exact rfl); (· first | omega | (dsimp only; omega)); (· first | omega | (dsimp only; omega))); (· exact rfl))
          | (apply LR.ev; (· first | (apply Ev.load_agg_at (cs := X.row); (· exact rfl); (· exact rfl); (· intro w' hw'; exact ldr w' (hw'.rd_of (by (repeat (first | exact mH _ _ | apply mT)))) _ (by simp))) | (apply Ev.load_agg_at (cs := X.d.x.k.cells); (· exact rfl); (· exact rfl); (· intro w' hw'; exact ldk w' (hw'.rd_of (by (repeat (first | exact mH _ _ | apply mT)))) _ (by simp))) | (apply Ev.load_agg_at (cs := X.d.x.cells X.a X.c); (· exact rfl); (· exact rfl); (· intro w' hw'; exact ldi w' (hw'.rd_of (by (repeat (first | exact mH _ _ | apply mT)))) _ (by simp)))); (· exact rfl))
          | (apply kq; (· exact rfl); (· intro w1 h1; have hq := CallsTo.q (hg41 w1) h1; rw [hk] at hq; exact hq))
          | ((first | (apply kR; (· exact rfl); (· exact rfl)) | (apply kQ; (· exact rfl))); all_goals (intro hc; try simp only [decide_eq_true_eq, decide_eq_false_iff_not, Bool.not_eq_true', Bool.not_eq_false', Bool.not_eq_true, Bool.not_eq_false, Bool.not_true, Bool.not_false, Int.not_lt, Int.not_le, List.cons.injEq, and_true, beq_iff_eq, beq_eq_false_iff_ne] at hc; try (exfalso; first | contradiction | omega)))
          )
        apply LR.call
        · exact rfl
        intro w1 h1
        have hh := g34 bg G X.d.x.k w1 (h1.own_at (by (repeat (first | exact mH _ _ | apply mT)))) (by omega)
        rw [e] at hh
        refine CallsTo.mono hh ?_
        clear hh
        rintro v w2 st
        have h2 := h1.one' st rfl (Asrt.dep_own _ _) (by (repeat (first | exact sH _ _ _ | apply sT)))
        refine LR.back h2 ?_
        clear h2 h1
        repeat' (
          first
          | (apply CW.reg_heldC)
          | (
            first
            | (apply kp; iterate 2 exact rfl)
            | apply ja | apply jb | apply jg | apply jj | (apply je; exact rfl) | (apply jf; exact rfl) | apply jd | apply jh | apply ji | (apply jc; kernel_rfl) | apply jk | apply jl | apply jm | apply jn | apply jo | (apply jp; exact rfl) | apply jq | apply jr | apply js | apply jt | apply ju | apply jv | apply jw | apply kN | apply kM
            | (apply kf; iterate 2 exact rfl)
            | (apply ko; (· exact rfl); (· repeat (first | exact mH _ _ | apply mT)); iterate 2 exact rfl)
            | (apply ka; (· exact rfl); (· repeat (first | exact mH _ _ | apply mT)); iterate 2 exact rfl)
            | (apply kr; (· exact rfl); (· repeat (first | exact mH _ _ | apply mT)); iterate 3 exact rfl)
            | (apply ks; (· exact rfl); (· repeat (first | exact mH _ _ | apply mT)); iterate 2 exact rfl)
            | (apply kn; iterate 2 exact rfl)
            | (apply ke; iterate 2 exact rfl)
            | (apply kx; iterate 2 exact rfl)
            | (apply kc; iterate 2 exact rfl)
            | (apply kb; iterate 2 exact rfl)
            | (apply kg; iterate 2 exact rfl)
            | (apply kG; iterate 3 exact rfl)
            | (apply kB; (iterate 2 exact rfl); intro _)
            | (apply kA; exact rfl; intro _)
            | (apply kL; (iterate 3 exact rfl); (· repeat (first | exact BS.nil _ | (apply BS.int; exact rfl) | (apply BS.ptr; exact rfl) | (apply BS.slice; exact rfl) | (apply BS.agg; iterate 2 exact rfl))); intro _)
            | (apply kT; (iterate 2 exact rfl); (· repeat (first | exact sH _ _ _ | apply sT)); iterate 2 exact rfl)
            | (apply kS; (iterate 2 exact rfl); (· repeat (first | exact sH _ _ _ | apply sT)); exact rfl)
            | (apply kh; (iterate 2 exact rfl); (first | decide | omega); exact rfl)
            | (apply kl; (iterate 2 exact rfl); (first | decide | omega); exact rfl)
            )
          | ((first | (apply kR; (· exact rfl); (· exact rfl)) | (apply kQ; (· exact rfl))); all_goals (intro hc; try simp only [decide_eq_true_eq, decide_eq_false_iff_not, Bool.not_eq_true', Bool.not_eq_false', Bool.not_eq_true, Bool.not_eq_false, Bool.not_true, Bool.not_false, Int.not_lt, Int.not_le, List.cons.injEq, and_true, beq_iff_eq, beq_eq_false_iff_ne] at hc; try (exfalso; first | contradiction | omega)))
          )
        all_goals (
          apply DW.quiet [0, 2]
          · decide +kernel
          · first | exact fun _ h => h | exact fun _ h => St.sub h (by repeat (first | exact List.Sublist.refl _ | apply List.Sublist.cons_cons | apply List.Sublist.cons))
          repeat' (
            first
            | (apply yp; iterate 3 exact rfl)
            | (apply QL.ev; exact rfl
               · first
                 | (apply Ev.load_own; (· exact rfl); (· repeat (first | exact mH _ _ | apply mT)); exact rfl)
                 | (apply Ev.load_agg; (· exact rfl); (· repeat (first | exact mH _ _ | apply mT)); exact rfl)
                 | (apply Ev.load_rdq; (· exact rfl); (· repeat (first | exact mH _ _ | apply mT)); iterate 2 exact rfl)
                 | (apply Ev.load_ardq; (· exact rfl); (· repeat (first | exact mH _ _ | apply mT)); exact rfl)
                 | (apply Ev.fieldAddr; exact rfl)
                 | (apply Ev.len; exact rfl)
                 | (apply EqOf.eq; exact rfl)
                 | (apply EqOf.ne; exact rfl)
                 | (apply Ev.conv; exact rfl)
                 | (apply Ev.buildN; exact rfl)
                 | (apply Ev.shr; (iterate 2 exact rfl); first | decide | omega)
                 | (apply Ev.shl; (iterate 2 exact rfl); first | decide | omega)
               · exact rfl)
            | (apply yq; iterate 5 exact rfl)
            | (apply QL.evg; iterate 3 exact rfl
               · first
                 | (apply Ev.load_own; (· exact rfl); (· repeat (first | exact mH _ _ | apply mT)); exact rfl)
                 | (apply Ev.load_agg; (· exact rfl); (· repeat (first | exact mH _ _ | apply mT)); exact rfl)
                 | (apply Ev.load_rdq; (· exact rfl); (· repeat (first | exact mH _ _ | apply mT)); iterate 2 exact rfl)
                 | (apply Ev.load_ardq; (· exact rfl); (· repeat (first | exact mH _ _ | apply mT)); exact rfl)
                 | (apply Ev.fieldAddr; exact rfl)
                 | (apply Ev.len; exact rfl)
                 | (apply EqOf.eq; exact rfl)
                 | (apply EqOf.ne; exact rfl)
                 | (apply Ev.conv; exact rfl)
                 | (apply Ev.buildN; exact rfl)
                 | (apply Ev.shr; (iterate 2 exact rfl); first | decide | omega)
                 | (apply Ev.shl; (iterate 2 exact rfl); first | decide | omega)
               · exact rfl)
            | (apply yn; iterate 4 exact rfl)
            | ((apply QL.split; (· exact rfl); (· exact rfl); (· exact rfl)); all_goals (intro hc; try simp only [decide_eq_true_eq, decide_eq_false_iff_not, Bool.not_eq_true', Bool.not_eq_false', Bool.not_eq_true, Bool.not_eq_false, Bool.not_true, Bool.not_false, Int.not_lt, Int.not_le, List.cons.injEq, and_true, beq_iff_eq, beq_eq_false_iff_ne] at hc; try (exfalso; first | contradiction | omega)))
            | apply QL.nil
            )
          all_goals (show DW _ _ _ _ _ _ _ _))
        all_goals (
          apply DW.loud 1
          · exact rfl
          · decide +kernel
          repeat' (
            first
            | (apply kg; iterate 2 exact rfl)
            | (apply kG; iterate 3 exact rfl)
            | apply kM
            | (
              first
              | (apply kp; iterate 2 exact rfl)
              | (apply ko; (· exact rfl); (· repeat (first | exact mH _ _ | apply mT)); iterate 2 exact rfl)
              | (apply ka; (· exact rfl); (· repeat (first | exact mH _ _ | apply mT)); iterate 2 exact rfl)
              | (apply kL; (iterate 3 exact rfl); (· repeat (first | exact BS.nil _ | (apply BS.int; exact rfl) | (apply BS.ptr; exact rfl) | (apply BS.slice; exact rfl) | (apply BS.agg; iterate 2 exact rfl))); intro _)
              | (apply kT; (iterate 2 exact rfl); (· repeat (first | exact sH _ _ _ | apply sT)); iterate 2 exact rfl)
              | (apply kS; (iterate 2 exact rfl); (· repeat (first | exact sH _ _ _ | apply sT)); exact rfl)
              | (apply kB; (iterate 2 exact rfl); intro _)
              | (apply kA; exact rfl; intro _)
              )
            | (apply kq; (· exact rfl); (· intro w1 h1; exact CallsTo.q (g45 bg (G) w1 (h1.rd_of_blk (by (repeat (first | exact mH _ _ | apply mT)))) (by show G.node ≠ 0; omega)) h1))
            )
          all_goals (refine At.stage_same (fun _ h => St.sub h (by repeat (first | exact List.Sublist.refl _ | apply List.Sublist.cons_cons | apply List.Sublist.cons))) ?_))
        all_goals (
          apply DW.quiet [3]
          · decide +kernel
          · first | exact fun _ h => h | exact fun _ h => St.sub h (by repeat (first | exact List.Sublist.refl _ | apply List.Sublist.cons_cons | apply List.Sublist.cons))
          repeat' (
            first
            | (apply yp; iterate 3 exact rfl)
            | (apply QL.ev; exact rfl
               · first
                 | (apply Ev.load_own; (· exact rfl); (· repeat (first | exact mH _ _ | apply mT)); exact rfl)
                 | (apply Ev.load_agg; (· exact rfl); (· repeat (first | exact mH _ _ | apply mT)); exact rfl)
                 | (apply Ev.load_rdq; (· exact rfl); (· repeat (first | exact mH _ _ | apply mT)); iterate 2 exact rfl)
                 | (apply Ev.load_ardq; (· exact rfl); (· repeat (first | exact mH _ _ | apply mT)); exact rfl)
                 | (apply Ev.fieldAddr; exact rfl)
                 | (apply Ev.len; exact rfl)
                 | (apply EqOf.eq; exact rfl)
                 | (apply EqOf.ne; exact rfl)
                 | (apply Ev.conv; exact rfl)
                 | (apply Ev.buildN; exact rfl)
                 | (apply Ev.shr; (iterate 2 exact rfl); first | decide | omega)
                 | (apply Ev.shl; (iterate 2 exact rfl); first | decide | omega)
               · exact rfl)
            | (apply yq; iterate 5 exact rfl)
            | (apply QL.evg; iterate 3 exact rfl
               · first
                 | (apply Ev.load_own; (· exact rfl); (· repeat (first | exact mH _ _ | apply mT)); exact rfl)
                 | (apply Ev.load_agg; (· exact rfl); (· repeat (first | exact mH _ _ | apply mT)); exact rfl)
                 | (apply Ev.load_rdq; (· exact rfl); (· repeat (first | exact mH _ _ | apply mT)); iterate 2 exact rfl)
                 | (apply Ev.load_ardq; (· exact rfl); (· repeat (first | exact mH _ _ | apply mT)); exact rfl)
                 | (apply Ev.fieldAddr; exact rfl)
                 | (apply Ev.len; exact rfl)
                 | (apply EqOf.eq; exact rfl)
                 | (apply EqOf.ne; exact rfl)
                 | (apply Ev.conv; exact rfl)
                 | (apply Ev.buildN; exact rfl)
                 | (apply Ev.shr; (iterate 2 exact rfl); first | decide | omega)
                 | (apply Ev.shl; (iterate 2 exact rfl); first | decide | omega)
               · exact rfl)
            | (apply yn; iterate 4 exact rfl)
            | ((apply QL.split; (· exact rfl); (· exact rfl); (· exact rfl)); all_goals (intro hc; try simp only [decide_eq_true_eq, decide_eq_false_iff_not, Bool.not_eq_true', Bool.not_eq_false', Bool.not_eq_true, Bool.not_eq_false, Bool.not_true, Bool.not_false, Int.not_lt, Int.not_le, List.cons.injEq, and_true, beq_iff_eq, beq_eq_false_iff_ne] at hc; try (exfalso; first | contradiction | omega)))
            | apply QL.nil
            )
          all_goals (show DW _ _ _ _ _ _ _ _))
        all_goals (first | (apply DW.done_thn; (· decide +kernel)) | (apply DW.done; (· decide +kernel)))
        repeat' (
          first
          | (
            first
            | (apply kp; iterate 2 exact rfl)
            | apply ja | apply jb | apply jg | apply jj | (apply je; exact rfl) | (apply jf; exact rfl) | apply jd | apply jh | apply ji | (apply jc; kernel_rfl) | apply jk | apply jl | apply jm | apply jn | apply jo | (apply jp; exact rfl) | apply jq | apply jr | apply js | apply jt | apply ju | apply jv | apply jw | apply kN | apply kM
            | (apply kf; iterate 2 exact rfl)
            | (apply ko; (· exact rfl); (· repeat (first | exact mH _ _ | apply mT)); iterate 2 exact rfl)
            | (apply ka; (· exact rfl); (· repeat (first | exact mH _ _ | apply mT)); iterate 2 exact rfl)
            | (apply kr; (· exact rfl); (· repeat (first | exact mH _ _ | apply mT)); iterate 3 exact rfl)
            | (apply ks; (· exact rfl); (· repeat (first | exact mH _ _ | apply mT)); iterate 2 exact rfl)
            | (apply kn; iterate 2 exact rfl)
            | (apply ke; iterate 2 exact rfl)
            | (apply kx; iterate 2 exact rfl)
            | (apply kc; iterate 2 exact rfl)
            | (apply kb; iterate 2 exact rfl)
            | (apply kg; iterate 2 exact rfl)
            | (apply kG; iterate 3 exact rfl)
            | (apply kB; (iterate 2 exact rfl); intro _)
            | (apply kA; exact rfl; intro _)
            | (apply kL; (iterate 3 exact rfl); (· repeat (first | exact BS.nil _ | (apply BS.int; exact rfl) | (apply BS.ptr; exact rfl) | (apply BS.slice; exact rfl) | (apply BS.agg; iterate 2 exact rfl))); intro _)
            | (apply kT; (iterate 2 exact rfl); (· repeat (first | exact sH _ _ _ | apply sT)); iterate 2 exact rfl)
            | (apply kS; (iterate 2 exact rfl); (· repeat (first | exact sH _ _ _ | apply sT)); exact rfl)
            | (apply kh; (iterate 2 exact rfl); (first | decide | omega); exact rfl)
            | (apply kl; (iterate 2 exact rfl); (first | decide | omega); exact rfl)
            )
          | (apply LR.ev; (· apply Ev.add; (· exact rfl); (· exact rfl); (· first | omega | (dsimp only; omega)); (· first | omega | (dsimp only; omega))); (· exact rfl))
          | ((first | (apply kR; (· exact rfl); (· exact rfl)) | (apply kQ; (· exact rfl))); all_goals (intro hc; try simp only [decide_eq_true_eq, decide_eq_false_iff_not, Bool.not_eq_true', Bool.not_eq_false', Bool.not_eq_true, Bool.not_eq_false, Bool.not_true, Bool.not_false, Int.not_lt, Int.not_le, List.cons.injEq, and_true, beq_iff_eq, beq_eq_false_iff_ne] at hc; try (exfalso; first | contradiction | omega)))
          )
        all_goals (try (exfalso; revert hc; simp; done))
        refine At.again (i + 1, G) ⟨hi1, hG⟩ ?_ ?_ ?_ ?_
        · (repeat (first | exact Out.refl _ _ | exact Out.mix | (apply Out.upd; (· exact rfl)) | (apply Out.updL; (· exact rfl)) | (apply Out.mixs; (· exact rfl))))
        · exact ⟨rfl, trivial⟩
        · intro w' hw'
          refine hw'.sub ?_
          repeat (first | exact List.Sublist.refl _ | apply List.Sublist.cons_cons | apply List.Sublist.cons)
          done
        · exact hdec
      · have e : wantS G X.d.x.k = { G with w := X.d.x.k } := by unfold wantS; rw [if_pos hwb]
        repeat' (
          first
          | (
            first
            | (apply kp; iterate 2 exact rfl)
            | apply ja | apply jb | apply jg | apply jj | (apply je; exact rfl) | (apply jf; exact rfl) | apply jd | apply jh | apply ji | (apply jc; kernel_rfl) | apply jk | apply jl | apply jm | apply jn | apply jo | (apply jp; exact rfl) | apply jq | apply jr | apply js | apply jt | apply ju | apply jv | apply jw | apply kN | apply kM
            | (apply kf; iterate 2 exact rfl)
            | (apply ko; (· exact rfl); (· repeat (first | exact mH _ _ | apply mT)); iterate 2 exact rfl)
            | (apply ka; (· exact rfl); (· repeat (first | exact mH _ _ | apply mT)); iterate 2 exact rfl)
            | (apply kr; (· exact rfl); (· repeat (first | exact mH _ _ | apply mT)); iterate 3 exact rfl)
            | (apply ks; (· exact rfl); (· repeat (first | exact mH _ _ | apply mT)); iterate 2 exact rfl)
            | (apply kn; iterate 2 exact rfl)
            | (apply ke; iterate 2 exact rfl)
            | (apply kx; iterate 2 exact rfl)
            | (apply kc; iterate 2 exact rfl)
            | (apply kb; iterate 2 exact rfl)
            | (apply kg; iterate 2 exact rfl)
            | (apply kG; iterate 3 exact rfl)
            | (apply kB; (iterate 2 exact rfl); intro _)
            | (apply kA; exact rfl; intro _)
            | (apply kL; (iterate 3 exact rfl); (· repeat (first | exact BS.nil _ | (apply BS.int; exact rfl) | (apply BS.ptr; exact rfl) | (apply BS.slice; exact rfl) | (apply BS.agg; iterate 2 exact rfl))); intro _)
            | (apply kT; (iterate 2 exact rfl); (· repeat (first | exact sH _ _ _ | apply sT)); iterate 2 exact rfl)
            | (apply kS; (iterate 2 exact rfl); (· repeat (first | exact sH _ _ _ | apply sT)); exact rfl)
            | (apply kh; (iterate 2 exact rfl); (first | decide | omega); exact rfl)
            | (apply kl; (iterate 2 exact rfl); (first | decide | omega); exact rfl)
            )
          | (apply LR.ev; (· apply Ev.indexAddr; (· exact rfl); (· exact rfl); (· first | omega | (dsimp only; omega)); (· first | omega | (dsimp only; omega))); (· exact rfl))
          | (apply LR.ev; (· first | (apply Ev.load_agg_at (cs := X.row); (· exact rfl); (· exact rfl); (· intro w' hw'; exact ldr w' (hw'.rd_of (by (repeat (first | exact mH _ _ | apply mT)))) _ (by simp))) | (apply Ev.load_agg_at (cs := X.d.x.k.cells); (· exact rfl); (· exact rfl); (· intro w' hw'; exact ldk w' (hw'.rd_of (by (repeat (first | exact mH _ _ | apply mT)))) _ (by simp))) | (apply Ev.load_agg_at (cs := X.d.x.cells X.a X.c); (· exact rfl); (· exact rfl); (· intro w' hw'; exact ldi w' (hw'.rd_of (by (repeat (first | exact mH _ _ | apply mT)))) _ (by simp)))); (· exact rfl))
          | (apply kq; (· exact rfl); (· intro w1 h1; have hq := CallsTo.q (hg41 w1) h1; rw [hk] at hq; exact hq))
          | ((first | (apply kR; (· exact rfl); (· exact rfl)) | (apply kQ; (· exact rfl))); all_goals (intro hc; try simp only [decide_eq_true_eq, decide_eq_false_iff_not, Bool.not_eq_true', Bool.not_eq_false', Bool.not_eq_true, Bool.not_eq_false, Bool.not_true, Bool.not_false, Int.not_lt, Int.not_le, List.cons.injEq, and_true, beq_iff_eq, beq_eq_false_iff_ne] at hc; try (exfalso; first | contradiction | omega)))
          )
        apply LR.call
        · exact rfl
        intro w1 h1
        have hh := g34 bg G X.d.x.k w1 (h1.own_at (by (repeat (first | exact mH _ _ | apply mT)))) (by omega)
        rw [e] at hh
        refine CallsTo.mono hh ?_
        clear hh
        rintro v w2 st
        have h2 := h1.one' st rfl (Asrt.dep_own _ _) (by (repeat (first | exact sH _ _ _ | apply sT)))
        refine LR.back h2 ?_
        clear h2 h1
        repeat' (
          first
          | (apply CW.reg_heldC)
          | (
            first
            | (apply kp; iterate 2 exact rfl)
            | apply ja | apply jb | apply jg | apply jj | (apply je; exact rfl) | (apply jf; exact rfl) | apply jd | apply jh | apply ji | (apply jc; kernel_rfl) | apply jk | apply jl | apply jm | apply jn | apply jo | (apply jp; exact rfl) | apply jq | apply jr | apply js | apply jt | apply ju | apply jv | apply jw | apply kN | apply kM
            | (apply kf; iterate 2 exact rfl)
            | (apply ko; (· exact rfl); (· repeat (first | exact mH _ _ | apply mT)); iterate 2 exact rfl)
            | (apply ka; (· exact rfl); (· repeat (first | exact mH _ _ | apply mT)); iterate 2 exact rfl)
            | (apply kr; (· exact rfl); (· repeat (first | exact mH _ _ | apply mT)); iterate 3 exact rfl)
            | (apply ks; (· exact rfl); (· repeat (first | exact mH _ _ | apply mT)); iterate 2 exact rfl)
            | (apply kn; iterate 2 exact rfl)
            | (apply ke; iterate 2 exact rfl)
            | (apply kx; iterate 2 exact rfl)
            | (apply kc; iterate 2 exact rfl)
            | (apply kb; iterate 2 exact rfl)
            | (apply kg; iterate 2 exact rfl)
            | (apply kG; iterate 3 exact rfl)
            | (apply kB; (iterate 2 exact rfl); intro _)
            | (apply kA; exact rfl; intro _)
            | (apply kL; (iterate 3 exact rfl); (· repeat (first | exact BS.nil _ | (apply BS.int; exact rfl) | (apply BS.ptr; exact rfl) | (apply BS.slice; exact rfl) | (apply BS.agg; iterate 2 exact rfl))); intro _)
            | (apply kT; (iterate 2 exact rfl); (· repeat (first | exact sH _ _ _ | apply sT)); iterate 2 exact rfl)
            | (apply kS; (iterate 2 exact rfl); (· repeat (first | exact sH _ _ _ | apply sT)); exact rfl)
            | (apply kh; (iterate 2 exact rfl); (first | decide | omega); exact rfl)
            | (apply kl; (iterate 2 exact rfl); (first | decide | omega); exact rfl)
            )
          | ((first | (apply kR; (· exact rfl); (· exact rfl)) | (apply kQ; (· exact rfl))); all_goals (intro hc; try simp only [decide_eq_true_eq, decide_eq_false_iff_not, Bool.not_eq_true', Bool.not_eq_false', Bool.not_eq_true, Bool.not_eq_false, Bool.not_true, Bool.not_false, Int.not_lt, Int.not_le, List.cons.injEq, and_true, beq_iff_eq, beq_eq_false_iff_ne] at hc; try (exfalso; first | contradiction | omega)))
          )
        all_goals (
          apply DW.quiet [0, 2]
          · decide +kernel
          · first | exact fun _ h => h | exact fun _ h => St.sub h (by repeat (first | exact List.Sublist.refl _ | apply List.Sublist.cons_cons | apply List.Sublist.cons))
          repeat' (
            first
            | (apply yp; iterate 3 exact rfl)
            | (apply QL.ev; exact rfl
               · first
                 | (apply Ev.load_own; (· exact rfl); (· repeat (first | exact mH _ _ | apply mT)); exact rfl)
                 | (apply Ev.load_agg; (· exact rfl); (· repeat (first | exact mH _ _ | apply mT)); exact rfl)
                 | (apply Ev.load_rdq; (· exact rfl); (· repeat (first | exact mH _ _ | apply mT)); iterate 2 exact rfl)
                 | (apply Ev.load_ardq; (· exact rfl); (· repeat (first | exact mH _ _ | apply mT)); exact rfl)
                 | (apply Ev.fieldAddr; exact rfl)
                 | (apply Ev.len; exact rfl)
                 | (apply EqOf.eq; exact rfl)
                 | (apply EqOf.ne; exact rfl)
                 | (apply Ev.conv; exact rfl)
                 | (apply Ev.buildN; exact rfl)
                 | (apply Ev.shr; (iterate 2 exact rfl); first | decide | omega)
                 | (apply Ev.shl; (iterate 2 exact rfl); first | decide | omega)
               · exact rfl)
            | (apply yq; iterate 5 exact rfl)
            | (apply QL.evg; iterate 3 exact rfl
               · first
                 | (apply Ev.load_own; (· exact rfl); (· repeat (first | exact mH _ _ | apply mT)); exact rfl)
                 | (apply Ev.load_agg; (· exact rfl); (· repeat (first | exact mH _ _ | apply mT)); exact rfl)
                 | (apply Ev.load_rdq; (· exact rfl); (· repeat (first | exact mH _ _ | apply mT)); iterate 2 exact rfl)
                 | (apply Ev.load_ardq; (· exact rfl); (· repeat (first | exact mH _ _ | apply mT)); exact rfl)
                 | (apply Ev.fieldAddr; exact rfl)
                 | (apply Ev.len; exact rfl)
                 | (apply EqOf.eq; exact rfl)
                 | (apply EqOf.ne; exact rfl)
                 | (apply Ev.conv; exact rfl)
                 | (apply Ev.buildN; exact rfl)
                 | (apply Ev.shr; (iterate 2 exact rfl); first | decide | omega)
                 | (apply Ev.shl; (iterate 2 exact rfl); first | decide | omega)
               · exact rfl)
            | (apply yn; iterate 4 exact rfl)
            | ((apply QL.split; (· exact rfl); (· exact rfl); (· exact rfl)); all_goals (intro hc; try simp only [decide_eq_true_eq, decide_eq_false_iff_not, Bool.not_eq_true', Bool.not_eq_false', Bool.not_eq_true, Bool.not_eq_false, Bool.not_true, Bool.not_false, Int.not_lt, Int.not_le, List.cons.injEq, and_true, beq_iff_eq, beq_eq_false_iff_ne] at hc; try (exfalso; first | contradiction | omega)))
            | apply QL.nil
            )
          all_goals (show DW _ _ _ _ _ _ _ _))
        all_goals (
          apply DW.loud 1
          · exact rfl
          · decide +kernel
          repeat' (
            first
            | (apply kg; iterate 2 exact rfl)
            | (apply kG; iterate 3 exact rfl)
            | apply kM
            | (
              first
              | (apply kp; iterate 2 exact rfl)
              | (apply ko; (· exact rfl); (· repeat (first | exact mH _ _ | apply mT)); iterate 2 exact rfl)
              | (apply ka; (· exact rfl); (· repeat (first | exact mH _ _ | apply mT)); iterate 2 exact rfl)
              | (apply kL; (iterate 3 exact rfl); (· repeat (first | exact BS.nil _ | (apply BS.int; exact rfl) | (apply BS.ptr; exact rfl) | (apply BS.slice; exact rfl) | (apply BS.agg; iterate 2 exact rfl))); intro _)
              | (apply kT; (iterate 2 exact rfl); (· repeat (first | exact sH _ _ _ | apply sT)); iterate 2 exact rfl)
              | (apply kS; (iterate 2 exact rfl); (· repeat (first | exact sH _ _ _ | apply sT)); exact rfl)
              | (apply kB; (iterate 2 exact rfl); intro _)
              | (apply kA; exact rfl; intro _)
              )
            | (apply kq; (· exact rfl); (· intro w1 h1; exact CallsTo.q (g45 bg ({ G with w := X.d.x.k }) w1 (h1.rd_of_blk (by (repeat (first | exact mH _ _ | apply mT)))) (by show G.node ≠ 0; omega)) h1))
            )
          all_goals (refine At.stage_same (fun _ h => St.sub h (by repeat (first | exact List.Sublist.refl _ | apply List.Sublist.cons_cons | apply List.Sublist.cons))) ?_))
        all_goals (
          apply DW.quiet [3]
          · decide +kernel
          · first | exact fun _ h => h | exact fun _ h => St.sub h (by repeat (first | exact List.Sublist.refl _ | apply List.Sublist.cons_cons | apply List.Sublist.cons))
          repeat' (
            first
            | (apply yp; iterate 3 exact rfl)
            | (apply QL.ev; exact rfl
               · first
                 | (apply Ev.load_own; (· exact rfl); (· repeat (first | exact mH _ _ | apply mT)); exact rfl)
                 | (apply Ev.load_agg; (· exact rfl); (· repeat (first | exact mH _ _ | apply mT)); exact rfl)
                 | (apply Ev.load_rdq; (· exact rfl); (· repeat (first | exact mH _ _ | apply mT)); iterate 2 exact rfl)
                 | (apply Ev.load_ardq; (· exact rfl); (· repeat (first | exact mH _ _ | apply mT)); exact rfl)
                 | (apply Ev.fieldAddr; exact rfl)
                 | (apply Ev.len; exact rfl)
                 | (apply EqOf.eq; exact rfl)
                 | (apply EqOf.ne; exact rfl)
                 | (apply Ev.conv; exact rfl)
                 | (apply Ev.buildN; exact rfl)
                 | (apply Ev.shr; (iterate 2 exact rfl); first | decide | omega)
                 | (apply Ev.shl; (iterate 2 exact rfl); first | decide | omega)
               · exact rfl)
            | (apply yq; iterate 5 exact rfl)
            | (apply QL.evg; iterate 3 exact rfl
               · first
                 | (apply Ev.load_own; (· exact rfl); (· repeat (first | exact mH _ _ | apply mT)); exact rfl)
                 | (apply Ev.load_agg; (· exact rfl); (· repeat (first | exact mH _ _ | apply mT)); exact rfl)
                 | (apply Ev.load_rdq; (· exact rfl); (· repeat (first | exact mH _ _ | apply mT)); iterate 2 exact rfl)
                 | (apply Ev.load_ardq; (· exact rfl); (· repeat (first | exact mH _ _ | apply mT)); exact rfl)
                 | (apply Ev.fieldAddr; exact rfl)
                 | (apply Ev.len; exact rfl)
                 | (apply EqOf.eq; exact rfl)
                 | (apply EqOf.ne; exact rfl)
                 | (apply Ev.conv; exact rfl)
                 | (apply Ev.buildN; exact rfl)
                 | (apply Ev.shr; (iterate 2 exact rfl); first | decide | omega)
                 | (apply Ev.shl; (iterate 2 exact rfl); first | decide | omega)
               · exact rfl)
            | (apply yn; iterate 4 exact rfl)
            | ((apply QL.split; (· exact rfl); (· exact rfl); (· exact rfl)); all_goals (intro hc; try simp only [decide_eq_true_eq, decide_eq_false_iff_not, Bool.not_eq_true', Bool.not_eq_false', Bool.not_eq_true, Bool.not_eq_false, Bool.not_true, Bool.not_false, Int.not_lt, Int.not_le, List.cons.injEq, and_true, beq_iff_eq, beq_eq_false_iff_ne] at hc; try (exfalso; first | contradiction | omega)))
            | apply QL.nil
            )
          all_goals (show DW _ _ _ _ _ _ _ _))
        all_goals (first | (apply DW.done_thn; (· decide +kernel)) | (apply DW.done; (· decide +kernel)))
        repeat' (
          first
          | (
            first
            | (apply kp; iterate 2 exact rfl)
            | apply ja | apply jb | apply jg | apply jj | (apply je; exact rfl) | (apply jf; exact rfl) | apply jd | apply jh | apply ji | (apply jc; kernel_rfl) | apply jk | apply jl | apply jm | apply jn | apply jo | (apply jp; exact rfl) | apply jq | apply jr | apply js | apply jt | apply ju | apply jv | apply jw | apply kN | apply kM
            | (apply kf; iterate 2 exact rfl)
            | (apply ko; (· exact rfl); (· repeat (first | exact mH _ _ | apply mT)); iterate 2 exact rfl)
            | (apply ka; (· exact rfl); (· repeat (first | exact mH _ _ | apply mT)); iterate 2 exact rfl)
            | (apply kr; (· exact rfl); (· repeat (first | exact mH _ _ | apply mT)); iterate 3 exact rfl)
            | (apply ks; (· exact rfl); (· repeat (first | exact mH _ _ | apply mT)); iterate 2 exact rfl)
            | (apply kn; iterate 2 exact rfl)
            | (apply ke; iterate 2 exact rfl)
            | (apply kx; iterate 2 exact rfl)
            | (apply kc; iterate 2 exact rfl)
            | (apply kb; iterate 2 exact rfl)
            | (apply kg; iterate 2 exact rfl)
            | (apply kG; iterate 3 exact rfl)
            | (apply kB; (iterate 2 exact rfl); intro _)
            | (apply kA; exact rfl; intro _)
            | (apply kL; (iterate 3 exact rfl); (· repeat (first | exact BS.nil _ | (apply BS.int; exact rfl) | (apply BS.ptr; exact rfl) | (apply BS.slice; exact rfl) | (apply BS.agg; iterate 2 exact rfl))); intro _)
            | (apply kT; (iterate 2 exact rfl); (· repeat (first | exact sH _ _ _ | apply sT)); iterate 2 exact rfl)
            | (apply kS; (iterate 2 exact rfl); (· repeat (first | exact sH _ _ _ | apply sT)); exact rfl)
            | (apply kh; (iterate 2 exact rfl); (first | decide | omega); exact rfl)
            | (apply kl; (iterate 2 exact rfl); (first | decide | omega); exact rfl)
            )
          | (apply LR.ev; (· apply Ev.add; (· exact rfl); (· exact rfl); (· first | omega | (dsimp only; omega)); (· first | omega | (dsimp only; omega))); (· exact rfl))
          | ((first | (apply kR; (· exact rfl); (· exact rfl)) | (apply kQ; (· exact rfl))); all_goals (intro hc; try simp only [decide_eq_true_eq, decide_eq_false_iff_not, Bool.not_eq_true', Bool.not_eq_false', Bool.not_eq_true, Bool.not_eq_false, Bool.not_true, Bool.not_false, Int.not_lt, Int.not_le, List.cons.injEq, and_true, beq_iff_eq, beq_eq_false_iff_ne] at hc; try (exfalso; first | contradiction | omega)))
          )
        all_goals (try (exfalso; revert hc; simp; done))
        refine At.again (i + 1, { G with w := X.d.x.k }) ⟨hi1, hG⟩ ?_ ?_ ?_ ?_
        · (repeat (first | exact Out.refl _ _ | exact Out.mix | (apply Out.upd; (· exact rfl)) | (apply Out.updL; (· exact rfl)) | (apply Out.mixs; (· exact rfl))))
        · exact ⟨rfl, trivial⟩
        · intro w' hw'
          refine hw'.sub ?_
          repeat (first | exact List.Sublist.refl _ | apply List.Sublist.cons_cons | apply List.Sublist.cons)
          done
        · exact hdec
    · cases hpb : markB G X.d.x.k
      · have e : markS G X.d.x.k = G := by unfold markS; rw [if_neg (by rw [hpb]; simp)]
        have e2 : markM G X.d.x.k = zeroMsg := by unfold markM; rw [if_neg (by rw [hpb]; simp)]
        repeat' (
          first
          | (
            first
            | (apply kp; iterate 2 exact rfl)
            | apply ja | apply jb | apply jg | apply jj | (apply je; exact rfl) | (apply jf; exact rfl) | apply jd | apply jh | apply ji | (apply jc; kernel_rfl) | apply jk | apply jl | apply jm | apply jn | apply jo | (apply jp; exact rfl) | apply jq | apply jr | apply js | apply jt | apply ju | apply jv | apply jw | apply kN | apply kM
            | (apply kf; iterate 2 exact rfl)
            | (apply ko; (· exact rfl); (· repeat (first | exact mH _ _ | apply mT)); iterate 2 exact rfl)
            | (apply ka; (· exact rfl); (· repeat (first | exact mH _ _ | apply mT)); iterate 2 exact rfl)
            | (apply kr; (· exact rfl); (· repeat (first | exact mH _ _ | apply mT)); iterate 3 exact rfl)
            | (apply ks; (· exact rfl); (· repeat (first | exact mH _ _ | apply mT)); iterate 2 exact rfl)
            | (apply kn; iterate 2 exact rfl)
            | (apply ke; iterate 2 exact rfl)
            | (apply kx; iterate 2 exact rfl)
            | (apply kc; iterate 2 exact rfl)
            | (apply kb; iterate 2 exact rfl)
            | (apply kg; iterate 2 exact rfl)
            | (apply kG; iterate 3 exact rfl)
            | (apply kB; (iterate 2 exact rfl); intro _)
            | (apply kA; exact rfl; intro _)
            | (apply kL; (iterate 3 exact rfl); (· repeat (first | exact BS.nil _ | (apply BS.int; exact rfl) | (apply BS.ptr; exact rfl) | (apply BS.slice; exact rfl) | (apply BS.agg; iterate 2 exact rfl))); intro _)
            | (apply kT; (iterate 2 exact rfl); (· repeat (first | exact sH _ _ _ | apply sT)); iterate 2 exact rfl)
            | (apply kS; (iterate 2 exact rfl); (· repeat (first | exact sH _ _ _ | apply sT)); exact rfl)
            | (apply kh; (iterate 2 exact rfl); (first | decide | omega); exact rfl)
            | (apply kl; (iterate 2 exact rfl); (first | decide | omega); exact rfl)
            )
          | (apply LR.ev; (· apply Ev.indexAddr; (· exact rfl); (· exact rfl); (· first | omega | (dsimp only; omega)); (· first | omega | (dsimp only; omega))); (· exact rfl))
          | (apply LR.ev; (· first | (apply Ev.load_agg_at (cs := X.row); (· exact rfl); (· exact rfl); (· intro w' hw'; exact ldr w' (hw'.rd_of (by (repeat (first | exact mH _ _ | apply mT)))) _ (by simp))) | (apply Ev.load_agg_at (cs := X.d.x.k.cells); (· exact rfl); (· exact rfl); (· intro w' hw'; exact ldk w' (hw'.rd_of (by (repeat (first | exact mH _ _ | apply mT)))) _ (by simp))) | (apply Ev.load_agg_at (cs := X.d.x.cells X.a X.c); (· exact rfl); (· exact rfl); (· intro w' hw'; exact ldi w' (hw'.rd_of (by (repeat (first | exact mH _ _ | apply mT)))) _ (by simp)))); (· exact rfl))
          | (apply kq; (· exact rfl); (· intro w1 h1; have hq := CallsTo.q (hg41 w1) h1; rw [hk] at hq; exact hq))
          | ((first | (apply kR; (· exact rfl); (· exact rfl)) | (apply kQ; (· exact rfl))); all_goals (intro hc; try simp only [decide_eq_true_eq, decide_eq_false_iff_not, Bool.not_eq_true', Bool.not_eq_false', Bool.not_eq_true, Bool.not_eq_false, Bool.not_true, Bool.not_false, Int.not_lt, Int.not_le, List.cons.injEq, and_true, beq_iff_eq, beq_eq_false_iff_ne] at hc; try (exfalso; first | contradiction | omega)))
          )
        apply LR.call
        · exact rfl
        intro w1 h1
        have hh := g37 bg G X.d.x.k w1 (h1.own_at (by (repeat (first | exact mH _ _ | apply mT))))
        rw [hpb, e, e2] at hh
        refine CallsTo.mono hh ?_
        clear hh
        rintro v w2 ⟨rfl, st⟩
        have h2 := h1.one' st rfl (Asrt.dep_own _ _) (by (repeat (first | exact sH _ _ _ | apply sT)))
        refine LR.back h2 ?_
        clear h2 h1
        repeat' (
          first
          | (apply CW.reg_heldC)
          | (
            first
            | (apply kp; iterate 2 exact rfl)
            | apply ja | apply jb | apply jg | apply jj | (apply je; exact rfl) | (apply jf; exact rfl) | apply jd | apply jh | apply ji | (apply jc; kernel_rfl) | apply jk | apply jl | apply jm | apply jn | apply jo | (apply jp; exact rfl) | apply jq | apply jr | apply js | apply jt | apply ju | apply jv | apply jw | apply kN | apply kM
            | (apply kf; iterate 2 exact rfl)
            | (apply ko; (· exact rfl); (· repeat (first | exact mH _ _ | apply mT)); iterate 2 exact rfl)
            | (apply ka; (· exact rfl); (· repeat (first | exact mH _ _ | apply mT)); iterate 2 exact rfl)
            | (apply kr; (· exact rfl); (· repeat (first | exact mH _ _ | apply mT)); iterate 3 exact rfl)
            | (apply ks; (· exact rfl); (· repeat (first | exact mH _ _ | apply mT)); iterate 2 exact rfl)
            | (apply kn; iterate 2 exact rfl)
            | (apply ke; iterate 2 exact rfl)
            | (apply kx; iterate 2 exact rfl)
            | (apply kc; iterate 2 exact rfl)
            | (apply kb; iterate 2 exact rfl)
            | (apply kg; iterate 2 exact rfl)
            | (apply kG; iterate 3 exact rfl)
            | (apply kB; (iterate 2 exact rfl); intro _)
            | (apply kA; exact rfl; intro _)
            | (apply kL; (iterate 3 exact rfl); (· repeat (first | exact BS.nil _ | (apply BS.int; exact rfl) | (apply BS.ptr; exact rfl) | (apply BS.slice; exact rfl) | (apply BS.agg; iterate 2 exact rfl))); intro _)
            | (apply kT; (iterate 2 exact rfl); (· repeat (first | exact sH _ _ _ | apply sT)); iterate 2 exact rfl)
            | (apply kS; (iterate 2 exact rfl); (· repeat (first | exact sH _ _ _ | apply sT)); exact rfl)
            | (apply kh; (iterate 2 exact rfl); (first | decide | omega); exact rfl)
            | (apply kl; (iterate 2 exact rfl); (first | decide | omega); exact rfl)
            )
          | ((first | (apply kR; (· exact rfl); (· exact rfl)) | (apply kQ; (· exact rfl))); all_goals (intro hc; try simp only [decide_eq_true_eq, decide_eq_false_iff_not, Bool.not_eq_true', Bool.not_eq_false', Bool.not_eq_true, Bool.not_eq_false, Bool.not_true, Bool.not_false, Int.not_lt, Int.not_le, List.cons.injEq, and_true, beq_iff_eq, beq_eq_false_iff_ne] at hc; try (exfalso; first | contradiction | omega)))
          )
        all_goals (
          apply DW.quiet [0, 2]
          · decide +kernel
          · first | exact fun _ h => h | exact fun _ h => St.sub h (by repeat (first | exact List.Sublist.refl _ | apply List.Sublist.cons_cons | apply List.Sublist.cons))
          repeat' (
            first
            | (apply yp; iterate 3 exact rfl)
            | (apply QL.ev; exact rfl
               · first
                 | (apply Ev.load_own; (· exact rfl); (· repeat (first | exact mH _ _ | apply mT)); exact rfl)
                 | (apply Ev.load_agg; (· exact rfl); (· repeat (first | exact mH _ _ | apply mT)); exact rfl)
                 | (apply Ev.load_rdq; (· exact rfl); (· repeat (first | exact mH _ _ | apply mT)); iterate 2 exact rfl)
                 | (apply Ev.load_ardq; (· exact rfl); (· repeat (first | exact mH _ _ | apply mT)); exact rfl)
                 | (apply Ev.fieldAddr; exact rfl)
                 | (apply Ev.len; exact rfl)
                 | (apply EqOf.eq; exact rfl)
                 | (apply EqOf.ne; exact rfl)
                 | (apply Ev.conv; exact rfl)
                 | (apply Ev.buildN; exact rfl)
                 | (apply Ev.shr; (iterate 2 exact rfl); first | decide | omega)
                 | (apply Ev.shl; (iterate 2 exact rfl); first | decide | omega)
               · exact rfl)
            | (apply yq; iterate 5 exact rfl)
            | (apply QL.evg; iterate 3 exact rfl
               · first
                 | (apply Ev.load_own; (· exact rfl); (· repeat (first | exact mH _ _ | apply mT)); exact rfl)
                 | (apply Ev.load_agg; (· exact rfl); (· repeat (first | exact mH _ _ | apply mT)); exact rfl)
                 | (apply Ev.load_rdq; (· exact rfl); (· repeat (first | exact mH _ _ | apply mT)); iterate 2 exact rfl)
                 | (apply Ev.load_ardq; (· exact rfl); (· repeat (first | exact mH _ _ | apply mT)); exact rfl)
                 | (apply Ev.fieldAddr; exact rfl)
                 | (apply Ev.len; exact rfl)
                 | (apply EqOf.eq; exact rfl)
                 | (apply EqOf.ne; exact rfl)
                 | (apply Ev.conv; exact rfl)
                 | (apply Ev.buildN; exact rfl)
                 | (apply Ev.shr; (iterate 2 exact rfl); first | decide | omega)
                 | (apply Ev.shl; (iterate 2 exact rfl); first | decide | omega)
               · exact rfl)
            | (apply yn; iterate 4 exact rfl)
            | ((apply QL.split; (· exact rfl); (· exact rfl); (· exact rfl)); all_goals (intro hc; try simp only [decide_eq_true_eq, decide_eq_false_iff_not, Bool.not_eq_true', Bool.not_eq_false', Bool.not_eq_true, Bool.not_eq_false, Bool.not_true, Bool.not_false, Int.not_lt, Int.not_le, List.cons.injEq, and_true, beq_iff_eq, beq_eq_false_iff_ne] at hc; try (exfalso; first | contradiction | omega)))
            | apply QL.nil
            )
          all_goals (show DW _ _ _ _ _ _ _ _))
        all_goals (
          apply DW.loud 1
          · exact rfl
          · decide +kernel
          repeat' (
            first
            | (apply kg; iterate 2 exact rfl)
            | (apply kG; iterate 3 exact rfl)
            | apply kM
            | (
              first
              | (apply kp; iterate 2 exact rfl)
              | (apply ko; (· exact rfl); (· repeat (first | exact mH _ _ | apply mT)); iterate 2 exact rfl)
              | (apply ka; (· exact rfl); (· repeat (first | exact mH _ _ | apply mT)); iterate 2 exact rfl)
              | (apply kL; (iterate 3 exact rfl); (· repeat (first | exact BS.nil _ | (apply BS.int; exact rfl) | (apply BS.ptr; exact rfl) | (apply BS.slice; exact rfl) | (apply BS.agg; iterate 2 exact rfl))); intro _)
              | (apply kT; (iterate 2 exact rfl); (· repeat (first | exact sH _ _ _ | apply sT)); iterate 2 exact rfl)
              | (apply kS; (iterate 2 exact rfl); (· repeat (first | exact sH _ _ _ | apply sT)); exact rfl)
              | (apply kB; (iterate 2 exact rfl); intro _)
              | (apply kA; exact rfl; intro _)
              )
            | (apply kq; (· exact rfl); (· intro w1 h1; exact CallsTo.q (g45 bg (G) w1 (h1.rd_of_blk (by (repeat (first | exact mH _ _ | apply mT)))) (by show G.node ≠ 0; omega)) h1))
            )
          all_goals (refine At.stage_same (fun _ h => St.sub h (by repeat (first | exact List.Sublist.refl _ | apply List.Sublist.cons_cons | apply List.Sublist.cons))) ?_))
        all_goals (
          apply DW.quiet [3]
          · decide +kernel
          · first | exact fun _ h => h | exact fun _ h => St.sub h (by repeat (first | exact List.Sublist.refl _ | apply List.Sublist.cons_cons | apply List.Sublist.cons))
          repeat' (
            first
            | (apply yp; iterate 3 exact rfl)
            | (apply QL.ev; exact rfl
               · first
                 | (apply Ev.load_own; (· exact rfl); (· repeat (first | exact mH _ _ | apply mT)); exact rfl)
                 | (apply Ev.load_agg; (· exact rfl); (· repeat (first | exact mH _ _ | apply mT)); exact rfl)
                 | (apply Ev.load_rdq; (· exact rfl); (· repeat (first | exact mH _ _ | apply mT)); iterate 2 exact rfl)
                 | (apply Ev.load_ardq; (· exact rfl); (· repeat (first | exact mH _ _ | apply mT)); exact rfl)
                 | (apply Ev.fieldAddr; exact rfl)
                 | (apply Ev.len; exact rfl)
                 | (apply EqOf.eq; exact rfl)
                 | (apply EqOf.ne; exact rfl)
                 | (apply Ev.conv; exact rfl)
                 | (apply Ev.buildN; exact rfl)
                 | (apply Ev.shr; (iterate 2 exact rfl); first | decide | omega)
                 | (apply Ev.shl; (iterate 2 exact rfl); first | decide | omega)
               · exact rfl)
            | (apply yq; iterate 5 exact rfl)
            | (apply QL.evg; iterate 3 exact rfl
               · first
                 | (apply Ev.load_own; (· exact rfl); (· repeat (first | exact mH _ _ | apply mT)); exact rfl)
                 | (apply Ev.load_agg; (· exact rfl); (· repeat (first | exact mH _ _ | apply mT)); exact rfl)
                 | (apply Ev.load_rdq; (· exact rfl); (· repeat (first | exact mH _ _ | apply mT)); iterate 2 exact rfl)
                 | (apply Ev.load_ardq; (· exact rfl); (· repeat (first | exact mH _ _ | apply mT)); exact rfl)
                 | (apply Ev.fieldAddr; exact rfl)
                 | (apply Ev.len; exact rfl)
                 | (apply EqOf.eq; exact rfl)
                 | (apply EqOf.ne; exact rfl)
                 | (apply Ev.conv; exact rfl)
                 | (apply Ev.buildN; exact rfl)
                 | (apply Ev.shr; (iterate 2 exact rfl); first | decide | omega)
                 | (apply Ev.shl; (iterate 2 exact rfl); first | decide | omega)
               · exact rfl)
            | (apply yn; iterate 4 exact rfl)
            | ((apply QL.split; (· exact rfl); (· exact rfl); (· exact rfl)); all_goals (intro hc; try simp only [decide_eq_true_eq, decide_eq_false_iff_not, Bool.not_eq_true', Bool.not_eq_false', Bool.not_eq_true, Bool.not_eq_false, Bool.not_true, Bool.not_false, Int.not_lt, Int.not_le, List.cons.injEq, and_true, beq_iff_eq, beq_eq_false_iff_ne] at hc; try (exfalso; first | contradiction | omega)))
            | apply QL.nil
            )
          all_goals (show DW _ _ _ _ _ _ _ _))
        all_goals (first | (apply DW.done_thn; (· decide +kernel)) | (apply DW.done; (· decide +kernel)))
        repeat' (
          first
          | (
            first
            | (apply kp; iterate 2 exact rfl)
            | apply ja | apply jb | apply jg | apply jj | (apply je; exact rfl) | (apply jf; exact rfl) | apply jd | apply jh | apply ji | (apply jc; kernel_rfl) | apply jk | apply jl | apply jm | apply jn | apply jo | (apply jp; exact rfl) | apply jq | apply jr | apply js | apply jt | apply ju | apply jv | apply jw | apply kN | apply kM
            | (apply kf; iterate 2 exact rfl)
            | (apply ko; (· exact rfl); (· repeat (first | exact mH _ _ | apply mT)); iterate 2 exact rfl)
            | (apply ka; (· exact rfl); (· repeat (first | exact mH _ _ | apply mT)); iterate 2 exact rfl)
            | (apply kr; (· exact rfl); (· repeat (first | exact mH _ _ | apply mT)); iterate 3 exact rfl)
            | (apply ks; (· exact rfl); (· repeat (first | exact mH _ _ | apply mT)); iterate 2 exact rfl)
            | (apply kn; iterate 2 exact rfl)
            | (apply ke; iterate 2 exact rfl)
            | (apply kx; iterate 2 exact rfl)
            | (apply kc; iterate 2 exact rfl)
            | (apply kb; iterate 2 exact rfl)
            | (apply kg; iterate 2 exact rfl)
            | (apply kG; iterate 3 exact rfl)
            | (apply kB; (iterate 2 exact rfl); intro _)
            | (apply kA; exact rfl; intro _)
            | (apply kL; (iterate 3 exact rfl); (· repeat (first | exact BS.nil _ | (apply BS.int; exact rfl) | (apply BS.ptr; exact rfl) | (apply BS.slice; exact rfl) | (apply BS.agg; iterate 2 exact rfl))); intro _)
            | (apply kT; (iterate 2 exact rfl); (· repeat (first | exact sH _ _ _ | apply sT)); iterate 2 exact rfl)
            | (apply kS; (iterate 2 exact rfl); (· repeat (first | exact sH _ _ _ | apply sT)); exact rfl)
            | (apply kh; (iterate 2 exact rfl); (first | decide | omega); exact rfl)
            | (apply kl; (iterate 2 exact rfl); (first | decide | omega); exact rfl)
            )
          | (apply LR.ev; (· apply Ev.add; (· exact rfl); (· exact rfl); (· first | omega | (dsimp only; omega)); (· first | omega | (dsimp only; omega))); (· exact rfl))
          | ((first | (apply kR; (· exact rfl); (· exact rfl)) | (apply kQ; (· exact rfl))); all_goals (intro hc; try simp only [decide_eq_true_eq, decide_eq_false_iff_not, Bool.not_eq_true', Bool.not_eq_false', Bool.not_eq_true, Bool.not_eq_false, Bool.not_true, Bool.not_false, Int.not_lt, Int.not_le, List.cons.injEq, and_true, beq_iff_eq, beq_eq_false_iff_ne] at hc; try (exfalso; first | contradiction | omega)))
          )
        all_goals (try (exfalso; revert hc; simp; done))
        refine At.again (i + 1, G) ⟨hi1, hG⟩ ?_ ?_ ?_ ?_
        · (repeat (first | exact Out.refl _ _ | exact Out.mix | (apply Out.upd; (· exact rfl)) | (apply Out.updL; (· exact rfl)) | (apply Out.mixs; (· exact rfl))))
        · exact ⟨rfl, trivial⟩
        · intro w' hw'
          refine hw'.sub ?_
          repeat (first | exact List.Sublist.refl _ | apply List.Sublist.cons_cons | apply List.Sublist.cons)
          done
        · exact hdec
      · have e : markS G X.d.x.k = { G with p := X.d.x.k } := by unfold markS; rw [if_pos hpb]
        have e2 : markM G X.d.x.k = ⟨2, G.node, 0, 0, 0, 0, 0, false, X.d.x.k.t, X.d.x.k.s, X.d.x.k.r, X.d.x.k.q, []⟩ := by unfold markM; rw [if_pos hpb]
        have hck := check_mark hGn hpb
        rw [e2] at hck
        have hri := mark_rises hpb
        repeat' (
          first
          | (
            first
            | (apply kp; iterate 2 exact rfl)
            | apply ja | apply jb | apply jg | apply jj | (apply je; exact rfl) | (apply jf; exact rfl) | apply jd | apply jh | apply ji | (apply jc; kernel_rfl) | apply jk | apply jl | apply jm | apply jn | apply jo | (apply jp; exact rfl) | apply jq | apply jr | apply js | apply jt | apply ju | apply jv | apply jw | apply kN | apply kM
            | (apply kf; iterate 2 exact rfl)
            | (apply ko; (· exact rfl); (· repeat (first | exact mH _ _ | apply mT)); iterate 2 exact rfl)
            | (apply ka; (· exact rfl); (· repeat (first | exact mH _ _ | apply mT)); iterate 2 exact rfl)
            | (apply kr; (· exact rfl); (· repeat (first | exact mH _ _ | apply mT)); iterate 3 exact rfl)
            | (apply ks; (· exact rfl); (· repeat (first | exact mH _ _ | apply mT)); iterate 2 exact rfl)
            | (apply kn; iterate 2 exact rfl)
            | (apply ke; iterate 2 exact rfl)
            | (apply kx; iterate 2 exact rfl)
            | (apply kc; iterate 2 exact rfl)
            | (apply kb; iterate 2 exact rfl)
            | (apply kg; iterate 2 exact rfl)
            | (apply kG; iterate 3 exact rfl)
            | (apply kB; (iterate 2 exact rfl); intro _)
            | (apply kA; exact rfl; intro _)
            | (apply kL; (iterate 3 exact rfl); (· repeat (first | exact BS.nil _ | (apply BS.int; exact rfl) | (apply BS.ptr; exact rfl) | (apply BS.slice; exact rfl) | (apply BS.agg; iterate 2 exact rfl))); intro _)
            | (apply kT; (iterate 2 exact rfl); (· repeat (first | exact sH _ _ _ | apply sT)); iterate 2 exact rfl)
            | (apply kS; (iterate 2 exact rfl); (· repeat (first | exact sH _ _ _ | apply sT)); exact rfl)
            | (apply kh; (iterate 2 exact rfl); (first | decide | omega); exact rfl)
            | (apply kl; (iterate 2 exact rfl); (first | decide | omega); exact rfl)
            )
          | (apply LR.ev; (· apply Ev.indexAddr; (· exact rfl); (· exact rfl); (· first | omega | (dsimp only; omega)); (· first | omega | (dsimp only; omega))); (· exact rfl))
          | (apply LR.ev; (· first | (apply Ev.load_agg_at (cs := X.row); (· exact rfl); (· exact rfl); (· intro w' hw'; exact ldr w' (hw'.rd_of (by (repeat (first | exact mH _ _ | apply mT)))) _ (by simp))) | (apply Ev.load_agg_at (cs := X.d.x.k.cells); (· exact rfl); (· exact rfl); (· intro w' hw'; exact ldk w' (hw'.rd_of (by (repeat (first | exact mH _ _ | apply mT)))) _ (by simp))) | (apply Ev.load_agg_at (cs := X.d.x.cells X.a X.c); (· exact rfl); (· exact rfl); (· intro w' hw'; exact ldi w' (hw'.rd_of (by (repeat (first | exact mH _ _ | apply mT)))) _ (by simp)))); (· exact rfl))
          | (apply kq; (· exact rfl); (· intro w1 h1; have hq := CallsTo.q (hg41 w1) h1; rw [hk] at hq; exact hq))
          | ((first | (apply kR; (· exact rfl); (· exact rfl)) | (apply kQ; (· exact rfl))); all_goals (intro hc; try simp only [decide_eq_true_eq, decide_eq_false_iff_not, Bool.not_eq_true', Bool.not_eq_false', Bool.not_eq_true, Bool.not_eq_false, Bool.not_true, Bool.not_false, Int.not_lt, Int.not_le, List.cons.injEq, and_true, beq_iff_eq, beq_eq_false_iff_ne] at hc; try (exfalso; first | contradiction | omega)))
          )
        apply LR.call
        · exact rfl
        intro w1 h1
        have hh := g37 bg G X.d.x.k w1 (h1.own_at (by (repeat (first | exact mH _ _ | apply mT))))
        rw [hpb, e, e2] at hh
        refine CallsTo.mono hh ?_
        clear hh
        rintro v w2 ⟨rfl, st⟩
        have h2 := h1.one' st rfl (Asrt.dep_own _ _) (by (repeat (first | exact sH _ _ _ | apply sT)))
        refine LR.back h2 ?_
        clear h2 h1
        repeat' (
          first
          | (apply CW.reg_heldC)
          | (
            first
            | (apply kp; iterate 2 exact rfl)
            | apply ja | apply jb | apply jg | apply jj | (apply je; exact rfl) | (apply jf; exact rfl) | apply jd | apply jh | apply ji | (apply jc; kernel_rfl) | apply jk | apply jl | apply jm | apply jn | apply jo | (apply jp; exact rfl) | apply jq | apply jr | apply js | apply jt | apply ju | apply jv | apply jw | apply kN | apply kM
            | (apply kf; iterate 2 exact rfl)
            | (apply ko; (· exact rfl); (· repeat (first | exact mH _ _ | apply mT)); iterate 2 exact rfl)
            | (apply ka; (· exact rfl); (· repeat (first | exact mH _ _ | apply mT)); iterate 2 exact rfl)
            | (apply kr; (· exact rfl); (· repeat (first | exact mH _ _ | apply mT)); iterate 3 exact rfl)
            | (apply ks; (· exact rfl); (· repeat (first | exact mH _ _ | apply mT)); iterate 2 exact rfl)
            | (apply kn; iterate 2 exact rfl)
            | (apply ke; iterate 2 exact rfl)
            | (apply kx; iterate 2 exact rfl)
            | (apply kc; iterate 2 exact rfl)
            | (apply kb; iterate 2 exact rfl)
            | (apply kg; iterate 2 exact rfl)
            | (apply kG; iterate 3 exact rfl)
            | (apply kB; (iterate 2 exact rfl); intro _)
            | (apply kA; exact rfl; intro _)
            | (apply kL; (iterate 3 exact rfl); (· repeat (first | exact BS.nil _ | (apply BS.int; exact rfl) | (apply BS.ptr; exact rfl) | (apply BS.slice; exact rfl) | (apply BS.agg; iterate 2 exact rfl))); intro _)
            | (apply kT; (iterate 2 exact rfl); (· repeat (first | exact sH _ _ _ | apply sT)); iterate 2 exact rfl)
            | (apply kS; (iterate 2 exact rfl); (· repeat (first | exact sH _ _ _ | apply sT)); exact rfl)
            | (apply kh; (iterate 2 exact rfl); (first | decide | omega); exact rfl)
            | (apply kl; (iterate 2 exact rfl); (first | decide | omega); exact rfl)
            )
          | (apply kq; (· exact rfl); (· intro w1 h1; exact CallsTo.q (g44 X.d.x.k G.p w1) h1))
          | (apply kq; (· exact rfl); (· intro w1 h1; have hq := CallsTo.q (d17 (Msg.mk 2 G.node 0 0 0 0 0 false X.d.x.k.t X.d.x.k.s X.d.x.k.r X.d.x.k.q []) none 0 w1 (Rd.nil _ _) (fun _ => rfl) (by simp) (by simp [Byt])) h1; rw [hck] at hq; show CallsTo Try.prog 43 [(Msg.mk 2 G.node 0 0 0 0 0 false X.d.x.k.t X.d.x.k.s X.d.x.k.r X.d.x.k.q []).val none 0] w1 _; exact hq))
          | ((first | (apply kR; (· exact rfl); (· exact rfl)) | (apply kQ; (· exact rfl))); all_goals (intro hc; try simp only [decide_eq_true_eq, decide_eq_false_iff_not, Bool.not_eq_true', Bool.not_eq_false', Bool.not_eq_true, Bool.not_eq_false, Bool.not_true, Bool.not_false, Int.not_lt, Int.not_le, List.cons.injEq, and_true, beq_iff_eq, beq_eq_false_iff_ne] at hc; try (exfalso; first | contradiction | omega)))
          )
        all_goals (try (exfalso; revert hc; first | (simp [fromM]; done) | omega))
        repeat' (
          first
          | (apply CW.reg_heldC)
          | (
            first
            | (apply kp; iterate 2 exact rfl)
            | apply ja | apply jb | apply jg | apply jj | (apply je; exact rfl) | (apply jf; exact rfl) | apply jd | apply jh | apply ji | (apply jc; kernel_rfl) | apply jk | apply jl | apply jm | apply jn | apply jo | (apply jp; exact rfl) | apply jq | apply jr | apply js | apply jt | apply ju | apply jv | apply jw | apply kN | apply kM
            | (apply kf; iterate 2 exact rfl)
            | (apply ko; (· exact rfl); (· repeat (first | exact mH _ _ | apply mT)); iterate 2 exact rfl)
            | (apply ka; (· exact rfl); (· repeat (first | exact mH _ _ | apply mT)); iterate 2 exact rfl)
            | (apply kr; (· exact rfl); (· repeat (first | exact mH _ _ | apply mT)); iterate 3 exact rfl)
            | (apply ks; (· exact rfl); (· repeat (first | exact mH _ _ | apply mT)); iterate 2 exact rfl)
            | (apply kn; iterate 2 exact rfl)
            | (apply ke; iterate 2 exact rfl)
            | (apply kx; iterate 2 exact rfl)
            | (apply kc; iterate 2 exact rfl)
            | (apply kb; iterate 2 exact rfl)
            | (apply kg; iterate 2 exact rfl)
            | (apply kG; iterate 3 exact rfl)
            | (apply kB; (iterate 2 exact rfl); intro _)
            | (apply kA; exact rfl; intro _)
            | (apply kL; (iterate 3 exact rfl); (· repeat (first | exact BS.nil _ | (apply BS.int; exact rfl) | (apply BS.ptr; exact rfl) | (apply BS.slice; exact rfl) | (apply BS.agg; iterate 2 exact rfl))); intro _)
            | (apply kT; (iterate 2 exact rfl); (· repeat (first | exact sH _ _ _ | apply sT)); iterate 2 exact rfl)
            | (apply kS; (iterate 2 exact rfl); (· repeat (first | exact sH _ _ _ | apply sT)); exact rfl)
            | (apply kh; (iterate 2 exact rfl); (first | decide | omega); exact rfl)
            | (apply kl; (iterate 2 exact rfl); (first | decide | omega); exact rfl)
            )
          | ((first | (apply kR; (· exact rfl); (· exact rfl)) | (apply kQ; (· exact rfl))); all_goals (intro hc; try simp only [decide_eq_true_eq, decide_eq_false_iff_not, Bool.not_eq_true', Bool.not_eq_false', Bool.not_eq_true, Bool.not_eq_false, Bool.not_true, Bool.not_false, Int.not_lt, Int.not_le, List.cons.injEq, and_true, beq_iff_eq, beq_eq_false_iff_ne] at hc; try (exfalso; first | contradiction | omega)))
          )
        all_goals (
          apply DW.quiet [0, 2]
          · decide +kernel
          · first | exact fun _ h => h | exact fun _ h => St.sub h (by repeat (first | exact List.Sublist.refl _ | apply List.Sublist.cons_cons | apply List.Sublist.cons))
          repeat' (
            first
            | (apply yp; iterate 3 exact rfl)
            | (apply QL.ev; exact rfl
               · first
                 | (apply Ev.load_own; (· exact rfl); (· repeat (first | exact mH _ _ | apply mT)); exact rfl)
                 | (apply Ev.load_agg; (· exact rfl); (· repeat (first | exact mH _ _ | apply mT)); exact rfl)
                 | (apply Ev.load_rdq; (· exact rfl); (· repeat (first | exact mH _ _ | apply mT)); iterate 2 exact rfl)
                 | (apply Ev.load_ardq; (· exact rfl); (· repeat (first | exact mH _ _ | apply mT)); exact rfl)
                 | (apply Ev.fieldAddr; exact rfl)
                 | (apply Ev.len; exact rfl)
                 | (apply EqOf.eq; exact rfl)
                 | (apply EqOf.ne; exact rfl)
                 | (apply Ev.conv; exact rfl)
                 | (apply Ev.buildN; exact rfl)
                 | (apply Ev.shr; (iterate 2 exact rfl); first | decide | omega)
                 | (apply Ev.shl; (iterate 2 exact rfl); first | decide | omega)
               · exact rfl)
            | (apply yq; iterate 5 exact rfl)
            | (apply QL.evg; iterate 3 exact rfl
               · first
                 | (apply Ev.load_own; (· exact rfl); (· repeat (first | exact mH _ _ | apply mT)); exact rfl)
                 | (apply Ev.load_agg; (· exact rfl); (· repeat (first | exact mH _ _ | apply mT)); exact rfl)
                 | (apply Ev.load_rdq; (· exact rfl); (· repeat (first | exact mH _ _ | apply mT)); iterate 2 exact rfl)
                 | (apply Ev.load_ardq; (· exact rfl); (· repeat (first | exact mH _ _ | apply mT)); exact rfl)
                 | (apply Ev.fieldAddr; exact rfl)
                 | (apply Ev.len; exact rfl)
                 | (apply EqOf.eq; exact rfl)
                 | (apply EqOf.ne; exact rfl)
                 | (apply Ev.conv; exact rfl)
                 | (apply Ev.buildN; exact rfl)
                 | (apply Ev.shr; (iterate 2 exact rfl); first | decide | omega)
                 | (apply Ev.shl; (iterate 2 exact rfl); first | decide | omega)
               · exact rfl)
            | (apply yn; iterate 4 exact rfl)
            | ((apply QL.split; (· exact rfl); (· exact rfl); (· exact rfl)); all_goals (intro hc; try simp only [decide_eq_true_eq, decide_eq_false_iff_not, Bool.not_eq_true', Bool.not_eq_false', Bool.not_eq_true, Bool.not_eq_false, Bool.not_true, Bool.not_false, Int.not_lt, Int.not_le, List.cons.injEq, and_true, beq_iff_eq, beq_eq_false_iff_ne] at hc; try (exfalso; first | contradiction | omega)))
            | apply QL.nil
            )
          all_goals (show DW _ _ _ _ _ _ _ _))
        all_goals (
          apply DW.loud 1
          · exact rfl
          · decide +kernel
          repeat' (
            first
            | (apply kg; iterate 2 exact rfl)
            | (apply kG; iterate 3 exact rfl)
            | apply kM
            | (
              first
              | (apply kp; iterate 2 exact rfl)
              | (apply ko; (· exact rfl); (· repeat (first | exact mH _ _ | apply mT)); iterate 2 exact rfl)
              | (apply ka; (· exact rfl); (· repeat (first | exact mH _ _ | apply mT)); iterate 2 exact rfl)
              | (apply kL; (iterate 3 exact rfl); (· repeat (first | exact BS.nil _ | (apply BS.int; exact rfl) | (apply BS.ptr; exact rfl) | (apply BS.slice; exact rfl) | (apply BS.agg; iterate 2 exact rfl))); intro _)
              | (apply kT; (iterate 2 exact rfl); (· repeat (first | exact sH _ _ _ | apply sT)); iterate 2 exact rfl)
              | (apply kS; (iterate 2 exact rfl); (· repeat (first | exact sH _ _ _ | apply sT)); exact rfl)
              | (apply kB; (iterate 2 exact rfl); intro _)
              | (apply kA; exact rfl; intro _)
              )
            | (apply kq; (· exact rfl); (· intro w1 h1; exact CallsTo.q (g45 bg ({ G with p := X.d.x.k }) w1 (h1.rd_of_blk (by (repeat (first | exact mH _ _ | apply mT)))) (by show G.node ≠ 0; omega)) h1))
            )
          all_goals (refine At.stage_same (fun _ h => St.sub h (by repeat (first | exact List.Sublist.refl _ | apply List.Sublist.cons_cons | apply List.Sublist.cons))) ?_))
        all_goals (
          apply DW.quiet [3]
          · decide +kernel
          · first | exact fun _ h => h | exact fun _ h => St.sub h (by repeat (first | exact List.Sublist.refl _ | apply List.Sublist.cons_cons | apply List.Sublist.cons))
          repeat' (
            first
            | (apply yp; iterate 3 exact rfl)
            | (apply QL.ev; exact rfl
               · first
                 | (apply Ev.load_own; (· exact rfl); (· repeat (first | exact mH _ _ | apply mT)); exact rfl)
                 | (apply Ev.load_agg; (· exact rfl); (· repeat (first | exact mH _ _ | apply mT)); exact rfl)
                 | (apply Ev.load_rdq; (· exact rfl); (· repeat (first | exact mH _ _ | apply mT)); iterate 2 exact rfl)
                 | (apply Ev.load_ardq; (· exact rfl); (· repeat (first | exact mH _ _ | apply mT)); exact rfl)
                 | (apply Ev.fieldAddr; exact rfl)
                 | (apply Ev.len; exact rfl)
                 | (apply EqOf.eq; exact rfl)
                 | (apply EqOf.ne; exact rfl)
                 | (apply Ev.conv; exact rfl)
                 | (apply Ev.buildN; exact rfl)
                 | (apply Ev.shr; (iterate 2 exact rfl); first | decide | omega)
                 | (apply Ev.shl; (iterate 2 exact rfl); first | decide | omega)
               · exact rfl)
            | (apply yq; iterate 5 exact rfl)
            | (apply QL.evg; iterate 3 exact rfl
               · first
                 | (apply Ev.load_own; (· exact rfl); (· repeat (first | exact mH _ _ | apply mT)); exact rfl)
                 | (apply Ev.load_agg; (· exact rfl); (· repeat (first | exact mH _ _ | apply mT)); exact rfl)
                 | (apply Ev.load_rdq; (· exact rfl); (· repeat (first | exact mH _ _ | apply mT)); iterate 2 exact rfl)
                 | (apply Ev.load_ardq; (· exact rfl); (· repeat (first | exact mH _ _ | apply mT)); exact rfl)
                 | (apply Ev.fieldAddr; exact rfl)
                 | (apply Ev.len; exact rfl)
                 | (apply EqOf.eq; exact rfl)
                 | (apply EqOf.ne; exact rfl)
                 | (apply Ev.conv; exact rfl)
                 | (apply Ev.buildN; exact rfl)
                 | (apply Ev.shr; (iterate 2 exact rfl); first | decide | omega)
                 | (apply Ev.shl; (iterate 2 exact rfl); first | decide | omega)
               · exact rfl)
            | (apply yn; iterate 4 exact rfl)
            | ((apply QL.split; (· exact rfl); (· exact rfl); (· exact rfl)); all_goals (intro hc; try simp only [decide_eq_true_eq, decide_eq_false_iff_not, Bool.not_eq_true', Bool.not_eq_false', Bool.not_eq_true, Bool.not_eq_false, Bool.not_true, Bool.not_false, Int.not_lt, Int.not_le, List.cons.injEq, and_true, beq_iff_eq, beq_eq_false_iff_ne] at hc; try (exfalso; first | contradiction | omega)))
            | apply QL.nil
            )
          all_goals (show DW _ _ _ _ _ _ _ _))
        all_goals (first | (apply DW.done_thn; (· decide +kernel)) | (apply DW.done; (· decide +kernel)))
        repeat' (
          first
          | (
            first
            | (apply kp; iterate 2 exact rfl)
            | apply ja | apply jb | apply jg | apply jj | (apply je; exact rfl) | (apply jf; exact rfl) | apply jd | apply jh | apply ji | (apply jc; kernel_rfl) | apply jk | apply jl | apply jm | apply jn | apply jo | (apply jp; exact rfl) | apply jq | apply jr | apply js | apply jt | apply ju | apply jv | apply jw | apply kN | apply kM
            | (apply kf; iterate 2 exact rfl)
            | (apply ko; (· exact rfl); (· repeat (first | exact mH _ _ | apply mT)); iterate 2 exact rfl)
            | (apply ka; (· exact rfl); (· repeat (first | exact mH _ _ | apply mT)); iterate 2 exact rfl)
            | (apply kr; (· exact rfl); (· repeat (first | exact mH _ _ | apply mT)); iterate 3 exact rfl)
            | (apply ks; (· exact rfl); (· repeat (first | exact mH _ _ | apply mT)); iterate 2 exact rfl)
            | (apply kn; iterate 2 exact rfl)
            | (apply ke; iterate 2 exact rfl)
            | (apply kx; iterate 2 exact rfl)
            | (apply kc; iterate 2 exact rfl)
            | (apply kb; iterate 2 exact rfl)
            | (apply kg; iterate 2 exact rfl)
            | (apply kG; iterate 3 exact rfl)
            | (apply kB; (iterate 2 exact rfl); intro _)
            | (apply kA; exact rfl; intro _)
            | (apply kL; (iterate 3 exact rfl); (· repeat (first | exact BS.nil _ | (apply BS.int; exact rfl) | (apply BS.ptr; exact rfl) | (apply BS.slice; exact rfl) | (apply BS.agg; iterate 2 exact rfl))); intro _)
            | (apply kT; (iterate 2 exact rfl); (· repeat (first | exact sH _ _ _ | apply sT)); iterate 2 exact rfl)
            | (apply kS; (iterate 2 exact rfl); (· repeat (first | exact sH _ _ _ | apply sT)); exact rfl)
            | (apply kh; (iterate 2 exact rfl); (first | decide | omega); exact rfl)
            | (apply kl; (iterate 2 exact rfl); (first | decide | omega); exact rfl)
            )
          | (apply LR.ev; (· apply Ev.add; (· exact rfl); (· exact rfl); (· first | omega | (dsimp only; omega)); (· first | omega | (dsimp only; omega))); (· exact rfl))
          | ((first | (apply kR; (· exact rfl); (· exact rfl)) | (apply kQ; (· exact rfl))); all_goals (intro hc; try simp only [decide_eq_true_eq, decide_eq_false_iff_not, Bool.not_eq_true', Bool.not_eq_false', Bool.not_eq_true, Bool.not_eq_false, Bool.not_true, Bool.not_false, Int.not_lt, Int.not_le, List.cons.injEq, and_true, beq_iff_eq, beq_eq_false_iff_ne] at hc; try (exfalso; first | contradiction | omega)))
          )
        all_goals (try (exfalso; revert hc; simp; done))
        refine At.again (i + 1, { G with p := X.d.x.k }) ⟨hi1, hG⟩ ?_ ?_ ?_ ?_
        · (repeat (first | exact Out.refl _ _ | exact Out.mix | (apply Out.upd; (· exact rfl)) | (apply Out.updL; (· exact rfl)) | (apply Out.mixs; (· exact rfl))))
        · exact ⟨rfl, trivial⟩
        · intro w' hw'
          refine hw'.sub ?_
          repeat (first | exact List.Sublist.refl _ | apply List.Sublist.cons_cons | apply List.Sublist.cons)
          done
        · exact hdec
    · cases hwb : askB G X.d.x.k
      · have e : askS G X.d.x.k = G := by unfold askS; rw [if_neg (by rw [hwb]; simp)]
        repeat' (
          first
          | (
            first
            | (apply kp; iterate 2 exact rfl)
            | apply ja | apply jb | apply jg | apply jj | (apply je; exact rfl) | (apply jf; exact rfl) | apply jd | apply jh | apply ji | (apply jc; kernel_rfl) | apply jk | apply jl | apply jm | apply jn | apply jo | (apply jp; exact rfl) | apply jq | apply jr | apply js | apply jt | apply ju | apply jv | apply jw | apply kN | apply kM
            | (apply kf; iterate 2 exact rfl)
            | (apply ko; (· exact rfl); (· repeat (first | exact mH _ _ | apply mT)); iterate 2 exact rfl)
            | (apply ka; (· exact rfl); (· repeat (first | exact mH _ _ | apply mT)); iterate 2 exact rfl)
            | (apply kr; (· exact rfl); (· repeat (first | exact mH _ _ | apply mT)); iterate 3 exact rfl)
            | (apply ks; (· exact rfl); (· repeat (first | exact mH _ _ | apply mT)); iterate 2 exact rfl)
            | (apply kn; iterate 2 exact rfl)
            | (apply ke; iterate 2 exact rfl)
            | (apply kx; iterate 2 exact rfl)
            | (apply kc; iterate 2 exact rfl)
            | (apply kb; iterate 2 exact rfl)
            | (apply kg; iterate 2 exact rfl)
            | (apply kG; iterate 3 exact rfl)
            | (apply kB; (iterate 2 exact rfl); intro _)
            | (apply kA; exact rfl; intro _)
            | (apply kL; (iterate 3 exact rfl); (· repeat (first | exact BS.nil _ | (apply BS.int; exact rfl) | (apply BS.ptr; exact rfl) | (apply BS.slice; exact rfl) | (apply BS.agg; iterate 2 exact rfl))); intro _)
            | (apply kT; (iterate 2 exact rfl); (· repeat (first | exact sH _ _ _ | apply sT)); iterate 2 exact rfl)
            | (apply kS; (iterate 2 exact rfl); (· repeat (first | exact sH _ _ _ | apply sT)); exact rfl)
            | (apply kh; (iterate 2 exact rfl); (first | decide | omega); exact rfl)
            | (apply kl; (iterate 2 exact rfl); (first | decide | omega); exact rfl)
            )
          | (apply LR.ev; (· apply Ev.indexAddr; (· exact rfl); (· exact rfl); (· first | omega | (dsimp only; omega)); (· first | omega | (dsimp only; omega))); (· exact rfl))
          | (apply LR.ev; (· first | (apply Ev.load_agg_at (cs := X.row); (· exact rfl); (· exact rfl); (· intro w' hw'; exact ldr w' (hw'.rd_of (by (repeat (first | exact mH _ _ | apply mT)))) _ (by simp))) | (apply Ev.load_agg_at (cs := X.d.x.k.cells); (· exact rfl); (· exact rfl); (· intro w' hw'; exact ldk w' (hw'.rd_of (by (repeat (first | exact mH _ _ | apply mT)))) _ (by simp))) | (apply Ev.load_agg_at (cs := X.d.x.cells X.a X.c); (· exact rfl); (· exact rfl); (· intro w' hw'; exact ldi w' (hw'.rd_of (by (repeat (first | exact mH _ _ | apply mT)))) _ (by simp)))); (· exact rfl))
          | (apply kq; (· exact rfl); (· intro w1 h1; have hq := CallsTo.q (hg41 w1) h1; rw [hk] at hq; exact hq))
          | ((first | (apply kR; (· exact rfl); (· exact rfl)) | (apply kQ; (· exact rfl))); all_goals (intro hc; try simp only [decide_eq_true_eq, decide_eq_false_iff_not, Bool.not_eq_true', Bool.not_eq_false', Bool.not_eq_true, Bool.not_eq_false, Bool.not_true, Bool.not_false, Int.not_lt, Int.not_le, List.cons.injEq, and_true, beq_iff_eq, beq_eq_false_iff_ne] at hc; try (exfalso; first | contradiction | omega)))
          )
        apply LR.call
        · exact rfl
        intro w1 h1
        have hh := g36 bg G X.d.x.k w1 (h1.own_at (by (repeat (first | exact mH _ _ | apply mT))))
        rw [e] at hh
        refine CallsTo.mono hh ?_
        clear hh
        rintro v w2 ⟨rfl, st⟩
        have h2 := h1.one' st rfl (Asrt.dep_own _ _) (by (repeat (first | exact sH _ _ _ | apply sT)))
        refine LR.back h2 ?_
        clear h2 h1
        repeat' (
          first
          | (apply CW.reg_heldC)
          | (
            first
            | (apply kp; iterate 2 exact rfl)
            | apply ja | apply jb | apply jg | apply jj | (apply je; exact rfl) | (apply jf; exact rfl) | apply jd | apply jh | apply ji | (apply jc; kernel_rfl) | apply jk | apply jl | apply jm | apply jn | apply jo | (apply jp; exact rfl) | apply jq | apply jr | apply js | apply jt | apply ju | apply jv | apply jw | apply kN | apply kM
            | (apply kf; iterate 2 exact rfl)
            | (apply ko; (· exact rfl); (· repeat (first | exact mH _ _ | apply mT)); iterate 2 exact rfl)
            | (apply ka; (· exact rfl); (· repeat (first | exact mH _ _ | apply mT)); iterate 2 exact rfl)
            | (apply kr; (· exact rfl); (· repeat (first | exact mH _ _ | apply mT)); iterate 3 exact rfl)
            | (apply ks; (· exact rfl); (· repeat (first | exact mH _ _ | apply mT)); iterate 2 exact rfl)
            | (apply kn; iterate 2 exact rfl)
            | (apply ke; iterate 2 exact rfl)
            | (apply kx; iterate 2 exact rfl)
            | (apply kc; iterate 2 exact rfl)
            | (apply kb; iterate 2 exact rfl)
            | (apply kg; iterate 2 exact rfl)
            | (apply kG; iterate 3 exact rfl)
            | (apply kB; (iterate 2 exact rfl); intro _)
            | (apply kA; exact rfl; intro _)
            | (apply kL; (iterate 3 exact rfl); (· repeat (first | exact BS.nil _ | (apply BS.int; exact rfl) | (apply BS.ptr; exact rfl) | (apply BS.slice; exact rfl) | (apply BS.agg; iterate 2 exact rfl))); intro _)
            | (apply kT; (iterate 2 exact rfl); (· repeat (first | exact sH _ _ _ | apply sT)); iterate 2 exact rfl)
            | (apply kS; (iterate 2 exact rfl); (· repeat (first | exact sH _ _ _ | apply sT)); exact rfl)
            | (apply kh; (iterate 2 exact rfl); (first | decide | omega); exact rfl)
            | (apply kl; (iterate 2 exact rfl); (first | decide | omega); exact rfl)
            )
          | ((first | (apply kR; (· exact rfl); (· exact rfl)) | (apply kQ; (· exact rfl))); all_goals (intro hc; try simp only [decide_eq_true_eq, decide_eq_false_iff_not, Bool.not_eq_true', Bool.not_eq_false', Bool.not_eq_true, Bool.not_eq_false, Bool.not_true, Bool.not_false, Int.not_lt, Int.not_le, List.cons.injEq, and_true, beq_iff_eq, beq_eq_false_iff_ne] at hc; try (exfalso; first | contradiction | omega)))
          )
        all_goals (
          apply DW.quiet [0, 2]
          · decide +kernel
          · first | exact fun _ h => h | exact fun _ h => St.sub h (by repeat (first | exact List.Sublist.refl _ | apply List.Sublist.cons_cons | apply List.Sublist.cons))
          repeat' (
            first
            | (apply yp; iterate 3 exact rfl)
            | (apply QL.ev; exact rfl
               · first
                 | (apply Ev.load_own; (· exact rfl); (· repeat (first | exact mH _ _ | apply mT)); exact rfl)
                 | (apply Ev.load_agg; (· exact rfl); (· repeat (first | exact mH _ _ | apply mT)); exact rfl)
                 | (apply Ev.load_rdq; (· exact rfl); (· repeat (first | exact mH _ _ | apply mT)); iterate 2 exact rfl)
                 | (apply Ev.load_ardq; (· exact rfl); (· repeat (first | exact mH _ _ | apply mT)); exact rfl)
                 | (apply Ev.fieldAddr; exact rfl)
                 | (apply Ev.len; exact rfl)
                 | (apply EqOf.eq; exact rfl)
                 | (apply EqOf.ne; exact rfl)
                 | (apply Ev.conv; exact rfl)
                 | (apply Ev.buildN; exact rfl)
                 | (apply Ev.shr; (iterate 2 exact rfl); first | decide | omega)
                 | (apply Ev.shl; (iterate 2 exact rfl); first | decide | omega)
               · exact rfl)
            | (apply yq; iterate 5 exact rfl)
            | (apply QL.evg; iterate 3 exact rfl
               · first
                 | (apply Ev.load_own; (· exact rfl); (· repeat (first | exact mH _ _ | apply mT)); exact rfl)
                 | (apply Ev.load_agg; (· exact rfl); (· repeat (first | exact mH _ _ | apply mT)); exact rfl)
                 | (apply Ev.load_rdq; (· exact rfl); (· repeat (first | exact mH _ _ | apply mT)); iterate 2 exact rfl)
                 | (apply Ev.load_ardq; (· exact rfl); (· repeat (first | exact mH _ _ | apply mT)); exact rfl)
                 | (apply Ev.fieldAddr; exact rfl)
                 | (apply Ev.len; exact rfl)
                 | (apply EqOf.eq; exact rfl)
                 | (apply EqOf.ne; exact rfl)
                 | (apply Ev.conv; exact rfl)
                 | (apply Ev.buildN; exact rfl)
                 | (apply Ev.shr; (iterate 2 exact rfl); first | decide | omega)
                 | (apply Ev.shl; (iterate 2 exact rfl); first | decide | omega)
               · exact rfl)
            | (apply yn; iterate 4 exact rfl)
            | ((apply QL.split; (· exact rfl); (· exact rfl); (· exact rfl)); all_goals (intro hc; try simp only [decide_eq_true_eq, decide_eq_false_iff_not, Bool.not_eq_true', Bool.not_eq_false', Bool.not_eq_true, Bool.not_eq_false, Bool.not_true, Bool.not_false, Int.not_lt, Int.not_le, List.cons.injEq, and_true, beq_iff_eq, beq_eq_false_iff_ne] at hc; try (exfalso; first | contradiction | omega)))
            | apply QL.nil
            )
          all_goals (show DW _ _ _ _ _ _ _ _))
        all_goals (
          apply DW.loud 1
          · exact rfl
          · decide +kernel
          repeat' (
            first
            | (apply kg; iterate 2 exact rfl)
            | (apply kG; iterate 3 exact rfl)
            | apply kM
            | (
              first
              | (apply kp; iterate 2 exact rfl)
              | (apply ko; (· exact rfl); (· repeat (first | exact mH _ _ | apply mT)); iterate 2 exact rfl)
              | (apply ka; (· exact rfl); (· repeat (first | exact mH _ _ | apply mT)); iterate 2 exact rfl)
              | (apply kL; (iterate 3 exact rfl); (· repeat (first | exact BS.nil _ | (apply BS.int; exact rfl) | (apply BS.ptr; exact rfl) | (apply BS.slice; exact rfl) | (apply BS.agg; iterate 2 exact rfl))); intro _)
              | (apply kT; (iterate 2 exact rfl); (· repeat (first | exact sH _ _ _ | apply sT)); iterate 2 exact rfl)
              | (apply kS; (iterate 2 exact rfl); (· repeat (first | exact sH _ _ _ | apply sT)); exact rfl)
              | (apply kB; (iterate 2 exact rfl); intro _)
              | (apply kA; exact rfl; intro _)
              )
            | (apply kq; (· exact rfl); (· intro w1 h1; exact CallsTo.q (g45 bg (G) w1 (h1.rd_of_blk (by (repeat (first | exact mH _ _ | apply mT)))) (by show G.node ≠ 0; omega)) h1))
            )
          all_goals (refine At.stage_same (fun _ h => St.sub h (by repeat (first | exact List.Sublist.refl _ | apply List.Sublist.cons_cons | apply List.Sublist.cons))) ?_))
        all_goals (
          apply DW.quiet [3]
          · decide +kernel
          · first | exact fun _ h => h | exact fun _ h => St.sub h (by repeat (first | exact List.Sublist.refl _ | apply List.Sublist.cons_cons | apply List.Sublist.cons))
          repeat' (
            first
            | (apply yp; iterate 3 exact rfl)
            | (apply QL.ev; exact rfl
               · first
                 | (apply Ev.load_own; (· exact rfl); (· repeat (first | exact mH _ _ | apply mT)); exact rfl)
                 | (apply Ev.load_agg; (· exact rfl); (· repeat (first | exact mH _ _ | apply mT)); exact rfl)
                 | (apply Ev.load_rdq; (· exact rfl); (· repeat (first | exact mH _ _ | apply mT)); iterate 2 exact rfl)
                 | (apply Ev.load_ardq; (· exact rfl); (· repeat (first | exact mH _ _ | apply mT)); exact rfl)
                 | (apply Ev.fieldAddr; exact rfl)
                 | (apply Ev.len; exact rfl)
                 | (apply EqOf.eq; exact rfl)
                 | (apply EqOf.ne; exact rfl)
                 | (apply Ev.conv; exact rfl)
                 | (apply Ev.buildN; exact rfl)
                 | (apply Ev.shr; (iterate 2 exact rfl); first | decide | omega)
                 | (apply Ev.shl; (iterate 2 exact rfl); first | decide | omega)
               · exact rfl)
            | (apply yq; iterate 5 exact rfl)
            | (apply QL.evg; iterate 3 exact rfl
               · first
                 | (apply Ev.load_own; (· exact rfl); (· repeat (first | exact mH _ _ | apply mT)); exact rfl)
                 | (apply Ev.load_agg; (· exact rfl); (· repeat (first | exact mH _ _ | apply mT)); exact rfl)
                 | (apply Ev.load_rdq; (· exact rfl); (· repeat (first | exact mH _ _ | apply mT)); iterate 2 exact rfl)
                 | (apply Ev.load_ardq; (· exact rfl); (· repeat (first | exact mH _ _ | apply mT)); exact rfl)
                 | (apply Ev.fieldAddr; exact rfl)
                 | (apply Ev.len; exact rfl)
                 | (apply EqOf.eq; exact rfl)
                 | (apply EqOf.ne; exact rfl)
                 | (apply Ev.conv; exact rfl)
                 | (apply Ev.buildN; exact rfl)
                 | (apply Ev.shr; (iterate 2 exact rfl); first | decide | omega)
                 | (apply Ev.shl; (iterate 2 exact rfl); first | decide | omega)
               · exact rfl)
            | (apply yn; iterate 4 exact rfl)
            | ((apply QL.split; (· exact rfl); (· exact rfl); (· exact rfl)); all_goals (intro hc; try simp only [decide_eq_true_eq, decide_eq_false_iff_not, Bool.not_eq_true', Bool.not_eq_false', Bool.not_eq_true, Bool.not_eq_false, Bool.not_true, Bool.not_false, Int.not_lt, Int.not_le, List.cons.injEq, and_true, beq_iff_eq, beq_eq_false_iff_ne] at hc; try (exfalso; first | contradiction | omega)))
            | apply QL.nil
            )
          all_goals (show DW _ _ _ _ _ _ _ _))
        all_goals (first | (apply DW.done_thn; (· decide +kernel)) | (apply DW.done; (· decide +kernel)))
        repeat' (
          first
          | (
            first
            | (apply kp; iterate 2 exact rfl)
            | apply ja | apply jb | apply jg | apply jj | (apply je; exact rfl) | (apply jf; exact rfl) | apply jd | apply jh | apply ji | (apply jc; kernel_rfl) | apply jk | apply jl | apply jm | apply jn | apply jo | (apply jp; exact rfl) | apply jq | apply jr | apply js | apply jt | apply ju | apply jv | apply jw | apply kN | apply kM
            | (apply kf; iterate 2 exact rfl)
            | (apply ko; (· exact rfl); (· repeat (first | exact mH _ _ | apply mT)); iterate 2 exact rfl)
            | (apply ka; (· exact rfl); (· repeat (first | exact mH _ _ | apply mT)); iterate 2 exact rfl)
            | (apply kr; (· exact rfl); (· repeat (first | exact mH _ _ | apply mT)); iterate 3 exact rfl)
            | (apply ks; (· exact rfl); (· repeat (first | exact mH _ _ | apply mT)); iterate 2 exact rfl)
            | (apply kn; iterate 2 exact rfl)
            | (apply ke; iterate 2 exact rfl)
            | (apply kx; iterate 2 exact rfl)
            | (apply kc; iterate 2 exact rfl)
            | (apply kb; iterate 2 exact rfl)
            | (apply kg; iterate 2 exact rfl)
            | (apply kG; iterate 3 exact rfl)
            | (apply kB; (iterate 2 exact rfl); intro _)
            | (apply kA; exact rfl; intro _)
            | (apply kL; (iterate 3 exact rfl); (· repeat (first | exact BS.nil _ | (apply BS.int; exact rfl) | (apply BS.ptr; exact rfl) | (apply BS.slice; exact rfl) | (apply BS.agg; iterate 2 exact rfl))); intro _)
            | (apply kT; (iterate 2 exact rfl); (· repeat (first | exact sH _ _ _ | apply sT)); iterate 2 exact rfl)
            | (apply kS; (iterate 2 exact rfl); (· repeat (first | exact sH _ _ _ | apply sT)); exact rfl)
            | (apply kh; (iterate 2 exact rfl); (first | decide | omega); exact rfl)
            | (apply kl; (iterate 2 exact rfl); (first | decide | omega); exact rfl)
            )
          | (apply LR.ev; (· apply Ev.add; (· exact rfl); (· exact rfl); (· first | omega | (dsimp only; omega)); (· first | omega | (dsimp only; omega))); (· exact rfl))
          | ((first | (apply kR; (· exact rfl); (· exact rfl)) | (apply kQ; (· exact rfl))); all_goals (intro hc; try simp only [decide_eq_true_eq, decide_eq_false_iff_not, Bool.not_eq_true', Bool.not_eq_false', Bool.not_eq_true, Bool.not_eq_false, Bool.not_true, Bool.not_false, Int.not_lt, Int.not_le, List.cons.injEq, and_true, beq_iff_eq, beq_eq_false_iff_ne] at hc; try (exfalso; first | contradiction | omega)))
          )
        all_goals (try (exfalso; revert hc; simp; done))
        refine At.again (i + 1, G) ⟨hi1, hG⟩ ?_ ?_ ?_ ?_
        · (repeat (first | exact Out.refl _ _ | exact Out.mix | (apply Out.upd; (· exact rfl)) | (apply Out.updL; (· exact rfl)) | (apply Out.mixs; (· exact rfl))))
        · exact ⟨rfl, trivial⟩
        · intro w' hw'
          refine hw'.sub ?_
          repeat (first | exact List.Sublist.refl _ | apply List.Sublist.cons_cons | apply List.Sublist.cons)
          done
        · exact hdec
      · have e : askS G X.d.x.k = { G with a := G.w } := by unfold askS; rw [if_pos hwb]
        repeat' (
          first
          | (
            first
            | (apply kp; iterate 2 exact rfl)
            | apply ja | apply jb | apply jg | apply jj | (apply je; exact rfl) | (apply jf; exact rfl) | apply jd | apply jh | apply ji | (apply jc; kernel_rfl) | apply jk | apply jl | apply jm | apply jn | apply jo | (apply jp; exact rfl) | apply jq | apply jr | apply js | apply jt | apply ju | apply jv | apply jw | apply kN | apply kM
            | (apply kf; iterate 2 exact rfl)
            | (apply ko; (· exact rfl); (· repeat (first | exact mH _ _ | apply mT)); iterate 2 exact rfl)
            | (apply ka; (· exact rfl); (· repeat (first | exact mH _ _ | apply mT)); iterate 2 exact rfl)
            | (apply kr; (· exact rfl); (· repeat (first | exact mH _ _ | apply mT)); iterate 3 exact rfl)
            | (apply ks; (· exact rfl); (· repeat (first | exact mH _ _ | apply mT)); iterate 2 exact rfl)
            | (apply kn; iterate 2 exact rfl)
            | (apply ke; iterate 2 exact rfl)
            | (apply kx; iterate 2 exact rfl)
            | (apply kc; iterate 2 exact rfl)
            | (apply kb; iterate 2 exact rfl)
            | (apply kg; iterate 2 exact rfl)
            | (apply kG; iterate 3 exact rfl)
            | (apply kB; (iterate 2 exact rfl); intro _)
            | (apply kA; exact rfl; intro _)
            | (apply kL; (iterate 3 exact rfl); (· repeat (first | exact BS.nil _ | (apply BS.int; exact rfl) | (apply BS.ptr; exact rfl) | (apply BS.slice; exact rfl) | (apply BS.agg; iterate 2 exact rfl))); intro _)
            | (apply kT; (iterate 2 exact rfl); (· repeat (first | exact sH _ _ _ | apply sT)); iterate 2 exact rfl)
            | (apply kS; (iterate 2 exact rfl); (· repeat (first | exact sH _ _ _ | apply sT)); exact rfl)
            | (apply kh; (iterate 2 exact rfl); (first | decide | omega); exact rfl)
            | (apply kl; (iterate 2 exact rfl); (first | decide | omega); exact rfl)
            )
          | (apply LR.ev; (· apply Ev.indexAddr; (· exact rfl); (· exact rfl); (· first | omega | (dsimp only; omega)); (· first | omega | (dsimp only; omega))); (· exact rfl))
          | (apply LR.ev; (· first | (apply Ev.load_agg_at (cs := X.row); (· exact rfl); (· exact rfl); (· intro w' hw'; exact ldr w' (hw'.rd_of (by (repeat (first | exact mH _ _ | apply mT)))) _ (by simp))) | (apply Ev.load_agg_at (cs := X.d.x.k.cells); (· exact rfl); (· exact rfl); (· intro w' hw'; exact ldk w' (hw'.rd_of (by (repeat (first | exact mH _ _ | apply mT)))) _ (by simp))) | (apply Ev.load_agg_at (cs := X.d.x.cells X.a X.c); (· exact rfl); (· exact rfl); (· intro w' hw'; exact ldi w' (hw'.rd_of (by (repeat (first | exact mH _ _ | apply mT)))) _ (by simp)))); (· exact rfl))
          | (apply kq; (· exact rfl); (· intro w1 h1; have hq := CallsTo.q (hg41 w1) h1; rw [hk] at hq; exact hq))
          | ((first | (apply kR; (· exact rfl); (· exact rfl)) | (apply kQ; (· exact rfl))); all_goals (intro hc; try simp only [decide_eq_true_eq, decide_eq_false_iff_not, Bool.not_eq_true', Bool.not_eq_false', Bool.not_eq_true, Bool.not_eq_false, Bool.not_true, Bool.not_false, Int.not_lt, Int.not_le, List.cons.injEq, and_true, beq_iff_eq, beq_eq_false_iff_ne] at hc; try (exfalso; first | contradiction | omega)))
          )
        apply LR.call
        · exact rfl
        intro w1 h1
        have hh := g36 bg G X.d.x.k w1 (h1.own_at (by (repeat (first | exact mH _ _ | apply mT))))
        rw [e] at hh
        refine CallsTo.mono hh ?_
        clear hh
        rintro v w2 ⟨rfl, st⟩
        have h2 := h1.one' st rfl (Asrt.dep_own _ _) (by (repeat (first | exact sH _ _ _ | apply sT)))
        refine LR.back h2 ?_
        clear h2 h1
        repeat' (
          first
          | (apply CW.reg_heldC)
          | (
            first
            | (apply kp; iterate 2 exact rfl)
            | apply ja | apply jb | apply jg | apply jj | (apply je; exact rfl) | (apply jf; exact rfl) | apply jd | apply jh | apply ji | (apply jc; kernel_rfl) | apply jk | apply jl | apply jm | apply jn | apply jo | (apply jp; exact rfl) | apply jq | apply jr | apply js | apply jt | apply ju | apply jv | apply jw | apply kN | apply kM
            | (apply kf; iterate 2 exact rfl)
            | (apply ko; (· exact rfl); (· repeat (first | exact mH _ _ | apply mT)); iterate 2 exact rfl)
            | (apply ka; (· exact rfl); (· repeat (first | exact mH _ _ | apply mT)); iterate 2 exact rfl)
            | (apply kr; (· exact rfl); (· repeat (first | exact mH _ _ | apply mT)); iterate 3 exact rfl)
            | (apply ks; (· exact rfl); (· repeat (first | exact mH _ _ | apply mT)); iterate 2 exact rfl)
            | (apply kn; iterate 2 exact rfl)
            | (apply ke; iterate 2 exact rfl)
            | (apply kx; iterate 2 exact rfl)
            | (apply kc; iterate 2 exact rfl)
            | (apply kb; iterate 2 exact rfl)
            | (apply kg; iterate 2 exact rfl)
            | (apply kG; iterate 3 exact rfl)
            | (apply kB; (iterate 2 exact rfl); intro _)
            | (apply kA; exact rfl; intro _)
            | (apply kL; (iterate 3 exact rfl); (· repeat (first | exact BS.nil _ | (apply BS.int; exact rfl) | (apply BS.ptr; exact rfl) | (apply BS.slice; exact rfl) | (apply BS.agg; iterate 2 exact rfl))); intro _)
            | (apply kT; (iterate 2 exact rfl); (· repeat (first | exact sH _ _ _ | apply sT)); iterate 2 exact rfl)
            | (apply kS; (iterate 2 exact rfl); (· repeat (first | exact sH _ _ _ | apply sT)); exact rfl)
            | (apply kh; (iterate 2 exact rfl); (first | decide | omega); exact rfl)
            | (apply kl; (iterate 2 exact rfl); (first | decide | omega); exact rfl)
            )
          | ((first | (apply kR; (· exact rfl); (· exact rfl)) | (apply kQ; (· exact rfl))); all_goals (intro hc; try simp only [decide_eq_true_eq, decide_eq_false_iff_not, Bool.not_eq_true', Bool.not_eq_false', Bool.not_eq_true, Bool.not_eq_false, Bool.not_true, Bool.not_false, Int.not_lt, Int.not_le, List.cons.injEq, and_true, beq_iff_eq, beq_eq_false_iff_ne] at hc; try (exfalso; first | contradiction | omega)))
          )
        all_goals (
          apply DW.quiet [0, 2]
          · decide +kernel
          · first | exact fun _ h => h | exact fun _ h => St.sub h (by repeat (first | exact List.Sublist.refl _ | apply List.Sublist.cons_cons | apply List.Sublist.cons))
          repeat' (
            first
            | (apply yp; iterate 3 exact rfl)
            | (apply QL.ev; exact rfl
               · first
                 | (apply Ev.load_own; (· exact rfl); (· repeat (first | exact mH _ _ | apply mT)); exact rfl)
                 | (apply Ev.load_agg; (· exact rfl); (· repeat (first | exact mH _ _ | apply mT)); exact rfl)
                 | (apply Ev.load_rdq; (· exact rfl); (· repeat (first | exact mH _ _ | apply mT)); iterate 2 exact rfl)
                 | (apply Ev.load_ardq; (· exact rfl); (· repeat (first | exact mH _ _ | apply mT)); exact rfl)
                 | (apply Ev.fieldAddr; exact rfl)
                 | (apply Ev.len; exact rfl)
                 | (apply EqOf.eq; exact rfl)
                 | (apply EqOf.ne; exact rfl)
                 | (apply Ev.conv; exact rfl)
                 | (apply Ev.buildN; exact rfl)
                 | (apply Ev.shr; (iterate 2 exact rfl); first | decide | omega)
                 | (apply Ev.shl; (iterate 2 exact rfl); first | decide | omega)
               · exact rfl)
            | (apply yq; iterate 5 exact rfl)
            | (apply QL.evg; iterate 3 exact rfl
               · first
                 | (apply Ev.load_own; (· exact rfl); (· repeat (first | exact mH _ _ | apply mT)); exact rfl)
                 | (apply Ev.load_agg; (· exact rfl); (· repeat (first | exact mH _ _ | apply mT)); exact rfl)
                 | (apply Ev.load_rdq; (· exact rfl); (· repeat (first | exact mH _ _ | apply mT)); iterate 2 exact rfl)
                 | (apply Ev.load_ardq; (· exact rfl); (· repeat (first | exact mH _ _ | apply mT)); exact rfl)
                 | (apply Ev.fieldAddr; exact rfl)
                 | (apply Ev.len; exact rfl)
                 | (apply EqOf.eq; exact rfl)
                 | (apply EqOf.ne; exact rfl)
                 | (apply Ev.conv; exact rfl)
                 | (apply Ev.buildN; exact rfl)
                 | (apply Ev.shr; (iterate 2 exact rfl); first | decide | omega)
                 | (apply Ev.shl; (iterate 2 exact rfl); first | decide | omega)
               · exact rfl)
            | (apply yn; iterate 4 exact rfl)
            | ((apply QL.split; (· exact rfl); (· exact rfl); (· exact rfl)); all_goals (intro hc; try simp only [decide_eq_true_eq, decide_eq_false_iff_not, Bool.not_eq_true', Bool.not_eq_false', Bool.not_eq_true, Bool.not_eq_false, Bool.not_true, Bool.not_false, Int.not_lt, Int.not_le, List.cons.injEq, and_true, beq_iff_eq, beq_eq_false_iff_ne] at hc; try (exfalso; first | contradiction | omega)))
            | apply QL.nil
            )
          all_goals (show DW _ _ _ _ _ _ _ _))
        all_goals (
          apply DW.loud 1
          · exact rfl
          · decide +kernel
          repeat' (
            first
            | (apply kg; iterate 2 exact rfl)
            | (apply kG; iterate 3 exact rfl)
            | apply kM
            | (
              first
              | (apply kp; iterate 2 exact rfl)
              | (apply ko; (· exact rfl); (· repeat (first | exact mH _ _ | apply mT)); iterate 2 exact rfl)
              | (apply ka; (· exact rfl); (· repeat (first | exact mH _ _ | apply mT)); iterate 2 exact rfl)
              | (apply kL; (iterate 3 exact rfl); (· repeat (first | exact BS.nil _ | (apply BS.int; exact rfl) | (apply BS.ptr; exact rfl) | (apply BS.slice; exact rfl) | (apply BS.agg; iterate 2 exact rfl))); intro _)
              | (apply kT; (iterate 2 exact rfl); (· repeat (first | exact sH _ _ _ | apply sT)); iterate 2 exact rfl)
              | (apply kS; (iterate 2 exact rfl); (· repeat (first | exact sH _ _ _ | apply sT)); exact rfl)
              | (apply kB; (iterate 2 exact rfl); intro _)
              | (apply kA; exact rfl; intro _)
              )
            | (apply kq; (· exact rfl); (· intro w1 h1; exact CallsTo.q (g45 bg ({ G with a := G.w }) w1 (h1.rd_of_blk (by (repeat (first | exact mH _ _ | apply mT)))) (by show G.node ≠ 0; omega)) h1))
            )
          all_goals (refine At.stage_same (fun _ h => St.sub h (by repeat (first | exact List.Sublist.refl _ | apply List.Sublist.cons_cons | apply List.Sublist.cons))) ?_))
        all_goals (
          apply DW.quiet [3]
          · decide +kernel
          · first | exact fun _ h => h | exact fun _ h => St.sub h (by repeat (first | exact List.Sublist.refl _ | apply List.Sublist.cons_cons | apply List.Sublist.cons))
          repeat' (
            first
            | (apply yp; iterate 3 exact rfl)
            | (apply QL.ev; exact rfl
               · first
                 | (apply Ev.load_own; (· exact rfl); (· repeat (first | exact mH _ _ | apply mT)); exact rfl)
                 | (apply Ev.load_agg; (· exact rfl); (· repeat (first | exact mH _ _ | apply mT)); exact rfl)
                 | (apply Ev.load_rdq; (· exact rfl); (· repeat (first | exact mH _ _ | apply mT)); iterate 2 exact rfl)
                 | (apply Ev.load_ardq; (· exact rfl); (· repeat (first | exact mH _ _ | apply mT)); exact rfl)
                 | (apply Ev.fieldAddr; exact rfl)
                 | (apply Ev.len; exact rfl)
                 | (apply EqOf.eq; exact rfl)
                 | (apply EqOf.ne; exact rfl)
                 | (apply Ev.conv; exact rfl)
                 | (apply Ev.buildN; exact rfl)
                 | (apply Ev.shr; (iterate 2 exact rfl); first | decide | omega)
                 | (apply Ev.shl; (iterate 2 exact rfl); first | decide | omega)
               · exact rfl)
            | (apply yq; iterate 5 exact rfl)
            | (apply QL.evg; iterate 3 exact rfl
               · first
                 | (apply Ev.load_own; (· exact rfl); (· repeat (first | exact mH _ _ | apply mT)); exact rfl)
                 | (apply Ev.load_agg; (· exact rfl); (· repeat (first | exact mH _ _ | apply mT)); exact rfl)
                 | (apply Ev.load_rdq; (· exact rfl); (· repeat (first | exact mH _ _ | apply mT)); iterate 2 exact rfl)
                 | (apply Ev.load_ardq; (· exact rfl); (· repeat (first | exact mH _ _ | apply mT)); exact rfl)
                 | (apply Ev.fieldAddr; exact rfl)
                 | (apply Ev.len; exact rfl)
                 | (apply EqOf.eq; exact rfl)
                 | (apply EqOf.ne; exact rfl)
                 | (apply Ev.conv; exact rfl)
                 | (apply Ev.buildN; exact rfl)
                 | (apply Ev.shr; (iterate 2 exact rfl); first | decide | omega)
                 | (apply Ev.shl; (iterate 2 exact rfl); first | decide | omega)
               · exact rfl)
            | (apply yn; iterate 4 exact rfl)
            | ((apply QL.split; (· exact rfl); (· exact rfl); (· exact rfl)); all_goals (intro hc; try simp only [decide_eq_true_eq, decide_eq_false_iff_not, Bool.not_eq_true', Bool.not_eq_false', Bool.not_eq_true, Bool.not_eq_false, Bool.not_true, Bool.not_false, Int.not_lt, Int.not_le, List.cons.injEq, and_true, beq_iff_eq, beq_eq_false_iff_ne] at hc; try (exfalso; first | contradiction | omega)))
            | apply QL.nil
            )
          all_goals (show DW _ _ _ _ _ _ _ _))
        all_goals (first | (apply DW.done_thn; (· decide +kernel)) | (apply DW.done; (· decide +kernel)))
        repeat' (
          first
          | (
            first
            | (apply kp; iterate 2 exact rfl)
            | apply ja | apply jb | apply jg | apply jj | (apply je; exact rfl) | (apply jf; exact rfl) | apply jd | apply jh | apply ji | (apply jc; kernel_rfl) | apply jk | apply jl | apply jm | apply jn | apply jo | (apply jp; exact rfl) | apply jq | apply jr | apply js | apply jt | apply ju | apply jv | apply jw | apply kN | apply kM
            | (apply kf; iterate 2 exact rfl)
            | (apply ko; (· exact rfl); (· repeat (first | exact mH _ _ | apply mT)); iterate 2 exact rfl)
            | (apply ka; (· exact rfl); (· repeat (first | exact mH _ _ | apply mT)); iterate 2 exact rfl)
            | (apply kr; (· exact rfl); (· repeat (first | exact mH _ _ | apply mT)); iterate 3 exact rfl)
            | (apply ks; (· exact rfl); (· repeat (first | exact mH _ _ | apply mT)); iterate 2 exact rfl)
            | (apply kn; iterate 2 exact rfl)
            | (apply ke; iterate 2 exact rfl)
            | (apply kx; iterate 2 exact rfl)
            | (apply kc; iterate 2 exact rfl)
            | (apply kb; iterate 2 exact rfl)
            | (apply kg; iterate 2 exact rfl)
            | (apply kG; iterate 3 exact rfl)
            | (apply kB; (iterate 2 exact rfl); intro _)
            | (apply kA; exact rfl; intro _)
            | (apply kL; (iterate 3 exact rfl); (· repeat (first | exact BS.nil _ | (apply BS.int; exact rfl) | (apply BS.ptr; exact rfl) | (apply BS.slice; exact rfl) | (apply BS.agg; iterate 2 exact rfl))); intro _)
            | (apply kT; (iterate 2 exact rfl); (· repeat (first | exact sH _ _ _ | apply sT)); iterate 2 exact rfl)
            | (apply kS; (iterate 2 exact rfl); (· repeat (first | exact sH _ _ _ | apply sT)); exact rfl)
            | (apply kh; (iterate 2 exact rfl); (first | decide | omega); exact rfl)
            | (apply kl; (iterate 2 exact rfl); (first | decide | omega); exact rfl)
            )
          | (apply LR.ev; (· apply Ev.add; (· exact rfl); (· exact rfl); (· first | omega | (dsimp only; omega)); (· first | omega | (dsimp only; omega))); (· exact rfl))
          | ((first | (apply kR; (· exact rfl); (· exact rfl)) | (apply kQ; (· exact rfl))); all_goals (intro hc; try simp only [decide_eq_true_eq, decide_eq_false_iff_not, Bool.not_eq_true', Bool.not_eq_false', Bool.not_eq_true, Bool.not_eq_false, Bool.not_true, Bool.not_false, Int.not_lt, Int.not_le, List.cons.injEq, and_true, beq_iff_eq, beq_eq_false_iff_ne] at hc; try (exfalso; first | contradiction | omega)))
          )
        all_goals (try (exfalso; revert hc; simp; done))
        refine At.again (i + 1, { G with a := G.w }) ⟨hi1, hG⟩ ?_ ?_ ?_ ?_
        · (repeat (first | exact Out.refl _ _ | exact Out.mix | (apply Out.upd; (· exact rfl)) | (apply Out.updL; (· exact rfl)) | (apply Out.mixs; (· exact rfl))))
        · exact ⟨rfl, trivial⟩
        · intro w' hw'
          refine hw'.sub ?_
          repeat (first | exact List.Sublist.refl _ | apply List.Sublist.cons_cons | apply List.Sublist.cons)
          done
        · exact hdec
    · by_cases hbb : beginB X.d.x.k X.d.ps = true
      · have e2 : beginM G X.d.x.k X.d.ps = chartM G.node (charts X.d.ps).1 := by unfold beginM; rw [if_pos hbb]
        have e3 : beginE X.d.x.k X.d.ps = 0 := by unfold beginE; rw [if_pos hbb]
        have hck := check_begin hGn hbb
        rw [e2] at hck
        have hcl := charts_len X.d.ps
        have hcb := charts_byt X.d.ps
        have hok : okK X.d.x.k := by unfold beginB at hbb; simp only [decide_eq_true_eq] at hbb; exact hbb.1
        have habp : aboveB X.d.x.k G.p = decide (0 < keysI X.d.x.k G.p) := by unfold aboveB; simp [hok]
        by_cases hab : aboveB X.d.x.k G.p = true
        · have e : beginS G X.d.x.k X.d.ps = { G with p := X.d.x.k } := by unfold beginS; rw [if_pos ⟨hbb, hab⟩]
          have hri : 0 < keysI X.d.x.k G.p := by rw [habp] at hab; simpa using hab
          repeat' (
            first
            | (apply CW.reg_held (St w NoF [.own _ (.cells X.d.x.k.cells.toArray 25 (0, 0)), rdA (some ⟨ba, oa, none⟩) (l.flatMap DooA.row)]))
            | (
              first
              | (apply kp; iterate 2 exact rfl)
              | apply ja | apply jb | apply jg | apply jj | (apply je; exact rfl) | (apply jf; exact rfl) | apply jd | apply jh | apply ji | (apply jc; kernel_rfl) | apply jk | apply jl | apply jm | apply jn | apply jo | (apply jp; exact rfl) | apply jq | apply jr | apply js | apply jt | apply ju | apply jv | apply jw | apply kN | apply kM
              | (apply kf; iterate 2 exact rfl)
              | (apply ko; (· exact rfl); (· repeat (first | exact mH _ _ | apply mT)); iterate 2 exact rfl)
              | (apply ka; (· exact rfl); (· repeat (first | exact mH _ _ | apply mT)); iterate 2 exact rfl)
              | (apply kr; (· exact rfl); (· repeat (first | exact mH _ _ | apply mT)); iterate 3 exact rfl)
              | (apply ks; (· exact rfl); (· repeat (first | exact mH _ _ | apply mT)); iterate 2 exact rfl)
              | (apply kn; iterate 2 exact rfl)
              | (apply ke; iterate 2 exact rfl)
              | (apply kx; iterate 2 exact rfl)
              | (apply kc; iterate 2 exact rfl)
              | (apply kb; iterate 2 exact rfl)
              | (apply kg; iterate 2 exact rfl)
              | (apply kG; iterate 3 exact rfl)
              | (apply kB; (iterate 2 exact rfl); intro _)
              | (apply kA; exact rfl; intro _)
              | (apply kL; (iterate 3 exact rfl); (· repeat (first | exact BS.nil _ | (apply BS.int; exact rfl) | (apply BS.ptr; exact rfl) | (apply BS.slice; exact rfl) | (apply BS.agg; iterate 2 exact rfl))); intro _)
              | (apply kT; (iterate 2 exact rfl); (· repeat (first | exact sH _ _ _ | apply sT)); iterate 2 exact rfl)
              | (apply kS; (iterate 2 exact rfl); (· repeat (first | exact sH _ _ _ | apply sT)); exact rfl)
              | (apply kh; (iterate 2 exact rfl); (first | decide | omega); exact rfl)
              | (apply kl; (iterate 2 exact rfl); (first | decide | omega); exact rfl)
              )
            | (apply LR.ev; (· apply Ev.indexAddr; (· exact rfl); (· exact rfl); (· first | omega | (dsimp only; omega)); (· first | omega | (dsimp only; omega))); (· exact rfl))
            | (apply LR.ev; (· first | (apply Ev.load_agg_at (cs := X.row); (· exact rfl); (· exact rfl); (· intro w' hw'; exact ldr w' (hw'.rd_of (by (repeat (first | exact mH _ _ | apply mT)))) _ (by simp))) | (apply Ev.load_agg_at (cs := X.d.x.k.cells); (· exact rfl); (· exact rfl); (· intro w' hw'; exact ldk w' (hw'.rd_of (by (repeat (first | exact mH _ _ | apply mT)))) _ (by simp))) | (apply Ev.load_agg_at (cs := X.d.x.cells X.a X.c); (· exact rfl); (· exact rfl); (· intro w' hw'; exact ldi w' (hw'.rd_of (by (repeat (first | exact mH _ _ | apply mT)))) _ (by simp)))); (· exact rfl))
            | (apply kq; (· exact rfl); (· intro w1 h1; have hq := CallsTo.q (hg41 w1) h1; rw [hk] at hq; exact hq))
            | ((first | (apply kR; (· exact rfl); (· exact rfl)) | (apply kQ; (· exact rfl))); all_goals (intro hc; try simp only [decide_eq_true_eq, decide_eq_false_iff_not, Bool.not_eq_true', Bool.not_eq_false', Bool.not_eq_true, Bool.not_eq_false, Bool.not_true, Bool.not_false, Int.not_lt, Int.not_le, List.cons.injEq, and_true, beq_iff_eq, beq_eq_false_iff_ne] at hc; try (exfalso; first | contradiction | omega)))
            )
          apply DW.quiet [0, 1, 2, 3, 4, 5, 6]
          · decide +kernel
          · exact fun _ h => St.sub h (by repeat (first | exact List.Sublist.refl _ | apply List.Sublist.cons_cons | apply List.Sublist.cons))
          repeat' (
            first
            | (apply yp; iterate 3 exact rfl)
            | (apply QL.ev; exact rfl
               · first
                 | (apply Ev.load_own; (· exact rfl); (· repeat (first | exact mH _ _ | apply mT)); exact rfl)
                 | (apply Ev.load_agg; (· exact rfl); (· repeat (first | exact mH _ _ | apply mT)); exact rfl)
                 | (apply Ev.load_rdq; (· exact rfl); (· repeat (first | exact mH _ _ | apply mT)); iterate 2 exact rfl)
                 | (apply Ev.load_ardq; (· exact rfl); (· repeat (first | exact mH _ _ | apply mT)); exact rfl)
                 | (apply Ev.fieldAddr; exact rfl)
                 | (apply Ev.len; exact rfl)
                 | (apply EqOf.eq; exact rfl)
                 | (apply EqOf.ne; exact rfl)
                 | (apply Ev.conv; exact rfl)
                 | (apply Ev.buildN; exact rfl)
                 | (apply Ev.shr; (iterate 2 exact rfl); first | decide | omega)
                 | (apply Ev.shl; (iterate 2 exact rfl); first | decide | omega)
               · exact rfl)
            | (apply QL.ev; (· exact rfl); (· apply Ev.indexAddr; (· exact rfl); (· exact rfl); (· first | omega | (dsimp only; omega)); (· first | omega | (dsimp only; omega))); (· exact rfl))
            | (apply QL.ev; (· exact rfl); (· apply Ev.load; (· exact rfl); (· intro w' hw'; exact ldp w' (hw'.rd_of (by (repeat (first | exact mH _ _ | apply mT)))) _ (by simp))); (· exact rfl))
            | (apply yq; iterate 5 exact rfl)
            | (apply QL.evg; iterate 3 exact rfl
               · first
                 | (apply Ev.load_own; (· exact rfl); (· repeat (first | exact mH _ _ | apply mT)); exact rfl)
                 | (apply Ev.load_agg; (· exact rfl); (· repeat (first | exact mH _ _ | apply mT)); exact rfl)
                 | (apply Ev.load_rdq; (· exact rfl); (· repeat (first | exact mH _ _ | apply mT)); iterate 2 exact rfl)
                 | (apply Ev.load_ardq; (· exact rfl); (· repeat (first | exact mH _ _ | apply mT)); exact rfl)
                 | (apply Ev.fieldAddr; exact rfl)
                 | (apply Ev.len; exact rfl)
                 | (apply EqOf.eq; exact rfl)
                 | (apply EqOf.ne; exact rfl)
                 | (apply Ev.conv; exact rfl)
                 | (apply Ev.buildN; exact rfl)
                 | (apply Ev.shr; (iterate 2 exact rfl); first | decide | omega)
                 | (apply Ev.shl; (iterate 2 exact rfl); first | decide | omega)
               · exact rfl)
            | (apply yn; iterate 4 exact rfl)
            | ((apply QL.split; (· exact rfl); (· exact rfl); (· exact rfl)); all_goals (intro hc; try simp only [decide_eq_true_eq, decide_eq_false_iff_not, Bool.not_eq_true', Bool.not_eq_false', Bool.not_eq_true, Bool.not_eq_false, Bool.not_true, Bool.not_false, Int.not_lt, Int.not_le, List.cons.injEq, and_true, beq_iff_eq, beq_eq_false_iff_ne] at hc; try (exfalso; first | contradiction | omega)))
            | apply QL.nil
            )
          apply DP.begin []
          refine DP.more (PI.lr 11 12 [] (fun b => .pointer (some ⟨b, 0, none⟩)) (fun b => [.own b (.cells [.int .i64 0, .int .i64 0, .int .i64 0, .int .i64 0, .int .i64 0, .int .i64 0, .int .i64 0, .bool false, .int .i64 0, .int .i64 0, .int .i64 0, .int .i64 0, .slice none 0 0].toArray 28 (0, 0))]) rfl (fun b x hx => by simp at hx; subst hx; rfl) ?_) ?_
          · intro h w2
            apply kA
            · exact rfl
            intro b
            apply kM
            exact At.made rfl
          refine DP.go 7 [11] [12] [[]] rfl rfl rfl rfl (by decide +kernel) ⟨trivial, fun _ _ _ => trivial, trivial⟩ (fun A w' hA => St.sub hA (by simp only [List.cons_append, List.nil_append]; repeat (first | exact List.nil_sublist _ | exact List.Sublist.refl _ | apply List.Sublist.cons_cons | apply List.Sublist.cons))) ?_
          intro gg A LA hLA
          simp only [List.cons_append, List.nil_append] at hLA
          subst hLA
          apply LR.call
          · exact rfl
          intro w1 h1
          have hh := g42 bg G X.d.x.k X.ak X.ck X.d.ps w1 (h1.own_at (by (repeat (first | exact mH _ _ | apply mT)))) (by omega) (h1.oldRd hx.hrk) (h1.oldApart (x := gO 95 bg G) (by (repeat (first | exact mH _ _ | apply mT))) rfl hx.hrk) hx.hmk hx.hik
          rw [e, e2, e3] at hh
          refine CallsTo.mono hh ?_
          clear hh
          rintro v w2 ⟨a1, c1, rfl, st⟩
          have h2 := h1.two st rfl rfl rfl (by (repeat (first | exact sH _ _ _ | apply sT)))
          refine LR.back h2 ?_
          clear h2 h1
          apply kM
          apply At.pdone (ds := [12]) rfl
          · repeat (first | exact MixR.base _ | (apply MixR.upd; case hd => exact rfl))
          · repeat (first | exact Tl.nil | apply Tl.cons)
          · exact (fun A w' hA => St.sub hA (by simp only [List.cons_append, List.nil_append]; repeat (first | exact List.nil_sublist _ | exact List.Sublist.refl _ | apply List.Sublist.cons_cons | apply List.Sublist.cons)))
          refine DP.quiet [8, 9, 10] [11] [12] rfl rfl (by decide +kernel) (fun A w' hA => St.sub hA (by simp only [List.cons_append, List.nil_append]; repeat (first | exact List.nil_sublist _ | exact List.Sublist.refl _ | apply List.Sublist.cons_cons | apply List.Sublist.cons))) (fun gg => ?_)
          repeat' (
            first
            | (apply yp; iterate 3 exact rfl)
            | (apply QL.ev; exact rfl
               · first
                 | (apply Ev.load_own; (· exact rfl); (· repeat (first | exact mH _ _ | apply mT)); exact rfl)
                 | (apply Ev.load_agg; (· exact rfl); (· repeat (first | exact mH _ _ | apply mT)); exact rfl)
                 | (apply Ev.load_rdq; (· exact rfl); (· repeat (first | exact mH _ _ | apply mT)); iterate 2 exact rfl)
                 | (apply Ev.load_ardq; (· exact rfl); (· repeat (first | exact mH _ _ | apply mT)); exact rfl)
                 | (apply Ev.fieldAddr; exact rfl)
                 | (apply Ev.len; exact rfl)
                 | (apply EqOf.eq; exact rfl)
                 | (apply EqOf.ne; exact rfl)
                 | (apply Ev.conv; exact rfl)
                 | (apply Ev.buildN; exact rfl)
                 | (apply Ev.shr; (iterate 2 exact rfl); first | decide | omega)
                 | (apply Ev.shl; (iterate 2 exact rfl); first | decide | omega)
               · exact rfl)
            | (apply yq; iterate 5 exact rfl)
            | (apply QL.evg; iterate 3 exact rfl
               · first
                 | (apply Ev.load_own; (· exact rfl); (· repeat (first | exact mH _ _ | apply mT)); exact rfl)
                 | (apply Ev.load_agg; (· exact rfl); (· repeat (first | exact mH _ _ | apply mT)); exact rfl)
                 | (apply Ev.load_rdq; (· exact rfl); (· repeat (first | exact mH _ _ | apply mT)); iterate 2 exact rfl)
                 | (apply Ev.load_ardq; (· exact rfl); (· repeat (first | exact mH _ _ | apply mT)); exact rfl)
                 | (apply Ev.fieldAddr; exact rfl)
                 | (apply Ev.len; exact rfl)
                 | (apply EqOf.eq; exact rfl)
                 | (apply EqOf.ne; exact rfl)
                 | (apply Ev.conv; exact rfl)
                 | (apply Ev.buildN; exact rfl)
                 | (apply Ev.shr; (iterate 2 exact rfl); first | decide | omega)
                 | (apply Ev.shl; (iterate 2 exact rfl); first | decide | omega)
               · exact rfl)
            | (apply yn; iterate 4 exact rfl)
            | ((apply QL.split; (· exact rfl); (· exact rfl); (· exact rfl)); all_goals (intro hc; try simp only [decide_eq_true_eq, decide_eq_false_iff_not, Bool.not_eq_true', Bool.not_eq_false', Bool.not_eq_true, Bool.not_eq_false, Bool.not_true, Bool.not_false, Int.not_lt, Int.not_le, List.cons.injEq, and_true, beq_iff_eq, beq_eq_false_iff_ne] at hc; try (exfalso; first | contradiction | omega)))
            | apply QL.nil
            )
          apply pq_done
          · repeat (first | exact MixR.base _ | (apply MixR.upd; case hd => exact rfl))
          refine DP.take 11 12 (fun b => .pointer (some ⟨b, 0, none⟩)) (fun b => [.own b (.cells [.int .i64 0, .int .i64 0, .int .i64 0, .int .i64 0, .int .i64 0, .int .i64 0, .int .i64 0, .bool false, .int .i64 0, .int .i64 0, .int .i64 0, .int .i64 0, .slice none 0 0].toArray 28 (0, 0))]) [] [12] [[]] rfl rfl rfl rfl rfl rfl rfl (by decide +kernel) ⟨trivial, fun _ _ _ => trivial, trivial⟩ (fun A w' hA => St.sub hA (by simp only [List.cons_append, List.nil_append]; repeat (first | exact List.nil_sublist _ | exact List.Sublist.refl _ | apply List.Sublist.cons_cons | apply List.Sublist.cons))) (fun b12 => ?_)
          refine DP.nil ?_
          refine DW.castL (by simp only [List.cons_append, List.nil_append]; exact rfl) ?_
          apply DW.loud 12
          · exact rfl
          · decide +kernel
          repeat' (
            first
            | (apply kg; iterate 2 exact rfl)
            | (apply kG; iterate 3 exact rfl)
            | apply kM
            | (
              first
              | (apply kp; iterate 2 exact rfl)
              | (apply ko; (· exact rfl); (· repeat (first | exact mH _ _ | apply mT)); iterate 2 exact rfl)
              | (apply ka; (· exact rfl); (· repeat (first | exact mH _ _ | apply mT)); iterate 2 exact rfl)
              | (apply kL; (iterate 3 exact rfl); (· repeat (first | exact BS.nil _ | (apply BS.int; exact rfl) | (apply BS.ptr; exact rfl) | (apply BS.slice; exact rfl) | (apply BS.agg; iterate 2 exact rfl))); intro _)
              | (apply kT; (iterate 2 exact rfl); (· repeat (first | exact sH _ _ _ | apply sT)); iterate 2 exact rfl)
              | (apply kS; (iterate 2 exact rfl); (· repeat (first | exact sH _ _ _ | apply sT)); exact rfl)
              | (apply kB; (iterate 2 exact rfl); intro _)
              | (apply kA; exact rfl; intro _)
              )
            )
          refine At.stage_same (fun _ h => St.sub h (by repeat (first | exact List.Sublist.refl _ | apply List.Sublist.cons_cons | apply List.Sublist.cons))) ?_
          apply DW.quiet [13]
          · decide +kernel
          · exact fun _ h => St.sub h (by repeat (first | exact List.Sublist.refl _ | apply List.Sublist.cons_cons | apply List.Sublist.cons))
          repeat' (
            first
            | (apply yp; iterate 3 exact rfl)
            | (apply QL.ev; exact rfl
               · first
                 | (apply Ev.load_own; (· exact rfl); (· repeat (first | exact mH _ _ | apply mT)); exact rfl)
                 | (apply Ev.load_agg; (· exact rfl); (· repeat (first | exact mH _ _ | apply mT)); exact rfl)
                 | (apply Ev.load_rdq; (· exact rfl); (· repeat (first | exact mH _ _ | apply mT)); iterate 2 exact rfl)
                 | (apply Ev.load_ardq; (· exact rfl); (· repeat (first | exact mH _ _ | apply mT)); exact rfl)
                 | (apply Ev.fieldAddr; exact rfl)
                 | (apply Ev.len; exact rfl)
                 | (apply EqOf.eq; exact rfl)
                 | (apply EqOf.ne; exact rfl)
                 | (apply Ev.conv; exact rfl)
                 | (apply Ev.buildN; exact rfl)
                 | (apply Ev.shr; (iterate 2 exact rfl); first | decide | omega)
                 | (apply Ev.shl; (iterate 2 exact rfl); first | decide | omega)
               · exact rfl)
            | (apply yq; iterate 5 exact rfl)
            | (apply QL.evg; iterate 3 exact rfl
               · first
                 | (apply Ev.load_own; (· exact rfl); (· repeat (first | exact mH _ _ | apply mT)); exact rfl)
                 | (apply Ev.load_agg; (· exact rfl); (· repeat (first | exact mH _ _ | apply mT)); exact rfl)
                 | (apply Ev.load_rdq; (· exact rfl); (· repeat (first | exact mH _ _ | apply mT)); iterate 2 exact rfl)
                 | (apply Ev.load_ardq; (· exact rfl); (· repeat (first | exact mH _ _ | apply mT)); exact rfl)
                 | (apply Ev.fieldAddr; exact rfl)
                 | (apply Ev.len; exact rfl)
                 | (apply EqOf.eq; exact rfl)
                 | (apply EqOf.ne; exact rfl)
                 | (apply Ev.conv; exact rfl)
                 | (apply Ev.buildN; exact rfl)
                 | (apply Ev.shr; (iterate 2 exact rfl); first | decide | omega)
                 | (apply Ev.shl; (iterate 2 exact rfl); first | decide | omega)
               · exact rfl)
            | (apply yn; iterate 4 exact rfl)
            | ((apply QL.split; (· exact rfl); (· exact rfl); (· exact rfl)); all_goals (intro hc; try simp only [decide_eq_true_eq, decide_eq_false_iff_not, Bool.not_eq_true', Bool.not_eq_false', Bool.not_eq_true, Bool.not_eq_false, Bool.not_true, Bool.not_false, Int.not_lt, Int.not_le, List.cons.injEq, and_true, beq_iff_eq, beq_eq_false_iff_ne] at hc; try (exfalso; first | contradiction | omega)))
            | apply QL.nil
            )
          all_goals (show DW _ _ _ _ _ _ _ _)
          first | (apply DW.done_thn; (· decide +kernel)) | (apply DW.done; (· decide +kernel))
          repeat' (
            first
            | (apply CW.reg_heldC)
            | (
              first
              | (apply kp; iterate 2 exact rfl)
              | apply ja | apply jb | apply jg | apply jj | (apply je; exact rfl) | (apply jf; exact rfl) | apply jd | apply jh | apply ji | (apply jc; kernel_rfl) | apply jk | apply jl | apply jm | apply jn | apply jo | (apply jp; exact rfl) | apply jq | apply jr | apply js | apply jt | apply ju | apply jv | apply jw | apply kN | apply kM
              | (apply kf; iterate 2 exact rfl)
              | (apply ko; (· exact rfl); (· repeat (first | exact mH _ _ | apply mT)); iterate 2 exact rfl)
              | (apply ka; (· exact rfl); (· repeat (first | exact mH _ _ | apply mT)); iterate 2 exact rfl)
              | (apply kr; (· exact rfl); (· repeat (first | exact mH _ _ | apply mT)); iterate 3 exact rfl)
              | (apply ks; (· exact rfl); (· repeat (first | exact mH _ _ | apply mT)); iterate 2 exact rfl)
              | (apply kn; iterate 2 exact rfl)
              | (apply ke; iterate 2 exact rfl)
              | (apply kx; iterate 2 exact rfl)
              | (apply kc; iterate 2 exact rfl)
              | (apply kb; iterate 2 exact rfl)
              | (apply kg; iterate 2 exact rfl)
              | (apply kG; iterate 3 exact rfl)
              | (apply kB; (iterate 2 exact rfl); intro _)
              | (apply kA; exact rfl; intro _)
              | (apply kL; (iterate 3 exact rfl); (· repeat (first | exact BS.nil _ | (apply BS.int; exact rfl) | (apply BS.ptr; exact rfl) | (apply BS.slice; exact rfl) | (apply BS.agg; iterate 2 exact rfl))); intro _)
              | (apply kT; (iterate 2 exact rfl); (· repeat (first | exact sH _ _ _ | apply sT)); iterate 2 exact rfl)
              | (apply kS; (iterate 2 exact rfl); (· repeat (first | exact sH _ _ _ | apply sT)); exact rfl)
              | (apply kh; (iterate 2 exact rfl); (first | decide | omega); exact rfl)
              | (apply kl; (iterate 2 exact rfl); (first | decide | omega); exact rfl)
              )
            | (apply kq; (· exact rfl); (· intro w1 h1; exact CallsTo.q (g44 X.d.x.k G.p w1) h1))
            | (apply kq; (· exact rfl); (· intro w1 h1; have hq := CallsTo.q (d17 (chartM G.node (charts X.d.ps).1) a1 c1 w1 (h1.rd_of_own (by (repeat (first | exact mH _ _ | apply mT)))) (fun e => (ownsRow_some (h1.holds (osl (.slice a1 (chartM G.node (charts X.d.ps).1).body.length c1) 5 1 (chartM G.node (charts X.d.ps).1).body.length (bv (chartM G.node (charts X.d.ps).1).body)) (by (repeat (first | exact mH _ _ | apply mT)))) e).2) (by show (charts X.d.ps).1.length ≤ _; omega) hcb) h1; rw [hck] at hq; show CallsTo Try.prog 43 [(chartM G.node (charts X.d.ps).1).val a1 c1] w1 _; exact hq))
            | ((first | (apply kR; (· exact rfl); (· exact rfl)) | (apply kQ; (· exact rfl))); all_goals (intro hc; try simp only [decide_eq_true_eq, decide_eq_false_iff_not, Bool.not_eq_true', Bool.not_eq_false', Bool.not_eq_true, Bool.not_eq_false, Bool.not_true, Bool.not_false, Int.not_lt, Int.not_le, List.cons.injEq, and_true, beq_iff_eq, beq_eq_false_iff_ne] at hc; try (exfalso; first | contradiction | omega)))
            )
          all_goals (try (exfalso; revert hc; first | (simp [fromM, chartM]; done) | omega))
          repeat' (
            first
            | (apply CW.reg_heldC)
            | (
              first
              | (apply kp; iterate 2 exact rfl)
              | apply ja | apply jb | apply jg | apply jj | (apply je; exact rfl) | (apply jf; exact rfl) | apply jd | apply jh | apply ji | (apply jc; kernel_rfl) | apply jk | apply jl | apply jm | apply jn | apply jo | (apply jp; exact rfl) | apply jq | apply jr | apply js | apply jt | apply ju | apply jv | apply jw | apply kN | apply kM
              | (apply kf; iterate 2 exact rfl)
              | (apply ko; (· exact rfl); (· repeat (first | exact mH _ _ | apply mT)); iterate 2 exact rfl)
              | (apply ka; (· exact rfl); (· repeat (first | exact mH _ _ | apply mT)); iterate 2 exact rfl)
              | (apply kr; (· exact rfl); (· repeat (first | exact mH _ _ | apply mT)); iterate 3 exact rfl)
              | (apply ks; (· exact rfl); (· repeat (first | exact mH _ _ | apply mT)); iterate 2 exact rfl)
              | (apply kn; iterate 2 exact rfl)
              | (apply ke; iterate 2 exact rfl)
              | (apply kx; iterate 2 exact rfl)
              | (apply kc; iterate 2 exact rfl)
              | (apply kb; iterate 2 exact rfl)
              | (apply kg; iterate 2 exact rfl)
              | (apply kG; iterate 3 exact rfl)
              | (apply kB; (iterate 2 exact rfl); intro _)
              | (apply kA; exact rfl; intro _)
              | (apply kL; (iterate 3 exact rfl); (· repeat (first | exact BS.nil _ | (apply BS.int; exact rfl) | (apply BS.ptr; exact rfl) | (apply BS.slice; exact rfl) | (apply BS.agg; iterate 2 exact rfl))); intro _)
              | (apply kT; (iterate 2 exact rfl); (· repeat (first | exact sH _ _ _ | apply sT)); iterate 2 exact rfl)
              | (apply kS; (iterate 2 exact rfl); (· repeat (first | exact sH _ _ _ | apply sT)); exact rfl)
              | (apply kh; (iterate 2 exact rfl); (first | decide | omega); exact rfl)
              | (apply kl; (iterate 2 exact rfl); (first | decide | omega); exact rfl)
              )
            | ((first | (apply kR; (· exact rfl); (· exact rfl)) | (apply kQ; (· exact rfl))); all_goals (intro hc; try simp only [decide_eq_true_eq, decide_eq_false_iff_not, Bool.not_eq_true', Bool.not_eq_false', Bool.not_eq_true, Bool.not_eq_false, Bool.not_true, Bool.not_false, Int.not_lt, Int.not_le, List.cons.injEq, and_true, beq_iff_eq, beq_eq_false_iff_ne] at hc; try (exfalso; first | contradiction | omega)))
            )
          all_goals (
            apply DW.quiet [0, 2]
            · decide +kernel
            · first | exact fun _ h => h | exact fun _ h => St.sub h (by repeat (first | exact List.Sublist.refl _ | apply List.Sublist.cons_cons | apply List.Sublist.cons))
            repeat' (
              first
              | (apply yp; iterate 3 exact rfl)
              | (apply QL.ev; exact rfl
                 · first
                   | (apply Ev.load_own; (· exact rfl); (· repeat (first | exact mH _ _ | apply mT)); exact rfl)
                   | (apply Ev.load_agg; (· exact rfl); (· repeat (first | exact mH _ _ | apply mT)); exact rfl)
                   | (apply Ev.load_rdq; (· exact rfl); (· repeat (first | exact mH _ _ | apply mT)); iterate 2 exact rfl)
                   | (apply Ev.load_ardq; (· exact rfl); (· repeat (first | exact mH _ _ | apply mT)); exact rfl)
                   | (apply Ev.fieldAddr; exact rfl)
                   | (apply Ev.len; exact rfl)
                   | (apply EqOf.eq; exact rfl)
                   | (apply EqOf.ne; exact rfl)
                   | (apply Ev.conv; exact rfl)
                   | (apply Ev.buildN; exact rfl)
                   | (apply Ev.shr; (iterate 2 exact rfl); first | decide | omega)
                   | (apply Ev.shl; (iterate 2 exact rfl); first | decide | omega)
                 · exact rfl)
              | (apply yq; iterate 5 exact rfl)
              | (apply QL.evg; iterate 3 exact rfl
                 · first
                   | (apply Ev.load_own; (· exact rfl); (· repeat (first | exact mH _ _ | apply mT)); exact rfl)
                   | (apply Ev.load_agg; (· exact rfl); (· repeat (first | exact mH _ _ | apply mT)); exact rfl)
                   | (apply Ev.load_rdq; (· exact rfl); (· repeat (first | exact mH _ _ | apply mT)); iterate 2 exact rfl)
                   | (apply Ev.load_ardq; (· exact rfl); (· repeat (first | exact mH _ _ | apply mT)); exact rfl)
                   | (apply Ev.fieldAddr; exact rfl)
                   | (apply Ev.len; exact rfl)
                   | (apply EqOf.eq; exact rfl)
                   | (apply EqOf.ne; exact rfl)
                   | (apply Ev.conv; exact rfl)
                   | (apply Ev.buildN; exact rfl)
                   | (apply Ev.shr; (iterate 2 exact rfl); first | decide | omega)
                   | (apply Ev.shl; (iterate 2 exact rfl); first | decide | omega)
                 · exact rfl)
              | (apply yn; iterate 4 exact rfl)
              | ((apply QL.split; (· exact rfl); (· exact rfl); (· exact rfl)); all_goals (intro hc; try simp only [decide_eq_true_eq, decide_eq_false_iff_not, Bool.not_eq_true', Bool.not_eq_false', Bool.not_eq_true, Bool.not_eq_false, Bool.not_true, Bool.not_false, Int.not_lt, Int.not_le, List.cons.injEq, and_true, beq_iff_eq, beq_eq_false_iff_ne] at hc; try (exfalso; first | contradiction | omega)))
              | apply QL.nil
              )
            all_goals (show DW _ _ _ _ _ _ _ _))
          all_goals (
            apply DW.loud 1
            · exact rfl
            · decide +kernel
            repeat' (
              first
              | (apply kg; iterate 2 exact rfl)
              | (apply kG; iterate 3 exact rfl)
              | apply kM
              | (
                first
                | (apply kp; iterate 2 exact rfl)
                | (apply ko; (· exact rfl); (· repeat (first | exact mH _ _ | apply mT)); iterate 2 exact rfl)
                | (apply ka; (· exact rfl); (· repeat (first | exact mH _ _ | apply mT)); iterate 2 exact rfl)
                | (apply kL; (iterate 3 exact rfl); (· repeat (first | exact BS.nil _ | (apply BS.int; exact rfl) | (apply BS.ptr; exact rfl) | (apply BS.slice; exact rfl) | (apply BS.agg; iterate 2 exact rfl))); intro _)
                | (apply kT; (iterate 2 exact rfl); (· repeat (first | exact sH _ _ _ | apply sT)); iterate 2 exact rfl)
                | (apply kS; (iterate 2 exact rfl); (· repeat (first | exact sH _ _ _ | apply sT)); exact rfl)
                | (apply kB; (iterate 2 exact rfl); intro _)
                | (apply kA; exact rfl; intro _)
                )
              | (apply kq; (· exact rfl); (· intro w1 h1; exact CallsTo.q (g45 bg ({ G with p := X.d.x.k }) w1 (h1.rd_of_blk (by (repeat (first | exact mH _ _ | apply mT)))) (by show G.node ≠ 0; omega)) h1))
              )
            all_goals (refine At.stage_same (fun _ h => St.sub h (by repeat (first | exact List.Sublist.refl _ | apply List.Sublist.cons_cons | apply List.Sublist.cons))) ?_))
          all_goals (
            apply DW.quiet [3]
            · decide +kernel
            · first | exact fun _ h => h | exact fun _ h => St.sub h (by repeat (first | exact List.Sublist.refl _ | apply List.Sublist.cons_cons | apply List.Sublist.cons))
            repeat' (
              first
              | (apply yp; iterate 3 exact rfl)
              | (apply QL.ev; exact rfl
                 · first
                   | (apply Ev.load_own; (· exact rfl); (· repeat (first | exact mH _ _ | apply mT)); exact rfl)
                   | (apply Ev.load_agg; (· exact rfl); (· repeat (first | exact mH _ _ | apply mT)); exact rfl)
                   | (apply Ev.load_rdq; (· exact rfl); (· repeat (first | exact mH _ _ | apply mT)); iterate 2 exact rfl)
                   | (apply Ev.load_ardq; (· exact rfl); (· repeat (first | exact mH _ _ | apply mT)); exact rfl)
                   | (apply Ev.fieldAddr; exact rfl)
                   | (apply Ev.len; exact rfl)
                   | (apply EqOf.eq; exact rfl)
                   | (apply EqOf.ne; exact rfl)
                   | (apply Ev.conv; exact rfl)
                   | (apply Ev.buildN; exact rfl)
                   | (apply Ev.shr; (iterate 2 exact rfl); first | decide | omega)
                   | (apply Ev.shl; (iterate 2 exact rfl); first | decide | omega)
                 · exact rfl)
              | (apply yq; iterate 5 exact rfl)
              | (apply QL.evg; iterate 3 exact rfl
                 · first
                   | (apply Ev.load_own; (· exact rfl); (· repeat (first | exact mH _ _ | apply mT)); exact rfl)
                   | (apply Ev.load_agg; (· exact rfl); (· repeat (first | exact mH _ _ | apply mT)); exact rfl)
                   | (apply Ev.load_rdq; (· exact rfl); (· repeat (first | exact mH _ _ | apply mT)); iterate 2 exact rfl)
                   | (apply Ev.load_ardq; (· exact rfl); (· repeat (first | exact mH _ _ | apply mT)); exact rfl)
                   | (apply Ev.fieldAddr; exact rfl)
                   | (apply Ev.len; exact rfl)
                   | (apply EqOf.eq; exact rfl)
                   | (apply EqOf.ne; exact rfl)
                   | (apply Ev.conv; exact rfl)
                   | (apply Ev.buildN; exact rfl)
                   | (apply Ev.shr; (iterate 2 exact rfl); first | decide | omega)
                   | (apply Ev.shl; (iterate 2 exact rfl); first | decide | omega)
                 · exact rfl)
              | (apply yn; iterate 4 exact rfl)
              | ((apply QL.split; (· exact rfl); (· exact rfl); (· exact rfl)); all_goals (intro hc; try simp only [decide_eq_true_eq, decide_eq_false_iff_not, Bool.not_eq_true', Bool.not_eq_false', Bool.not_eq_true, Bool.not_eq_false, Bool.not_true, Bool.not_false, Int.not_lt, Int.not_le, List.cons.injEq, and_true, beq_iff_eq, beq_eq_false_iff_ne] at hc; try (exfalso; first | contradiction | omega)))
              | apply QL.nil
              )
            all_goals (show DW _ _ _ _ _ _ _ _))
          all_goals (first | (apply DW.done_thn; (· decide +kernel)) | (apply DW.done; (· decide +kernel)))
          repeat' (
            first
            | (
              first
              | (apply kp; iterate 2 exact rfl)
              | apply ja | apply jb | apply jg | apply jj | (apply je; exact rfl) | (apply jf; exact rfl) | apply jd | apply jh | apply ji | (apply jc; kernel_rfl) | apply jk | apply jl | apply jm | apply jn | apply jo | (apply jp; exact rfl) | apply jq | apply jr | apply js | apply jt | apply ju | apply jv | apply jw | apply kN | apply kM
              | (apply kf; iterate 2 exact rfl)
              | (apply ko; (· exact rfl); (· repeat (first | exact mH _ _ | apply mT)); iterate 2 exact rfl)
              | (apply ka; (· exact rfl); (· repeat (first | exact mH _ _ | apply mT)); iterate 2 exact rfl)
              | (apply kr; (· exact rfl); (· repeat (first | exact mH _ _ | apply mT)); iterate 3 exact rfl)
              | (apply ks; (· exact rfl); (· repeat (first | exact mH _ _ | apply mT)); iterate 2 exact rfl)
              | (apply kn; iterate 2 exact rfl)
              | (apply ke; iterate 2 exact rfl)
              | (apply kx; iterate 2 exact rfl)
              | (apply kc; iterate 2 exact rfl)
              | (apply kb; iterate 2 exact rfl)
              | (apply kg; iterate 2 exact rfl)
              | (apply kG; iterate 3 exact rfl)
              | (apply kB; (iterate 2 exact rfl); intro _)
              | (apply kA; exact rfl; intro _)
              | (apply kL; (iterate 3 exact rfl); (· repeat (first | exact BS.nil _ | (apply BS.int; exact rfl) | (apply BS.ptr; exact rfl) | (apply BS.slice; exact rfl) | (apply BS.agg; iterate 2 exact rfl))); intro _)
              | (apply kT; (iterate 2 exact rfl); (· repeat (first | exact sH _ _ _ | apply sT)); iterate 2 exact rfl)
              | (apply kS; (iterate 2 exact rfl); (· repeat (first | exact sH _ _ _ | apply sT)); exact rfl)
              | (apply kh; (iterate 2 exact rfl); (first | decide | omega); exact rfl)
              | (apply kl; (iterate 2 exact rfl); (first | decide | omega); exact rfl)
              )
            | (apply LR.ev; (· apply Ev.add; (· exact rfl); (· exact rfl); (· first | omega | (dsimp only; omega)); (· first | omega | (dsimp only; omega))); (· exact rfl))
            | ((first | (apply kR; (· exact rfl); (· exact rfl)) | (apply kQ; (· exact rfl))); all_goals (intro hc; try simp only [decide_eq_true_eq, decide_eq_false_iff_not, Bool.not_eq_true', Bool.not_eq_false', Bool.not_eq_true, Bool.not_eq_false, Bool.not_true, Bool.not_false, Int.not_lt, Int.not_le, List.cons.injEq, and_true, beq_iff_eq, beq_eq_false_iff_ne] at hc; try (exfalso; first | contradiction | omega)))
            )
          all_goals (try (exfalso; revert hc; simp; done))
          refine At.again (i + 1, { G with p := X.d.x.k }) ⟨hi1, hG⟩ ?_ ?_ ?_ ?_
          · (repeat (first | exact Out.refl _ _ | exact Out.mix | (apply Out.upd; (· exact rfl)) | (apply Out.updL; (· exact rfl)) | (apply Out.mixs; (· exact rfl))))
          · exact ⟨rfl, trivial⟩
          · intro w' hw'
            refine hw'.sub ?_
            repeat (first | exact List.Sublist.refl _ | apply List.Sublist.cons_cons | apply List.Sublist.cons)
            done
          · exact hdec
        · have e : beginS G X.d.x.k X.d.ps = G := by unfold beginS; rw [if_neg (fun h => hab h.2)]
          have hri : ¬ 0 < keysI X.d.x.k G.p := by rw [habp] at hab; simpa using hab
          repeat' (
            first
            | (apply CW.reg_held (St w NoF [.own _ (.cells X.d.x.k.cells.toArray 25 (0, 0)), rdA (some ⟨ba, oa, none⟩) (l.flatMap DooA.row)]))
            | (
              first
              | (apply kp; iterate 2 exact rfl)
              | apply ja | apply jb | apply jg | apply jj | (apply je; exact rfl) | (apply jf; exact rfl) | apply jd | apply jh | apply ji | (apply jc; kernel_rfl) | apply jk | apply jl | apply jm | apply jn | apply jo | (apply jp; exact rfl) | apply jq | apply jr | apply js | apply jt | apply ju | apply jv | apply jw | apply kN | apply kM
              | (apply kf; iterate 2 exact rfl)
              | (apply ko; (· exact rfl); (· repeat (first | exact mH _ _ | apply mT)); iterate 2 exact rfl)
              | (apply ka; (· exact rfl); (· repeat (first | exact mH _ _ | apply mT)); iterate 2 exact rfl)
              | (apply kr; (· exact rfl); (· repeat (first | exact mH _ _ | apply mT)); iterate 3 exact rfl)
              | (apply ks; (· exact rfl); (· repeat (first | exact mH _ _ | apply mT)); iterate 2 exact rfl)
              | (apply kn; iterate 2 exact rfl)
              | (apply ke; iterate 2 exact rfl)
              | (apply kx; iterate 2 exact rfl)
              | (apply kc; iterate 2 exact rfl)
              | (apply kb; iterate 2 exact rfl)
              | (apply kg; iterate 2 exact rfl)
              | (apply kG; iterate 3 exact rfl)
              | (apply kB; (iterate 2 exact rfl); intro _)
              | (apply kA; exact rfl; intro _)
              | (apply kL; (iterate 3 exact rfl); (· repeat (first | exact BS.nil _ | (apply BS.int; exact rfl) | (apply BS.ptr; exact rfl) | (apply BS.slice; exact rfl) | (apply BS.agg; iterate 2 exact rfl))); intro _)
              | (apply kT; (iterate 2 exact rfl); (· repeat (first | exact sH _ _ _ | apply sT)); iterate 2 exact rfl)
              | (apply kS; (iterate 2 exact rfl); (· repeat (first | exact sH _ _ _ | apply sT)); exact rfl)
              | (apply kh; (iterate 2 exact rfl); (first | decide | omega); exact rfl)
              | (apply kl; (iterate 2 exact rfl); (first | decide | omega); exact rfl)
              )
            | (apply LR.ev; (· apply Ev.indexAddr; (· exact rfl); (· exact rfl); (· first | omega | (dsimp only; omega)); (· first | omega | (dsimp only; omega))); (· exact rfl))
            | (apply LR.ev; (· first | (apply Ev.load_agg_at (cs := X.row); (· exact rfl); (· exact rfl); (· intro w' hw'; exact ldr w' (hw'.rd_of (by (repeat (first | exact mH _ _ | apply mT)))) _ (by simp))) | (apply Ev.load_agg_at (cs := X.d.x.k.cells); (· exact rfl); (· exact rfl); (· intro w' hw'; exact ldk w' (hw'.rd_of (by (repeat (first | exact mH _ _ | apply mT)))) _ (by simp))) | (apply Ev.load_agg_at (cs := X.d.x.cells X.a X.c); (· exact rfl); (· exact rfl); (· intro w' hw'; exact ldi w' (hw'.rd_of (by (repeat (first | exact mH _ _ | apply mT)))) _ (by simp)))); (· exact rfl))
            | (apply kq; (· exact rfl); (· intro w1 h1; have hq := CallsTo.q (hg41 w1) h1; rw [hk] at hq; exact hq))
            | ((first | (apply kR; (· exact rfl); (· exact rfl)) | (apply kQ; (· exact rfl))); all_goals (intro hc; try simp only [decide_eq_true_eq, decide_eq_false_iff_not, Bool.not_eq_true', Bool.not_eq_false', Bool.not_eq_true, Bool.not_eq_false, Bool.not_true, Bool.not_false, Int.not_lt, Int.not_le, List.cons.injEq, and_true, beq_iff_eq, beq_eq_false_iff_ne] at hc; try (exfalso; first | contradiction | omega)))
            )
          apply DW.quiet [0, 1, 2, 3, 4, 5, 6]
          · decide +kernel
          · exact fun _ h => St.sub h (by repeat (first | exact List.Sublist.refl _ | apply List.Sublist.cons_cons | apply List.Sublist.cons))
          repeat' (
            first
            | (apply yp; iterate 3 exact rfl)
            | (apply QL.ev; exact rfl
               · first
                 | (apply Ev.load_own; (· exact rfl); (· repeat (first | exact mH _ _ | apply mT)); exact rfl)
                 | (apply Ev.load_agg; (· exact rfl); (· repeat (first | exact mH _ _ | apply mT)); exact rfl)
                 | (apply Ev.load_rdq; (· exact rfl); (· repeat (first | exact mH _ _ | apply mT)); iterate 2 exact rfl)
                 | (apply Ev.load_ardq; (· exact rfl); (· repeat (first | exact mH _ _ | apply mT)); exact rfl)
                 | (apply Ev.fieldAddr; exact rfl)
                 | (apply Ev.len; exact rfl)
                 | (apply EqOf.eq; exact rfl)
                 | (apply EqOf.ne; exact rfl)
                 | (apply Ev.conv; exact rfl)
                 | (apply Ev.buildN; exact rfl)
                 | (apply Ev.shr; (iterate 2 exact rfl); first | decide | omega)
                 | (apply Ev.shl; (iterate 2 exact rfl); first | decide | omega)
               · exact rfl)
            | (apply QL.ev; (· exact rfl); (· apply Ev.indexAddr; (· exact rfl); (· exact rfl); (· first | omega | (dsimp only; omega)); (· first | omega | (dsimp only; omega))); (· exact rfl))
            | (apply QL.ev; (· exact rfl); (· apply Ev.load; (· exact rfl); (· intro w' hw'; exact ldp w' (hw'.rd_of (by (repeat (first | exact mH _ _ | apply mT)))) _ (by simp))); (· exact rfl))
            | (apply yq; iterate 5 exact rfl)
            | (apply QL.evg; iterate 3 exact rfl
               · first
                 | (apply Ev.load_own; (· exact rfl); (· repeat (first | exact mH _ _ | apply mT)); exact rfl)
                 | (apply Ev.load_agg; (· exact rfl); (· repeat (first | exact mH _ _ | apply mT)); exact rfl)
                 | (apply Ev.load_rdq; (· exact rfl); (· repeat (first | exact mH _ _ | apply mT)); iterate 2 exact rfl)
                 | (apply Ev.load_ardq; (· exact rfl); (· repeat (first | exact mH _ _ | apply mT)); exact rfl)
                 | (apply Ev.fieldAddr; exact rfl)
                 | (apply Ev.len; exact rfl)
                 | (apply EqOf.eq; exact rfl)
                 | (apply EqOf.ne; exact rfl)
                 | (apply Ev.conv; exact rfl)
                 | (apply Ev.buildN; exact rfl)
                 | (apply Ev.shr; (iterate 2 exact rfl); first | decide | omega)
                 | (apply Ev.shl; (iterate 2 exact rfl); first | decide | omega)
               · exact rfl)
            | (apply yn; iterate 4 exact rfl)
            | ((apply QL.split; (· exact rfl); (· exact rfl); (· exact rfl)); all_goals (intro hc; try simp only [decide_eq_true_eq, decide_eq_false_iff_not, Bool.not_eq_true', Bool.not_eq_false', Bool.not_eq_true, Bool.not_eq_false, Bool.not_true, Bool.not_false, Int.not_lt, Int.not_le, List.cons.injEq, and_true, beq_iff_eq, beq_eq_false_iff_ne] at hc; try (exfalso; first | contradiction | omega)))
            | apply QL.nil
            )
          apply DP.begin []
          refine DP.more (PI.lr 11 12 [] (fun b => .pointer (some ⟨b, 0, none⟩)) (fun b => [.own b (.cells [.int .i64 0, .int .i64 0, .int .i64 0, .int .i64 0, .int .i64 0, .int .i64 0, .int .i64 0, .bool false, .int .i64 0, .int .i64 0, .int .i64 0, .int .i64 0, .slice none 0 0].toArray 28 (0, 0))]) rfl (fun b x hx => by simp at hx; subst hx; rfl) ?_) ?_
          · intro h w2
            apply kA
            · exact rfl
            intro b
            apply kM
            exact At.made rfl
          refine DP.go 7 [11] [12] [[]] rfl rfl rfl rfl (by decide +kernel) ⟨trivial, fun _ _ _ => trivial, trivial⟩ (fun A w' hA => St.sub hA (by simp only [List.cons_append, List.nil_append]; repeat (first | exact List.nil_sublist _ | exact List.Sublist.refl _ | apply List.Sublist.cons_cons | apply List.Sublist.cons))) ?_
          intro gg A LA hLA
          simp only [List.cons_append, List.nil_append] at hLA
          subst hLA
          apply LR.call
          · exact rfl
          intro w1 h1
          have hh := g42 bg G X.d.x.k X.ak X.ck X.d.ps w1 (h1.own_at (by (repeat (first | exact mH _ _ | apply mT)))) (by omega) (h1.oldRd hx.hrk) (h1.oldApart (x := gO 95 bg G) (by (repeat (first | exact mH _ _ | apply mT))) rfl hx.hrk) hx.hmk hx.hik
          rw [e, e2, e3] at hh
          refine CallsTo.mono hh ?_
          clear hh
          rintro v w2 ⟨a1, c1, rfl, st⟩
          have h2 := h1.two st rfl rfl rfl (by (repeat (first | exact sH _ _ _ | apply sT)))
          refine LR.back h2 ?_
          clear h2 h1
          apply kM
          apply At.pdone (ds := [12]) rfl
          · repeat (first | exact MixR.base _ | (apply MixR.upd; case hd => exact rfl))
          · repeat (first | exact Tl.nil | apply Tl.cons)
          · exact (fun A w' hA => St.sub hA (by simp only [List.cons_append, List.nil_append]; repeat (first | exact List.nil_sublist _ | exact List.Sublist.refl _ | apply List.Sublist.cons_cons | apply List.Sublist.cons)))
          refine DP.quiet [8, 9, 10] [11] [12] rfl rfl (by decide +kernel) (fun A w' hA => St.sub hA (by simp only [List.cons_append, List.nil_append]; repeat (first | exact List.nil_sublist _ | exact List.Sublist.refl _ | apply List.Sublist.cons_cons | apply List.Sublist.cons))) (fun gg => ?_)
          repeat' (
            first
            | (apply yp; iterate 3 exact rfl)
            | (apply QL.ev; exact rfl
               · first
                 | (apply Ev.load_own; (· exact rfl); (· repeat (first | exact mH _ _ | apply mT)); exact rfl)
                 | (apply Ev.load_agg; (· exact rfl); (· repeat (first | exact mH _ _ | apply mT)); exact rfl)
                 | (apply Ev.load_rdq; (· exact rfl); (· repeat (first | exact mH _ _ | apply mT)); iterate 2 exact rfl)
                 | (apply Ev.load_ardq; (· exact rfl); (· repeat (first | exact mH _ _ | apply mT)); exact rfl)
                 | (apply Ev.fieldAddr; exact rfl)
                 | (apply Ev.len; exact rfl)
                 | (apply EqOf.eq; exact rfl)
                 | (apply EqOf.ne; exact rfl)
                 | (apply Ev.conv; exact rfl)
                 | (apply Ev.buildN; exact rfl)
                 | (apply Ev.shr; (iterate 2 exact rfl); first | decide | omega)
                 | (apply Ev.shl; (iterate 2 exact rfl); first | decide | omega)
               · exact rfl)
            | (apply yq; iterate 5 exact rfl)
            | (apply QL.evg; iterate 3 exact rfl
               · first
                 | (apply Ev.load_own; (· exact rfl); (· repeat (first | exact mH _ _ | apply mT)); exact rfl)
                 | (apply Ev.load_agg; (· exact rfl); (· repeat (first | exact mH _ _ | apply mT)); exact rfl)
                 | (apply Ev.load_rdq; (· exact rfl); (· repeat (first | exact mH _ _ | apply mT)); iterate 2 exact rfl)
                 | (apply Ev.load_ardq; (· exact rfl); (· repeat (first | exact mH _ _ | apply mT)); exact rfl)
                 | (apply Ev.fieldAddr; exact rfl)
                 | (apply Ev.len; exact rfl)
                 | (apply EqOf.eq; exact rfl)
                 | (apply EqOf.ne; exact rfl)
                 | (apply Ev.conv; exact rfl)
                 | (apply Ev.buildN; exact rfl)
                 | (apply Ev.shr; (iterate 2 exact rfl); first | decide | omega)
                 | (apply Ev.shl; (iterate 2 exact rfl); first | decide | omega)
               · exact rfl)
            | (apply yn; iterate 4 exact rfl)
            | ((apply QL.split; (· exact rfl); (· exact rfl); (· exact rfl)); all_goals (intro hc; try simp only [decide_eq_true_eq, decide_eq_false_iff_not, Bool.not_eq_true', Bool.not_eq_false', Bool.not_eq_true, Bool.not_eq_false, Bool.not_true, Bool.not_false, Int.not_lt, Int.not_le, List.cons.injEq, and_true, beq_iff_eq, beq_eq_false_iff_ne] at hc; try (exfalso; first | contradiction | omega)))
            | apply QL.nil
            )
          apply pq_done
          · repeat (first | exact MixR.base _ | (apply MixR.upd; case hd => exact rfl))
          refine DP.take 11 12 (fun b => .pointer (some ⟨b, 0, none⟩)) (fun b => [.own b (.cells [.int .i64 0, .int .i64 0, .int .i64 0, .int .i64 0, .int .i64 0, .int .i64 0, .int .i64 0, .bool false, .int .i64 0, .int .i64 0, .int .i64 0, .int .i64 0, .slice none 0 0].toArray 28 (0, 0))]) [] [12] [[]] rfl rfl rfl rfl rfl rfl rfl (by decide +kernel) ⟨trivial, fun _ _ _ => trivial, trivial⟩ (fun A w' hA => St.sub hA (by simp only [List.cons_append, List.nil_append]; repeat (first | exact List.nil_sublist _ | exact List.Sublist.refl _ | apply List.Sublist.cons_cons | apply List.Sublist.cons))) (fun b12 => ?_)
          refine DP.nil ?_
          refine DW.castL (by simp only [List.cons_append, List.nil_append]; exact rfl) ?_
          apply DW.loud 12
          · exact rfl
          · decide +kernel
          repeat' (
            first
            | (apply kg; iterate 2 exact rfl)
            | (apply kG; iterate 3 exact rfl)
            | apply kM
            | (
              first
              | (apply kp; iterate 2 exact rfl)
              | (apply ko; (· exact rfl); (· repeat (first | exact mH _ _ | apply mT)); iterate 2 exact rfl)
              | (apply ka; (· exact rfl); (· repeat (first | exact mH _ _ | apply mT)); iterate 2 exact rfl)
              | (apply kL; (iterate 3 exact rfl); (· repeat (first | exact BS.nil _ | (apply BS.int; exact rfl) | (apply BS.ptr; exact rfl) | (apply BS.slice; exact rfl) | (apply BS.agg; iterate 2 exact rfl))); intro _)
              | (apply kT; (iterate 2 exact rfl); (· repeat (first | exact sH _ _ _ | apply sT)); iterate 2 exact rfl)
              | (apply kS; (iterate 2 exact rfl); (· repeat (first | exact sH _ _ _ | apply sT)); exact rfl)
              | (apply kB; (iterate 2 exact rfl); intro _)
              | (apply kA; exact rfl; intro _)
              )
            )
          refine At.stage_same (fun _ h => St.sub h (by repeat (first | exact List.Sublist.refl _ | apply List.Sublist.cons_cons | apply List.Sublist.cons))) ?_
          apply DW.quiet [13]
          · decide +kernel
          · exact fun _ h => St.sub h (by repeat (first | exact List.Sublist.refl _ | apply List.Sublist.cons_cons | apply List.Sublist.cons))
          repeat' (
            first
            | (apply yp; iterate 3 exact rfl)
            | (apply QL.ev; exact rfl
               · first
                 | (apply Ev.load_own; (· exact rfl); (· repeat (first | exact mH _ _ | apply mT)); exact rfl)
                 | (apply Ev.load_agg; (· exact rfl); (· repeat (first | exact mH _ _ | apply mT)); exact rfl)
                 | (apply Ev.load_rdq; (· exact rfl); (· repeat (first | exact mH _ _ | apply mT)); iterate 2 exact rfl)
                 | (apply Ev.load_ardq; (· exact rfl); (· repeat (first | exact mH _ _ | apply mT)); exact rfl)
                 | (apply Ev.fieldAddr; exact rfl)
                 | (apply Ev.len; exact rfl)
                 | (apply EqOf.eq; exact rfl)
                 | (apply EqOf.ne; exact rfl)
                 | (apply Ev.conv; exact rfl)
                 | (apply Ev.buildN; exact rfl)
                 | (apply Ev.shr; (iterate 2 exact rfl); first | decide | omega)
                 | (apply Ev.shl; (iterate 2 exact rfl); first | decide | omega)
               · exact rfl)
            | (apply yq; iterate 5 exact rfl)
            | (apply QL.evg; iterate 3 exact rfl
               · first
                 | (apply Ev.load_own; (· exact rfl); (· repeat (first | exact mH _ _ | apply mT)); exact rfl)
                 | (apply Ev.load_agg; (· exact rfl); (· repeat (first | exact mH _ _ | apply mT)); exact rfl)
                 | (apply Ev.load_rdq; (· exact rfl); (· repeat (first | exact mH _ _ | apply mT)); iterate 2 exact rfl)
                 | (apply Ev.load_ardq; (· exact rfl); (· repeat (first | exact mH _ _ | apply mT)); exact rfl)
                 | (apply Ev.fieldAddr; exact rfl)
                 | (apply Ev.len; exact rfl)
                 | (apply EqOf.eq; exact rfl)
                 | (apply EqOf.ne; exact rfl)
                 | (apply Ev.conv; exact rfl)
                 | (apply Ev.buildN; exact rfl)
                 | (apply Ev.shr; (iterate 2 exact rfl); first | decide | omega)
                 | (apply Ev.shl; (iterate 2 exact rfl); first | decide | omega)
               · exact rfl)
            | (apply yn; iterate 4 exact rfl)
            | ((apply QL.split; (· exact rfl); (· exact rfl); (· exact rfl)); all_goals (intro hc; try simp only [decide_eq_true_eq, decide_eq_false_iff_not, Bool.not_eq_true', Bool.not_eq_false', Bool.not_eq_true, Bool.not_eq_false, Bool.not_true, Bool.not_false, Int.not_lt, Int.not_le, List.cons.injEq, and_true, beq_iff_eq, beq_eq_false_iff_ne] at hc; try (exfalso; first | contradiction | omega)))
            | apply QL.nil
            )
          all_goals (show DW _ _ _ _ _ _ _ _)
          first | (apply DW.done_thn; (· decide +kernel)) | (apply DW.done; (· decide +kernel))
          repeat' (
            first
            | (apply CW.reg_heldC)
            | (
              first
              | (apply kp; iterate 2 exact rfl)
              | apply ja | apply jb | apply jg | apply jj | (apply je; exact rfl) | (apply jf; exact rfl) | apply jd | apply jh | apply ji | (apply jc; kernel_rfl) | apply jk | apply jl | apply jm | apply jn | apply jo | (apply jp; exact rfl) | apply jq | apply jr | apply js | apply jt | apply ju | apply jv | apply jw | apply kN | apply kM
              | (apply kf; iterate 2 exact rfl)
              | (apply ko; (· exact rfl); (· repeat (first | exact mH _ _ | apply mT)); iterate 2 exact rfl)
              | (apply ka; (· exact rfl); (· repeat (first | exact mH _ _ | apply mT)); iterate 2 exact rfl)
              | (apply kr; (· exact rfl); (· repeat (first | exact mH _ _ | apply mT)); iterate 3 exact rfl)
              | (apply ks; (· exact rfl); (· repeat (first | exact mH _ _ | apply mT)); iterate 2 exact rfl)
              | (apply kn; iterate 2 exact rfl)
              | (apply ke; iterate 2 exact rfl)
              | (apply kx; iterate 2 exact rfl)
              | (apply kc; iterate 2 exact rfl)
              | (apply kb; iterate 2 exact rfl)
              | (apply kg; iterate 2 exact rfl)
              | (apply kG; iterate 3 exact rfl)
              | (apply kB; (iterate 2 exact rfl); intro _)
              | (apply kA; exact rfl; intro _)
              | (apply kL; (iterate 3 exact rfl); (· repeat (first | exact BS.nil _ | (apply BS.int; exact rfl) | (apply BS.ptr; exact rfl) | (apply BS.slice; exact rfl) | (apply BS.agg; iterate 2 exact rfl))); intro _)
              | (apply kT; (iterate 2 exact rfl); (· repeat (first | exact sH _ _ _ | apply sT)); iterate 2 exact rfl)
              | (apply kS; (iterate 2 exact rfl); (· repeat (first | exact sH _ _ _ | apply sT)); exact rfl)
              | (apply kh; (iterate 2 exact rfl); (first | decide | omega); exact rfl)
              | (apply kl; (iterate 2 exact rfl); (first | decide | omega); exact rfl)
              )
            | (apply kq; (· exact rfl); (· intro w1 h1; exact CallsTo.q (g44 X.d.x.k G.p w1) h1))
            | (apply kq; (· exact rfl); (· intro w1 h1; have hq := CallsTo.q (d17 (chartM G.node (charts X.d.ps).1) a1 c1 w1 (h1.rd_of_own (by (repeat (first | exact mH _ _ | apply mT)))) (fun e => (ownsRow_some (h1.holds (osl (.slice a1 (chartM G.node (charts X.d.ps).1).body.length c1) 5 1 (chartM G.node (charts X.d.ps).1).body.length (bv (chartM G.node (charts X.d.ps).1).body)) (by (repeat (first | exact mH _ _ | apply mT)))) e).2) (by show (charts X.d.ps).1.length ≤ _; omega) hcb) h1; rw [hck] at hq; show CallsTo Try.prog 43 [(chartM G.node (charts X.d.ps).1).val a1 c1] w1 _; exact hq))
            | ((first | (apply kR; (· exact rfl); (· exact rfl)) | (apply kQ; (· exact rfl))); all_goals (intro hc; try simp only [decide_eq_true_eq, decide_eq_false_iff_not, Bool.not_eq_true', Bool.not_eq_false', Bool.not_eq_true, Bool.not_eq_false, Bool.not_true, Bool.not_false, Int.not_lt, Int.not_le, List.cons.injEq, and_true, beq_iff_eq, beq_eq_false_iff_ne] at hc; try (exfalso; first | contradiction | omega)))
            )
          all_goals (try (exfalso; revert hc; first | (simp [fromM, chartM]; done) | omega))
          repeat' (
            first
            | (apply CW.reg_heldC)
            | (
              first
              | (apply kp; iterate 2 exact rfl)
              | apply ja | apply jb | apply jg | apply jj | (apply je; exact rfl) | (apply jf; exact rfl) | apply jd | apply jh | apply ji | (apply jc; kernel_rfl) | apply jk | apply jl | apply jm | apply jn | apply jo | (apply jp; exact rfl) | apply jq | apply jr | apply js | apply jt | apply ju | apply jv | apply jw | apply kN | apply kM
              | (apply kf; iterate 2 exact rfl)
              | (apply ko; (· exact rfl); (· repeat (first | exact mH _ _ | apply mT)); iterate 2 exact rfl)
              | (apply ka; (· exact rfl); (· repeat (first | exact mH _ _ | apply mT)); iterate 2 exact rfl)
              | (apply kr; (· exact rfl); (· repeat (first | exact mH _ _ | apply mT)); iterate 3 exact rfl)
              | (apply ks; (· exact rfl); (· repeat (first | exact mH _ _ | apply mT)); iterate 2 exact rfl)
              | (apply kn; iterate 2 exact rfl)
              | (apply ke; iterate 2 exact rfl)
              | (apply kx; iterate 2 exact rfl)
              | (apply kc; iterate 2 exact rfl)
              | (apply kb; iterate 2 exact rfl)
              | (apply kg; iterate 2 exact rfl)
              | (apply kG; iterate 3 exact rfl)
              | (apply kB; (iterate 2 exact rfl); intro _)
              | (apply kA; exact rfl; intro _)
              | (apply kL; (iterate 3 exact rfl); (· repeat (first | exact BS.nil _ | (apply BS.int; exact rfl) | (apply BS.ptr; exact rfl) | (apply BS.slice; exact rfl) | (apply BS.agg; iterate 2 exact rfl))); intro _)
              | (apply kT; (iterate 2 exact rfl); (· repeat (first | exact sH _ _ _ | apply sT)); iterate 2 exact rfl)
              | (apply kS; (iterate 2 exact rfl); (· repeat (first | exact sH _ _ _ | apply sT)); exact rfl)
              | (apply kh; (iterate 2 exact rfl); (first | decide | omega); exact rfl)
              | (apply kl; (iterate 2 exact rfl); (first | decide | omega); exact rfl)
              )
            | ((first | (apply kR; (· exact rfl); (· exact rfl)) | (apply kQ; (· exact rfl))); all_goals (intro hc; try simp only [decide_eq_true_eq, decide_eq_false_iff_not, Bool.not_eq_true', Bool.not_eq_false', Bool.not_eq_true, Bool.not_eq_false, Bool.not_true, Bool.not_false, Int.not_lt, Int.not_le, List.cons.injEq, and_true, beq_iff_eq, beq_eq_false_iff_ne] at hc; try (exfalso; first | contradiction | omega)))
            )
          all_goals (
            apply DW.quiet [0, 2]
            · decide +kernel
            · first | exact fun _ h => h | exact fun _ h => St.sub h (by repeat (first | exact List.Sublist.refl _ | apply List.Sublist.cons_cons | apply List.Sublist.cons))
            repeat' (
              first
              | (apply yp; iterate 3 exact rfl)
              | (apply QL.ev; exact rfl
                 · first
                   | (apply Ev.load_own; (· exact rfl); (· repeat (first | exact mH _ _ | apply mT)); exact rfl)
                   | (apply Ev.load_agg; (· exact rfl); (· repeat (first | exact mH _ _ | apply mT)); exact rfl)
                   | (apply Ev.load_rdq; (· exact rfl); (· repeat (first | exact mH _ _ | apply mT)); iterate 2 exact rfl)
                   | (apply Ev.load_ardq; (· exact rfl); (· repeat (first | exact mH _ _ | apply mT)); exact rfl)
                   | (apply Ev.fieldAddr; exact rfl)
                   | (apply Ev.len; exact rfl)
                   | (apply EqOf.eq; exact rfl)
                   | (apply EqOf.ne; exact rfl)
                   | (apply Ev.conv; exact rfl)
                   | (apply Ev.buildN; exact rfl)
                   | (apply Ev.shr; (iterate 2 exact rfl); first | decide | omega)
                   | (apply Ev.shl; (iterate 2 exact rfl); first | decide | omega)
                 · exact rfl)
              | (apply yq; iterate 5 exact rfl)
              | (apply QL.evg; iterate 3 exact rfl
                 · first
                   | (apply Ev.load_own; (· exact rfl); (· repeat (first | exact mH _ _ | apply mT)); exact rfl)
                   | (apply Ev.load_agg; (· exact rfl); (· repeat (first | exact mH _ _ | apply mT)); exact rfl)
                   | (apply Ev.load_rdq; (· exact rfl); (· repeat (first | exact mH _ _ | apply mT)); iterate 2 exact rfl)
                   | (apply Ev.load_ardq; (· exact rfl); (· repeat (first | exact mH _ _ | apply mT)); exact rfl)
                   | (apply Ev.fieldAddr; exact rfl)
                   | (apply Ev.len; exact rfl)
                   | (apply EqOf.eq; exact rfl)
                   | (apply EqOf.ne; exact rfl)
                   | (apply Ev.conv; exact rfl)
                   | (apply Ev.buildN; exact rfl)
                   | (apply Ev.shr; (iterate 2 exact rfl); first | decide | omega)
                   | (apply Ev.shl; (iterate 2 exact rfl); first | decide | omega)
                 · exact rfl)
              | (apply yn; iterate 4 exact rfl)
              | ((apply QL.split; (· exact rfl); (· exact rfl); (· exact rfl)); all_goals (intro hc; try simp only [decide_eq_true_eq, decide_eq_false_iff_not, Bool.not_eq_true', Bool.not_eq_false', Bool.not_eq_true, Bool.not_eq_false, Bool.not_true, Bool.not_false, Int.not_lt, Int.not_le, List.cons.injEq, and_true, beq_iff_eq, beq_eq_false_iff_ne] at hc; try (exfalso; first | contradiction | omega)))
              | apply QL.nil
              )
            all_goals (show DW _ _ _ _ _ _ _ _))
          all_goals (
            apply DW.loud 1
            · exact rfl
            · decide +kernel
            repeat' (
              first
              | (apply kg; iterate 2 exact rfl)
              | (apply kG; iterate 3 exact rfl)
              | apply kM
              | (
                first
                | (apply kp; iterate 2 exact rfl)
                | (apply ko; (· exact rfl); (· repeat (first | exact mH _ _ | apply mT)); iterate 2 exact rfl)
                | (apply ka; (· exact rfl); (· repeat (first | exact mH _ _ | apply mT)); iterate 2 exact rfl)
                | (apply kL; (iterate 3 exact rfl); (· repeat (first | exact BS.nil _ | (apply BS.int; exact rfl) | (apply BS.ptr; exact rfl) | (apply BS.slice; exact rfl) | (apply BS.agg; iterate 2 exact rfl))); intro _)
                | (apply kT; (iterate 2 exact rfl); (· repeat (first | exact sH _ _ _ | apply sT)); iterate 2 exact rfl)
                | (apply kS; (iterate 2 exact rfl); (· repeat (first | exact sH _ _ _ | apply sT)); exact rfl)
                | (apply kB; (iterate 2 exact rfl); intro _)
                | (apply kA; exact rfl; intro _)
                )
              | (apply kq; (· exact rfl); (· intro w1 h1; exact CallsTo.q (g45 bg (G) w1 (h1.rd_of_blk (by (repeat (first | exact mH _ _ | apply mT)))) (by show G.node ≠ 0; omega)) h1))
              )
            all_goals (refine At.stage_same (fun _ h => St.sub h (by repeat (first | exact List.Sublist.refl _ | apply List.Sublist.cons_cons | apply List.Sublist.cons))) ?_))
          all_goals (
            apply DW.quiet [3]
            · decide +kernel
            · first | exact fun _ h => h | exact fun _ h => St.sub h (by repeat (first | exact List.Sublist.refl _ | apply List.Sublist.cons_cons | apply List.Sublist.cons))
            repeat' (
              first
              | (apply yp; iterate 3 exact rfl)
              | (apply QL.ev; exact rfl
                 · first
                   | (apply Ev.load_own; (· exact rfl); (· repeat (first | exact mH _ _ | apply mT)); exact rfl)
                   | (apply Ev.load_agg; (· exact rfl); (· repeat (first | exact mH _ _ | apply mT)); exact rfl)
                   | (apply Ev.load_rdq; (· exact rfl); (· repeat (first | exact mH _ _ | apply mT)); iterate 2 exact rfl)
                   | (apply Ev.load_ardq; (· exact rfl); (· repeat (first | exact mH _ _ | apply mT)); exact rfl)
                   | (apply Ev.fieldAddr; exact rfl)
                   | (apply Ev.len; exact rfl)
                   | (apply EqOf.eq; exact rfl)
                   | (apply EqOf.ne; exact rfl)
                   | (apply Ev.conv; exact rfl)
                   | (apply Ev.buildN; exact rfl)
                   | (apply Ev.shr; (iterate 2 exact rfl); first | decide | omega)
                   | (apply Ev.shl; (iterate 2 exact rfl); first | decide | omega)
                 · exact rfl)
              | (apply yq; iterate 5 exact rfl)
              | (apply QL.evg; iterate 3 exact rfl
                 · first
                   | (apply Ev.load_own; (· exact rfl); (· repeat (first | exact mH _ _ | apply mT)); exact rfl)
                   | (apply Ev.load_agg; (· exact rfl); (· repeat (first | exact mH _ _ | apply mT)); exact rfl)
                   | (apply Ev.load_rdq; (· exact rfl); (· repeat (first | exact mH _ _ | apply mT)); iterate 2 exact rfl)
                   | (apply Ev.load_ardq; (· exact rfl); (· repeat (first | exact mH _ _ | apply mT)); exact rfl)
                   | (apply Ev.fieldAddr; exact rfl)
                   | (apply Ev.len; exact rfl)
                   | (apply EqOf.eq; exact rfl)
                   | (apply EqOf.ne; exact rfl)
                   | (apply Ev.conv; exact rfl)
                   | (apply Ev.buildN; exact rfl)
                   | (apply Ev.shr; (iterate 2 exact rfl); first | decide | omega)
                   | (apply Ev.shl; (iterate 2 exact rfl); first | decide | omega)
                 · exact rfl)
              | (apply yn; iterate 4 exact rfl)
              | ((apply QL.split; (· exact rfl); (· exact rfl); (· exact rfl)); all_goals (intro hc; try simp only [decide_eq_true_eq, decide_eq_false_iff_not, Bool.not_eq_true', Bool.not_eq_false', Bool.not_eq_true, Bool.not_eq_false, Bool.not_true, Bool.not_false, Int.not_lt, Int.not_le, List.cons.injEq, and_true, beq_iff_eq, beq_eq_false_iff_ne] at hc; try (exfalso; first | contradiction | omega)))
              | apply QL.nil
              )
            all_goals (show DW _ _ _ _ _ _ _ _))
          all_goals (first | (apply DW.done_thn; (· decide +kernel)) | (apply DW.done; (· decide +kernel)))
          repeat' (
            first
            | (
              first
              | (apply kp; iterate 2 exact rfl)
              | apply ja | apply jb | apply jg | apply jj | (apply je; exact rfl) | (apply jf; exact rfl) | apply jd | apply jh | apply ji | (apply jc; kernel_rfl) | apply jk | apply jl | apply jm | apply jn | apply jo | (apply jp; exact rfl) | apply jq | apply jr | apply js | apply jt | apply ju | apply jv | apply jw | apply kN | apply kM
              | (apply kf; iterate 2 exact rfl)
              | (apply ko; (· exact rfl); (· repeat (first | exact mH _ _ | apply mT)); iterate 2 exact rfl)
              | (apply ka; (· exact rfl); (· repeat (first | exact mH _ _ | apply mT)); iterate 2 exact rfl)
              | (apply kr; (· exact rfl); (· repeat (first | exact mH _ _ | apply mT)); iterate 3 exact rfl)
              | (apply ks; (· exact rfl); (· repeat (first | exact mH _ _ | apply mT)); iterate 2 exact rfl)
              | (apply kn; iterate 2 exact rfl)
              | (apply ke; iterate 2 exact rfl)
              | (apply kx; iterate 2 exact rfl)
              | (apply kc; iterate 2 exact rfl)
              | (apply kb; iterate 2 exact rfl)
              | (apply kg; iterate 2 exact rfl)
              | (apply kG; iterate 3 exact rfl)
              | (apply kB; (iterate 2 exact rfl); intro _)
              | (apply kA; exact rfl; intro _)
              | (apply kL; (iterate 3 exact rfl); (· repeat (first | exact BS.nil _ | (apply BS.int; exact rfl) | (apply BS.ptr; exact rfl) | (apply BS.slice; exact rfl) | (apply BS.agg; iterate 2 exact rfl))); intro _)
              | (apply kT; (iterate 2 exact rfl); (· repeat (first | exact sH _ _ _ | apply sT)); iterate 2 exact rfl)
              | (apply kS; (iterate 2 exact rfl); (· repeat (first | exact sH _ _ _ | apply sT)); exact rfl)
              | (apply kh; (iterate 2 exact rfl); (first | decide | omega); exact rfl)
              | (apply kl; (iterate 2 exact rfl); (first | decide | omega); exact rfl)
              )
            | (apply LR.ev; (· apply Ev.add; (· exact rfl); (· exact rfl); (· first | omega | (dsimp only; omega)); (· first | omega | (dsimp only; omega))); (· exact rfl))
            | ((first | (apply kR; (· exact rfl); (· exact rfl)) | (apply kQ; (· exact rfl))); all_goals (intro hc; try simp only [decide_eq_true_eq, decide_eq_false_iff_not, Bool.not_eq_true', Bool.not_eq_false', Bool.not_eq_true, Bool.not_eq_false, Bool.not_true, Bool.not_false, Int.not_lt, Int.not_le, List.cons.injEq, and_true, beq_iff_eq, beq_eq_false_iff_ne] at hc; try (exfalso; first | contradiction | omega)))
            )
          all_goals (try (exfalso; revert hc; simp; done))
          refine At.again (i + 1, G) ⟨hi1, hG⟩ ?_ ?_ ?_ ?_
          · (repeat (first | exact Out.refl _ _ | exact Out.mix | (apply Out.upd; (· exact rfl)) | (apply Out.updL; (· exact rfl)) | (apply Out.mixs; (· exact rfl))))
          · exact ⟨rfl, trivial⟩
          · intro w' hw'
            refine hw'.sub ?_
            repeat (first | exact List.Sublist.refl _ | apply List.Sublist.cons_cons | apply List.Sublist.cons)
            done
          · exact hdec
      · have e2 : beginM G X.d.x.k X.d.ps = zeroMsg := by unfold beginM; rw [if_neg hbb]
        have e3 : beginE X.d.x.k X.d.ps = 2 := by unfold beginE; rw [if_neg hbb]
        have e : beginS G X.d.x.k X.d.ps = G := by unfold beginS; rw [if_neg (fun h => hbb h.1)]
        repeat' (
          first
          | (apply CW.reg_held (St w NoF [.own _ (.cells X.d.x.k.cells.toArray 25 (0, 0)), rdA (some ⟨ba, oa, none⟩) (l.flatMap DooA.row)]))
          | (
            first
            | (apply kp; iterate 2 exact rfl)
            | apply ja | apply jb | apply jg | apply jj | (apply je; exact rfl) | (apply jf; exact rfl) | apply jd | apply jh | apply ji | (apply jc; kernel_rfl) | apply jk | apply jl | apply jm | apply jn | apply jo | (apply jp; exact rfl) | apply jq | apply jr | apply js | apply jt | apply ju | apply jv | apply jw | apply kN | apply kM
            | (apply kf; iterate 2 exact rfl)
            | (apply ko; (· exact rfl); (· repeat (first | exact mH _ _ | apply mT)); iterate 2 exact rfl)
            | (apply ka; (· exact rfl); (· repeat (first | exact mH _ _ | apply mT)); iterate 2 exact rfl)
            | (apply kr; (· exact rfl); (· repeat (first | exact mH _ _ | apply mT)); iterate 3 exact rfl)
            | (apply ks; (· exact rfl); (· repeat (first | exact mH _ _ | apply mT)); iterate 2 exact rfl)
            | (apply kn; iterate 2 exact rfl)
            | (apply ke; iterate 2 exact rfl)
            | (apply kx; iterate 2 exact rfl)
            | (apply kc; iterate 2 exact rfl)
            | (apply kb; iterate 2 exact rfl)
            | (apply kg; iterate 2 exact rfl)
            | (apply kG; iterate 3 exact rfl)
            | (apply kB; (iterate 2 exact rfl); intro _)
            | (apply kA; exact rfl; intro _)
            | (apply kL; (iterate 3 exact rfl); (· repeat (first | exact BS.nil _ | (apply BS.int; exact rfl) | (apply BS.ptr; exact rfl) | (apply BS.slice; exact rfl) | (apply BS.agg; iterate 2 exact rfl))); intro _)
            | (apply kT; (iterate 2 exact rfl); (· repeat (first | exact sH _ _ _ | apply sT)); iterate 2 exact rfl)
            | (apply kS; (iterate 2 exact rfl); (· repeat (first | exact sH _ _ _ | apply sT)); exact rfl)
            | (apply kh; (iterate 2 exact rfl); (first | decide | omega); exact rfl)
            | (apply kl; (iterate 2 exact rfl); (first | decide | omega); exact rfl)
            )
          | (apply LR.ev; (· apply Ev.indexAddr; (· exact rfl); (· exact rfl); (· first | omega | (dsimp only; omega)); (· first | omega | (dsimp only; omega))); (· exact rfl))
          | (apply LR.ev; (· first | (apply Ev.load_agg_at (cs := X.row); (· exact rfl); (· exact rfl); (· intro w' hw'; exact ldr w' (hw'.rd_of (by (repeat (first | exact mH _ _ | apply mT)))) _ (by simp))) | (apply Ev.load_agg_at (cs := X.d.x.k.cells); (· exact rfl); (· exact rfl); (· intro w' hw'; exact ldk w' (hw'.rd_of (by (repeat (first | exact mH _ _ | apply mT)))) _ (by simp))) | (apply Ev.load_agg_at (cs := X.d.x.cells X.a X.c); (· exact rfl); (· exact rfl); (· intro w' hw'; exact ldi w' (hw'.rd_of (by (repeat (first | exact mH _ _ | apply mT)))) _ (by simp)))); (· exact rfl))
          | (apply kq; (· exact rfl); (· intro w1 h1; have hq := CallsTo.q (hg41 w1) h1; rw [hk] at hq; exact hq))
          | ((first | (apply kR; (· exact rfl); (· exact rfl)) | (apply kQ; (· exact rfl))); all_goals (intro hc; try simp only [decide_eq_true_eq, decide_eq_false_iff_not, Bool.not_eq_true', Bool.not_eq_false', Bool.not_eq_true, Bool.not_eq_false, Bool.not_true, Bool.not_false, Int.not_lt, Int.not_le, List.cons.injEq, and_true, beq_iff_eq, beq_eq_false_iff_ne] at hc; try (exfalso; first | contradiction | omega)))
          )
        apply DW.quiet [0, 1, 2, 3, 4, 5, 6]
        · decide +kernel
        · exact fun _ h => St.sub h (by repeat (first | exact List.Sublist.refl _ | apply List.Sublist.cons_cons | apply List.Sublist.cons))
        repeat' (
          first
          | (apply yp; iterate 3 exact rfl)
          | (apply QL.ev; exact rfl
             · first
               | (apply Ev.load_own; (· exact rfl); (· repeat (first | exact mH _ _ | apply mT)); exact rfl)
               | (apply Ev.load_agg; (· exact rfl); (· repeat (first | exact mH _ _ | apply mT)); exact rfl)
               | (apply Ev.load_rdq; (· exact rfl); (· repeat (first | exact mH _ _ | apply mT)); iterate 2 exact rfl)
               | (apply Ev.load_ardq; (· exact rfl); (· repeat (first | exact mH _ _ | apply mT)); exact rfl)
               | (apply Ev.fieldAddr; exact rfl)
               | (apply Ev.len; exact rfl)
               | (apply EqOf.eq; exact rfl)
               | (apply EqOf.ne; exact rfl)
               | (apply Ev.conv; exact rfl)
               | (apply Ev.buildN; exact rfl)
               | (apply Ev.shr; (iterate 2 exact rfl); first | decide | omega)
               | (apply Ev.shl; (iterate 2 exact rfl); first | decide | omega)
             · exact rfl)
          | (apply QL.ev; (· exact rfl); (· apply Ev.indexAddr; (· exact rfl); (· exact rfl); (· first | omega | (dsimp only; omega)); (· first | omega | (dsimp only; omega))); (· exact rfl))
          | (apply QL.ev; (· exact rfl); (· apply Ev.load; (· exact rfl); (· intro w' hw'; exact ldp w' (hw'.rd_of (by (repeat (first | exact mH _ _ | apply mT)))) _ (by simp))); (· exact rfl))
          | (apply yq; iterate 5 exact rfl)
          | (apply QL.evg; iterate 3 exact rfl
             · first
               | (apply Ev.load_own; (· exact rfl); (· repeat (first | exact mH _ _ | apply mT)); exact rfl)
               | (apply Ev.load_agg; (· exact rfl); (· repeat (first | exact mH _ _ | apply mT)); exact rfl)
               | (apply Ev.load_rdq; (· exact rfl); (· repeat (first | exact mH _ _ | apply mT)); iterate 2 exact rfl)
               | (apply Ev.load_ardq; (· exact rfl); (· repeat (first | exact mH _ _ | apply mT)); exact rfl)
               | (apply Ev.fieldAddr; exact rfl)
               | (apply Ev.len; exact rfl)
               | (apply EqOf.eq; exact rfl)
               | (apply EqOf.ne; exact rfl)
               | (apply Ev.conv; exact rfl)
               | (apply Ev.buildN; exact rfl)
               | (apply Ev.shr; (iterate 2 exact rfl); first | decide | omega)
               | (apply Ev.shl; (iterate 2 exact rfl); first | decide | omega)
             · exact rfl)
          | (apply yn; iterate 4 exact rfl)
          | ((apply QL.split; (· exact rfl); (· exact rfl); (· exact rfl)); all_goals (intro hc; try simp only [decide_eq_true_eq, decide_eq_false_iff_not, Bool.not_eq_true', Bool.not_eq_false', Bool.not_eq_true, Bool.not_eq_false, Bool.not_true, Bool.not_false, Int.not_lt, Int.not_le, List.cons.injEq, and_true, beq_iff_eq, beq_eq_false_iff_ne] at hc; try (exfalso; first | contradiction | omega)))
          | apply QL.nil
          )
        apply DP.begin []
        refine DP.more (PI.lr 11 12 [] (fun b => .pointer (some ⟨b, 0, none⟩)) (fun b => [.own b (.cells [.int .i64 0, .int .i64 0, .int .i64 0, .int .i64 0, .int .i64 0, .int .i64 0, .int .i64 0, .bool false, .int .i64 0, .int .i64 0, .int .i64 0, .int .i64 0, .slice none 0 0].toArray 28 (0, 0))]) rfl (fun b x hx => by simp at hx; subst hx; rfl) ?_) ?_
        · intro h w2
          apply kA
          · exact rfl
          intro b
          apply kM
          exact At.made rfl
        refine DP.go 7 [11] [12] [[]] rfl rfl rfl rfl (by decide +kernel) ⟨trivial, fun _ _ _ => trivial, trivial⟩ (fun A w' hA => St.sub hA (by simp only [List.cons_append, List.nil_append]; repeat (first | exact List.nil_sublist _ | exact List.Sublist.refl _ | apply List.Sublist.cons_cons | apply List.Sublist.cons))) ?_
        intro gg A LA hLA
        simp only [List.cons_append, List.nil_append] at hLA
        subst hLA
        apply LR.call
        · exact rfl
        intro w1 h1
        have hh := g42 bg G X.d.x.k X.ak X.ck X.d.ps w1 (h1.own_at (by (repeat (first | exact mH _ _ | apply mT)))) (by omega) (h1.oldRd hx.hrk) (h1.oldApart (x := gO 95 bg G) (by (repeat (first | exact mH _ _ | apply mT))) rfl hx.hrk) hx.hmk hx.hik
        rw [e, e2, e3] at hh
        refine CallsTo.mono hh ?_
        clear hh
        rintro v w2 ⟨a1, c1, rfl, st⟩
        have h2 := h1.two st rfl rfl rfl (by (repeat (first | exact sH _ _ _ | apply sT)))
        refine LR.back h2 ?_
        clear h2 h1
        apply kM
        apply At.pdone (ds := [12]) rfl
        · repeat (first | exact MixR.base _ | (apply MixR.upd; case hd => exact rfl))
        · repeat (first | exact Tl.nil | apply Tl.cons)
        · exact (fun A w' hA => St.sub hA (by simp only [List.cons_append, List.nil_append]; repeat (first | exact List.nil_sublist _ | exact List.Sublist.refl _ | apply List.Sublist.cons_cons | apply List.Sublist.cons)))
        refine DP.quiet [8, 9, 10] [11] [12] rfl rfl (by decide +kernel) (fun A w' hA => St.sub hA (by simp only [List.cons_append, List.nil_append]; repeat (first | exact List.nil_sublist _ | exact List.Sublist.refl _ | apply List.Sublist.cons_cons | apply List.Sublist.cons))) (fun gg => ?_)
        repeat' (
          first
          | (apply yp; iterate 3 exact rfl)
          | (apply QL.ev; exact rfl
             · first
               | (apply Ev.load_own; (· exact rfl); (· repeat (first | exact mH _ _ | apply mT)); exact rfl)
               | (apply Ev.load_agg; (· exact rfl); (· repeat (first | exact mH _ _ | apply mT)); exact rfl)
               | (apply Ev.load_rdq; (· exact rfl); (· repeat (first | exact mH _ _ | apply mT)); iterate 2 exact rfl)
               | (apply Ev.load_ardq; (· exact rfl); (· repeat (first | exact mH _ _ | apply mT)); exact rfl)
               | (apply Ev.fieldAddr; exact rfl)
               | (apply Ev.len; exact rfl)
               | (apply EqOf.eq; exact rfl)
               | (apply EqOf.ne; exact rfl)
               | (apply Ev.conv; exact rfl)
               | (apply Ev.buildN; exact rfl)
               | (apply Ev.shr; (iterate 2 exact rfl); first | decide | omega)
               | (apply Ev.shl; (iterate 2 exact rfl); first | decide | omega)
             · exact rfl)
          | (apply yq; iterate 5 exact rfl)
          | (apply QL.evg; iterate 3 exact rfl
             · first
               | (apply Ev.load_own; (· exact rfl); (· repeat (first | exact mH _ _ | apply mT)); exact rfl)
               | (apply Ev.load_agg; (· exact rfl); (· repeat (first | exact mH _ _ | apply mT)); exact rfl)
               | (apply Ev.load_rdq; (· exact rfl); (· repeat (first | exact mH _ _ | apply mT)); iterate 2 exact rfl)
               | (apply Ev.load_ardq; (· exact rfl); (· repeat (first | exact mH _ _ | apply mT)); exact rfl)
               | (apply Ev.fieldAddr; exact rfl)
               | (apply Ev.len; exact rfl)
               | (apply EqOf.eq; exact rfl)
               | (apply EqOf.ne; exact rfl)
               | (apply Ev.conv; exact rfl)
               | (apply Ev.buildN; exact rfl)
               | (apply Ev.shr; (iterate 2 exact rfl); first | decide | omega)
               | (apply Ev.shl; (iterate 2 exact rfl); first | decide | omega)
             · exact rfl)
          | (apply yn; iterate 4 exact rfl)
          | ((apply QL.split; (· exact rfl); (· exact rfl); (· exact rfl)); all_goals (intro hc; try simp only [decide_eq_true_eq, decide_eq_false_iff_not, Bool.not_eq_true', Bool.not_eq_false', Bool.not_eq_true, Bool.not_eq_false, Bool.not_true, Bool.not_false, Int.not_lt, Int.not_le, List.cons.injEq, and_true, beq_iff_eq, beq_eq_false_iff_ne] at hc; try (exfalso; first | contradiction | omega)))
          | apply QL.nil
          )
        apply pq_done
        · repeat (first | exact MixR.base _ | (apply MixR.upd; case hd => exact rfl))
        refine DP.take 11 12 (fun b => .pointer (some ⟨b, 0, none⟩)) (fun b => [.own b (.cells [.int .i64 0, .int .i64 0, .int .i64 0, .int .i64 0, .int .i64 0, .int .i64 0, .int .i64 0, .bool false, .int .i64 0, .int .i64 0, .int .i64 0, .int .i64 0, .slice none 0 0].toArray 28 (0, 0))]) [] [12] [[]] rfl rfl rfl rfl rfl rfl rfl (by decide +kernel) ⟨trivial, fun _ _ _ => trivial, trivial⟩ (fun A w' hA => St.sub hA (by simp only [List.cons_append, List.nil_append]; repeat (first | exact List.nil_sublist _ | exact List.Sublist.refl _ | apply List.Sublist.cons_cons | apply List.Sublist.cons))) (fun b12 => ?_)
        refine DP.nil ?_
        refine DW.castL (by simp only [List.cons_append, List.nil_append]; exact rfl) ?_
        apply DW.loud 12
        · exact rfl
        · decide +kernel
        repeat' (
          first
          | (apply kg; iterate 2 exact rfl)
          | (apply kG; iterate 3 exact rfl)
          | apply kM
          | (
            first
            | (apply kp; iterate 2 exact rfl)
            | (apply ko; (· exact rfl); (· repeat (first | exact mH _ _ | apply mT)); iterate 2 exact rfl)
            | (apply ka; (· exact rfl); (· repeat (first | exact mH _ _ | apply mT)); iterate 2 exact rfl)
            | (apply kL; (iterate 3 exact rfl); (· repeat (first | exact BS.nil _ | (apply BS.int; exact rfl) | (apply BS.ptr; exact rfl) | (apply BS.slice; exact rfl) | (apply BS.agg; iterate 2 exact rfl))); intro _)
            | (apply kT; (iterate 2 exact rfl); (· repeat (first | exact sH _ _ _ | apply sT)); iterate 2 exact rfl)
            | (apply kS; (iterate 2 exact rfl); (· repeat (first | exact sH _ _ _ | apply sT)); exact rfl)
            | (apply kB; (iterate 2 exact rfl); intro _)
            | (apply kA; exact rfl; intro _)
            )
          )
        refine At.stage_same (fun _ h => St.sub h (by repeat (first | exact List.Sublist.refl _ | apply List.Sublist.cons_cons | apply List.Sublist.cons))) ?_
        apply DW.quiet [13]
        · decide +kernel
        · exact fun _ h => St.sub h (by repeat (first | exact List.Sublist.refl _ | apply List.Sublist.cons_cons | apply List.Sublist.cons))
        repeat' (
          first
          | (apply yp; iterate 3 exact rfl)
          | (apply QL.ev; exact rfl
             · first
               | (apply Ev.load_own; (· exact rfl); (· repeat (first | exact mH _ _ | apply mT)); exact rfl)
               | (apply Ev.load_agg; (· exact rfl); (· repeat (first | exact mH _ _ | apply mT)); exact rfl)
               | (apply Ev.load_rdq; (· exact rfl); (· repeat (first | exact mH _ _ | apply mT)); iterate 2 exact rfl)
               | (apply Ev.load_ardq; (· exact rfl); (· repeat (first | exact mH _ _ | apply mT)); exact rfl)
               | (apply Ev.fieldAddr; exact rfl)
               | (apply Ev.len; exact rfl)
               | (apply EqOf.eq; exact rfl)
               | (apply EqOf.ne; exact rfl)
               | (apply Ev.conv; exact rfl)
               | (apply Ev.buildN; exact rfl)
               | (apply Ev.shr; (iterate 2 exact rfl); first | decide | omega)
               | (apply Ev.shl; (iterate 2 exact rfl); first | decide | omega)
             · exact rfl)
          | (apply yq; iterate 5 exact rfl)
          | (apply QL.evg; iterate 3 exact rfl
             · first
               | (apply Ev.load_own; (· exact rfl); (· repeat (first | exact mH _ _ | apply mT)); exact rfl)
               | (apply Ev.load_agg; (· exact rfl); (· repeat (first | exact mH _ _ | apply mT)); exact rfl)
               | (apply Ev.load_rdq; (· exact rfl); (· repeat (first | exact mH _ _ | apply mT)); iterate 2 exact rfl)
               | (apply Ev.load_ardq; (· exact rfl); (· repeat (first | exact mH _ _ | apply mT)); exact rfl)
               | (apply Ev.fieldAddr; exact rfl)
               | (apply Ev.len; exact rfl)
               | (apply EqOf.eq; exact rfl)
               | (apply EqOf.ne; exact rfl)
               | (apply Ev.conv; exact rfl)
               | (apply Ev.buildN; exact rfl)
               | (apply Ev.shr; (iterate 2 exact rfl); first | decide | omega)
               | (apply Ev.shl; (iterate 2 exact rfl); first | decide | omega)
             · exact rfl)
          | (apply yn; iterate 4 exact rfl)
          | ((apply QL.split; (· exact rfl); (· exact rfl); (· exact rfl)); all_goals (intro hc; try simp only [decide_eq_true_eq, decide_eq_false_iff_not, Bool.not_eq_true', Bool.not_eq_false', Bool.not_eq_true, Bool.not_eq_false, Bool.not_true, Bool.not_false, Int.not_lt, Int.not_le, List.cons.injEq, and_true, beq_iff_eq, beq_eq_false_iff_ne] at hc; try (exfalso; first | contradiction | omega)))
          | apply QL.nil
          )
        all_goals (show DW _ _ _ _ _ _ _ _)
        first | (apply DW.done_thn; (· decide +kernel)) | (apply DW.done; (· decide +kernel))
        repeat' (
          first
          | (apply CW.reg_heldC)
          | (
            first
            | (apply kp; iterate 2 exact rfl)
            | apply ja | apply jb | apply jg | apply jj | (apply je; exact rfl) | (apply jf; exact rfl) | apply jd | apply jh | apply ji | (apply jc; kernel_rfl) | apply jk | apply jl | apply jm | apply jn | apply jo | (apply jp; exact rfl) | apply jq | apply jr | apply js | apply jt | apply ju | apply jv | apply jw | apply kN | apply kM
            | (apply kf; iterate 2 exact rfl)
            | (apply ko; (· exact rfl); (· repeat (first | exact mH _ _ | apply mT)); iterate 2 exact rfl)
            | (apply ka; (· exact rfl); (· repeat (first | exact mH _ _ | apply mT)); iterate 2 exact rfl)
            | (apply kr; (· exact rfl); (· repeat (first | exact mH _ _ | apply mT)); iterate 3 exact rfl)
            | (apply ks; (· exact rfl); (· repeat (first | exact mH _ _ | apply mT)); iterate 2 exact rfl)
            | (apply kn; iterate 2 exact rfl)
            | (apply ke; iterate 2 exact rfl)
            | (apply kx; iterate 2 exact rfl)
            | (apply kc; iterate 2 exact rfl)
            | (apply kb; iterate 2 exact rfl)
            | (apply kg; iterate 2 exact rfl)
            | (apply kG; iterate 3 exact rfl)
            | (apply kB; (iterate 2 exact rfl); intro _)
            | (apply kA; exact rfl; intro _)
            | (apply kL; (iterate 3 exact rfl); (· repeat (first | exact BS.nil _ | (apply BS.int; exact rfl) | (apply BS.ptr; exact rfl) | (apply BS.slice; exact rfl) | (apply BS.agg; iterate 2 exact rfl))); intro _)
            | (apply kT; (iterate 2 exact rfl); (· repeat (first | exact sH _ _ _ | apply sT)); iterate 2 exact rfl)
            | (apply kS; (iterate 2 exact rfl); (· repeat (first | exact sH _ _ _ | apply sT)); exact rfl)
            | (apply kh; (iterate 2 exact rfl); (first | decide | omega); exact rfl)
            | (apply kl; (iterate 2 exact rfl); (first | decide | omega); exact rfl)
            )
          | ((first | (apply kR; (· exact rfl); (· exact rfl)) | (apply kQ; (· exact rfl))); all_goals (intro hc; try simp only [decide_eq_true_eq, decide_eq_false_iff_not, Bool.not_eq_true', Bool.not_eq_false', Bool.not_eq_true, Bool.not_eq_false, Bool.not_true, Bool.not_false, Int.not_lt, Int.not_le, List.cons.injEq, and_true, beq_iff_eq, beq_eq_false_iff_ne] at hc; try (exfalso; first | contradiction | omega)))
          )
        all_goals (
          apply DW.quiet [0, 2]
          · decide +kernel
          · first | exact fun _ h => h | exact fun _ h => St.sub h (by repeat (first | exact List.Sublist.refl _ | apply List.Sublist.cons_cons | apply List.Sublist.cons))
          repeat' (
            first
            | (apply yp; iterate 3 exact rfl)
            | (apply QL.ev; exact rfl
               · first
                 | (apply Ev.load_own; (· exact rfl); (· repeat (first | exact mH _ _ | apply mT)); exact rfl)
                 | (apply Ev.load_agg; (· exact rfl); (· repeat (first | exact mH _ _ | apply mT)); exact rfl)
                 | (apply Ev.load_rdq; (· exact rfl); (· repeat (first | exact mH _ _ | apply mT)); iterate 2 exact rfl)
                 | (apply Ev.load_ardq; (· exact rfl); (· repeat (first | exact mH _ _ | apply mT)); exact rfl)
                 | (apply Ev.fieldAddr; exact rfl)
                 | (apply Ev.len; exact rfl)
                 | (apply EqOf.eq; exact rfl)
                 | (apply EqOf.ne; exact rfl)
                 | (apply Ev.conv; exact rfl)
                 | (apply Ev.buildN; exact rfl)
                 | (apply Ev.shr; (iterate 2 exact rfl); first | decide | omega)
                 | (apply Ev.shl; (iterate 2 exact rfl); first | decide | omega)
               · exact rfl)
            | (apply yq; iterate 5 exact rfl)
            | (apply QL.evg; iterate 3 exact rfl
               · first
                 | (apply Ev.load_own; (· exact rfl); (· repeat (first | exact mH _ _ | apply mT)); exact rfl)
                 | (apply Ev.load_agg; (· exact rfl); (· repeat (first | exact mH _ _ | apply mT)); exact rfl)
                 | (apply Ev.load_rdq; (· exact rfl); (· repeat (first | exact mH _ _ | apply mT)); iterate 2 exact rfl)
                 | (apply Ev.load_ardq; (· exact rfl); (· repeat (first | exact mH _ _ | apply mT)); exact rfl)
                 | (apply Ev.fieldAddr; exact rfl)
                 | (apply Ev.len; exact rfl)
                 | (apply EqOf.eq; exact rfl)
                 | (apply EqOf.ne; exact rfl)
                 | (apply Ev.conv; exact rfl)
                 | (apply Ev.buildN; exact rfl)
                 | (apply Ev.shr; (iterate 2 exact rfl); first | decide | omega)
                 | (apply Ev.shl; (iterate 2 exact rfl); first | decide | omega)
               · exact rfl)
            | (apply yn; iterate 4 exact rfl)
            | ((apply QL.split; (· exact rfl); (· exact rfl); (· exact rfl)); all_goals (intro hc; try simp only [decide_eq_true_eq, decide_eq_false_iff_not, Bool.not_eq_true', Bool.not_eq_false', Bool.not_eq_true, Bool.not_eq_false, Bool.not_true, Bool.not_false, Int.not_lt, Int.not_le, List.cons.injEq, and_true, beq_iff_eq, beq_eq_false_iff_ne] at hc; try (exfalso; first | contradiction | omega)))
            | apply QL.nil
            )
          all_goals (show DW _ _ _ _ _ _ _ _))
        all_goals (
          apply DW.loud 1
          · exact rfl
          · decide +kernel
          repeat' (
            first
            | (apply kg; iterate 2 exact rfl)
            | (apply kG; iterate 3 exact rfl)
            | apply kM
            | (
              first
              | (apply kp; iterate 2 exact rfl)
              | (apply ko; (· exact rfl); (· repeat (first | exact mH _ _ | apply mT)); iterate 2 exact rfl)
              | (apply ka; (· exact rfl); (· repeat (first | exact mH _ _ | apply mT)); iterate 2 exact rfl)
              | (apply kL; (iterate 3 exact rfl); (· repeat (first | exact BS.nil _ | (apply BS.int; exact rfl) | (apply BS.ptr; exact rfl) | (apply BS.slice; exact rfl) | (apply BS.agg; iterate 2 exact rfl))); intro _)
              | (apply kT; (iterate 2 exact rfl); (· repeat (first | exact sH _ _ _ | apply sT)); iterate 2 exact rfl)
              | (apply kS; (iterate 2 exact rfl); (· repeat (first | exact sH _ _ _ | apply sT)); exact rfl)
              | (apply kB; (iterate 2 exact rfl); intro _)
              | (apply kA; exact rfl; intro _)
              )
            | (apply kq; (· exact rfl); (· intro w1 h1; exact CallsTo.q (g45 bg (G) w1 (h1.rd_of_blk (by (repeat (first | exact mH _ _ | apply mT)))) (by show G.node ≠ 0; omega)) h1))
            )
          all_goals (refine At.stage_same (fun _ h => St.sub h (by repeat (first | exact List.Sublist.refl _ | apply List.Sublist.cons_cons | apply List.Sublist.cons))) ?_))
        all_goals (
          apply DW.quiet [3]
          · decide +kernel
          · first | exact fun _ h => h | exact fun _ h => St.sub h (by repeat (first | exact List.Sublist.refl _ | apply List.Sublist.cons_cons | apply List.Sublist.cons))
          repeat' (
            first
            | (apply yp; iterate 3 exact rfl)
            | (apply QL.ev; exact rfl
               · first
                 | (apply Ev.load_own; (· exact rfl); (· repeat (first | exact mH _ _ | apply mT)); exact rfl)
                 | (apply Ev.load_agg; (· exact rfl); (· repeat (first | exact mH _ _ | apply mT)); exact rfl)
                 | (apply Ev.load_rdq; (· exact rfl); (· repeat (first | exact mH _ _ | apply mT)); iterate 2 exact rfl)
                 | (apply Ev.load_ardq; (· exact rfl); (· repeat (first | exact mH _ _ | apply mT)); exact rfl)
                 | (apply Ev.fieldAddr; exact rfl)
                 | (apply Ev.len; exact rfl)
                 | (apply EqOf.eq; exact rfl)
                 | (apply EqOf.ne; exact rfl)
                 | (apply Ev.conv; exact rfl)
                 | (apply Ev.buildN; exact rfl)
                 | (apply Ev.shr; (iterate 2 exact rfl); first | decide | omega)
                 | (apply Ev.shl; (iterate 2 exact rfl); first | decide | omega)
               · exact rfl)
            | (apply yq; iterate 5 exact rfl)
            | (apply QL.evg; iterate 3 exact rfl
               · first
                 | (apply Ev.load_own; (· exact rfl); (· repeat (first | exact mH _ _ | apply mT)); exact rfl)
                 | (apply Ev.load_agg; (· exact rfl); (· repeat (first | exact mH _ _ | apply mT)); exact rfl)
                 | (apply Ev.load_rdq; (· exact rfl); (· repeat (first | exact mH _ _ | apply mT)); iterate 2 exact rfl)
                 | (apply Ev.load_ardq; (· exact rfl); (· repeat (first | exact mH _ _ | apply mT)); exact rfl)
                 | (apply Ev.fieldAddr; exact rfl)
                 | (apply Ev.len; exact rfl)
                 | (apply EqOf.eq; exact rfl)
                 | (apply EqOf.ne; exact rfl)
                 | (apply Ev.conv; exact rfl)
                 | (apply Ev.buildN; exact rfl)
                 | (apply Ev.shr; (iterate 2 exact rfl); first | decide | omega)
                 | (apply Ev.shl; (iterate 2 exact rfl); first | decide | omega)
               · exact rfl)
            | (apply yn; iterate 4 exact rfl)
            | ((apply QL.split; (· exact rfl); (· exact rfl); (· exact rfl)); all_goals (intro hc; try simp only [decide_eq_true_eq, decide_eq_false_iff_not, Bool.not_eq_true', Bool.not_eq_false', Bool.not_eq_true, Bool.not_eq_false, Bool.not_true, Bool.not_false, Int.not_lt, Int.not_le, List.cons.injEq, and_true, beq_iff_eq, beq_eq_false_iff_ne] at hc; try (exfalso; first | contradiction | omega)))
            | apply QL.nil
            )
          all_goals (show DW _ _ _ _ _ _ _ _))
        all_goals (first | (apply DW.done_thn; (· decide +kernel)) | (apply DW.done; (· decide +kernel)))
        repeat' (
          first
          | (
            first
            | (apply kp; iterate 2 exact rfl)
            | apply ja | apply jb | apply jg | apply jj | (apply je; exact rfl) | (apply jf; exact rfl) | apply jd | apply jh | apply ji | (apply jc; kernel_rfl) | apply jk | apply jl | apply jm | apply jn | apply jo | (apply jp; exact rfl) | apply jq | apply jr | apply js | apply jt | apply ju | apply jv | apply jw | apply kN | apply kM
            | (apply kf; iterate 2 exact rfl)
            | (apply ko; (· exact rfl); (· repeat (first | exact mH _ _ | apply mT)); iterate 2 exact rfl)
            | (apply ka; (· exact rfl); (· repeat (first | exact mH _ _ | apply mT)); iterate 2 exact rfl)
            | (apply kr; (· exact rfl); (· repeat (first | exact mH _ _ | apply mT)); iterate 3 exact rfl)
            | (apply ks; (· exact rfl); (· repeat (first | exact mH _ _ | apply mT)); iterate 2 exact rfl)
            | (apply kn; iterate 2 exact rfl)
            | (apply ke; iterate 2 exact rfl)
            | (apply kx; iterate 2 exact rfl)
            | (apply kc; iterate 2 exact rfl)
            | (apply kb; iterate 2 exact rfl)
            | (apply kg; iterate 2 exact rfl)
            | (apply kG; iterate 3 exact rfl)
            | (apply kB; (iterate 2 exact rfl); intro _)
            | (apply kA; exact rfl; intro _)
            | (apply kL; (iterate 3 exact rfl); (· repeat (first | exact BS.nil _ | (apply BS.int; exact rfl) | (apply BS.ptr; exact rfl) | (apply BS.slice; exact rfl) | (apply BS.agg; iterate 2 exact rfl))); intro _)
            | (apply kT; (iterate 2 exact rfl); (· repeat (first | exact sH _ _ _ | apply sT)); iterate 2 exact rfl)
            | (apply kS; (iterate 2 exact rfl); (· repeat (first | exact sH _ _ _ | apply sT)); exact rfl)
            | (apply kh; (iterate 2 exact rfl); (first | decide | omega); exact rfl)
            | (apply kl; (iterate 2 exact rfl); (first | decide | omega); exact rfl)
            )
          | (apply LR.ev; (· apply Ev.add; (· exact rfl); (· exact rfl); (· first | omega | (dsimp only; omega)); (· first | omega | (dsimp only; omega))); (· exact rfl))
          | ((first | (apply kR; (· exact rfl); (· exact rfl)) | (apply kQ; (· exact rfl))); all_goals (intro hc; try simp only [decide_eq_true_eq, decide_eq_false_iff_not, Bool.not_eq_true', Bool.not_eq_false', Bool.not_eq_true, Bool.not_eq_false, Bool.not_true, Bool.not_false, Int.not_lt, Int.not_le, List.cons.injEq, and_true, beq_iff_eq, beq_eq_false_iff_ne] at hc; try (exfalso; first | contradiction | omega)))
          )
        all_goals (try (exfalso; revert hc; simp; done))
        refine At.again (i + 1, G) ⟨hi1, hG⟩ ?_ ?_ ?_ ?_
        · (repeat (first | exact Out.refl _ _ | exact Out.mix | (apply Out.upd; (· exact rfl)) | (apply Out.updL; (· exact rfl)) | (apply Out.mixs; (· exact rfl))))
        · exact ⟨rfl, trivial⟩
        · intro w' hw'
          refine hw'.sub ?_
          repeat (first | exact List.Sublist.refl _ | apply List.Sublist.cons_cons | apply List.Sublist.cons)
          done
        · exact hdec
    · repeat' (
        first
        | (
          first
          | (apply kp; iterate 2 exact rfl)
          | apply ja | apply jb | apply jg | apply jj | (apply je; exact rfl) | (apply jf; exact rfl) | apply jd | apply jh | apply ji | (apply jc; kernel_rfl) | apply jk | apply jl | apply jm | apply jn | apply jo | (apply jp; exact rfl) | apply jq | apply jr | apply js | apply jt | apply ju | apply jv | apply jw | apply kN | apply kM
          | (apply kf; iterate 2 exact rfl)
          | (apply ko; (· exact rfl); (· repeat (first | exact mH _ _ | apply mT)); iterate 2 exact rfl)
          | (apply ka; (· exact rfl); (· repeat (first | exact mH _ _ | apply mT)); iterate 2 exact rfl)
          | (apply kr; (· exact rfl); (· repeat (first | exact mH _ _ | apply mT)); iterate 3 exact rfl)
          | (apply ks; (· exact rfl); (· repeat (first | exact mH _ _ | apply mT)); iterate 2 exact rfl)
          | (apply kn; iterate 2 exact rfl)
          | (apply ke; iterate 2 exact rfl)
          | (apply kx; iterate 2 exact rfl)
          | (apply kc; iterate 2 exact rfl)
          | (apply kb; iterate 2 exact rfl)
          | (apply kg; iterate 2 exact rfl)
          | (apply kG; iterate 3 exact rfl)
          | (apply kB; (iterate 2 exact rfl); intro _)
          | (apply kA; exact rfl; intro _)
          | (apply kL; (iterate 3 exact rfl); (· repeat (first | exact BS.nil _ | (apply BS.int; exact rfl) | (apply BS.ptr; exact rfl) | (apply BS.slice; exact rfl) | (apply BS.agg; iterate 2 exact rfl))); intro _)
          | (apply kT; (iterate 2 exact rfl); (· repeat (first | exact sH _ _ _ | apply sT)); iterate 2 exact rfl)
          | (apply kS; (iterate 2 exact rfl); (· repeat (first | exact sH _ _ _ | apply sT)); exact rfl)
          | (apply kh; (iterate 2 exact rfl); (first | decide | omega); exact rfl)
          | (apply kl; (iterate 2 exact rfl); (first | decide | omega); exact rfl)
          )
        | (apply LR.ev; (· apply Ev.indexAddr; (· exact rfl); (· exact rfl); (· first | omega | (dsimp only; omega)); (· first | omega | (dsimp only; omega))); (· exact rfl))
        | (apply LR.ev; (· first | (apply Ev.load_agg_at (cs := X.row); (· exact rfl); (· exact rfl); (· intro w' hw'; exact ldr w' (hw'.rd_of (by (repeat (first | exact mH _ _ | apply mT)))) _ (by simp))) | (apply Ev.load_agg_at (cs := X.d.x.k.cells); (· exact rfl); (· exact rfl); (· intro w' hw'; exact ldk w' (hw'.rd_of (by (repeat (first | exact mH _ _ | apply mT)))) _ (by simp))) | (apply Ev.load_agg_at (cs := X.d.x.cells X.a X.c); (· exact rfl); (· exact rfl); (· intro w' hw'; exact ldi w' (hw'.rd_of (by (repeat (first | exact mH _ _ | apply mT)))) _ (by simp)))); (· exact rfl))
        | (apply kq; (· exact rfl); (· intro w1 h1; have hq := CallsTo.q (hg41 w1) h1; rw [hk] at hq; exact hq))
        | ((first | (apply kR; (· exact rfl); (· exact rfl)) | (apply kQ; (· exact rfl))); all_goals (intro hc; try simp only [decide_eq_true_eq, decide_eq_false_iff_not, Bool.not_eq_true', Bool.not_eq_false', Bool.not_eq_true, Bool.not_eq_false, Bool.not_true, Bool.not_false, Int.not_lt, Int.not_le, List.cons.injEq, and_true, beq_iff_eq, beq_eq_false_iff_ne] at hc; try (exfalso; first | contradiction | omega)))
        )
      apply LR.call
      · exact rfl
      intro w1 h1
      have hh := g38 bg G w1 (h1.own_at (by (repeat (first | exact mH _ _ | apply mT)))) (by omega)
      skip
      refine CallsTo.mono hh ?_
      clear hh
      rintro v w2 st
      have h2 := h1.one' st rfl (Asrt.dep_own _ _) (by (repeat (first | exact sH _ _ _ | apply sT)))
      refine LR.back h2 ?_
      clear h2 h1
      repeat' (
        first
        | (apply CW.reg_heldC)
        | (
          first
          | (apply kp; iterate 2 exact rfl)
          | apply ja | apply jb | apply jg | apply jj | (apply je; exact rfl) | (apply jf; exact rfl) | apply jd | apply jh | apply ji | (apply jc; kernel_rfl) | apply jk | apply jl | apply jm | apply jn | apply jo | (apply jp; exact rfl) | apply jq | apply jr | apply js | apply jt | apply ju | apply jv | apply jw | apply kN | apply kM
          | (apply kf; iterate 2 exact rfl)
          | (apply ko; (· exact rfl); (· repeat (first | exact mH _ _ | apply mT)); iterate 2 exact rfl)
          | (apply ka; (· exact rfl); (· repeat (first | exact mH _ _ | apply mT)); iterate 2 exact rfl)
          | (apply kr; (· exact rfl); (· repeat (first | exact mH _ _ | apply mT)); iterate 3 exact rfl)
          | (apply ks; (· exact rfl); (· repeat (first | exact mH _ _ | apply mT)); iterate 2 exact rfl)
          | (apply kn; iterate 2 exact rfl)
          | (apply ke; iterate 2 exact rfl)
          | (apply kx; iterate 2 exact rfl)
          | (apply kc; iterate 2 exact rfl)
          | (apply kb; iterate 2 exact rfl)
          | (apply kg; iterate 2 exact rfl)
          | (apply kG; iterate 3 exact rfl)
          | (apply kB; (iterate 2 exact rfl); intro _)
          | (apply kA; exact rfl; intro _)
          | (apply kL; (iterate 3 exact rfl); (· repeat (first | exact BS.nil _ | (apply BS.int; exact rfl) | (apply BS.ptr; exact rfl) | (apply BS.slice; exact rfl) | (apply BS.agg; iterate 2 exact rfl))); intro _)
          | (apply kT; (iterate 2 exact rfl); (· repeat (first | exact sH _ _ _ | apply sT)); iterate 2 exact rfl)
          | (apply kS; (iterate 2 exact rfl); (· repeat (first | exact sH _ _ _ | apply sT)); exact rfl)
          | (apply kh; (iterate 2 exact rfl); (first | decide | omega); exact rfl)
          | (apply kl; (iterate 2 exact rfl); (first | decide | omega); exact rfl)
          )
        | ((first | (apply kR; (· exact rfl); (· exact rfl)) | (apply kQ; (· exact rfl))); all_goals (intro hc; try simp only [decide_eq_true_eq, decide_eq_false_iff_not, Bool.not_eq_true', Bool.not_eq_false', Bool.not_eq_true, Bool.not_eq_false, Bool.not_true, Bool.not_false, Int.not_lt, Int.not_le, List.cons.injEq, and_true, beq_iff_eq, beq_eq_false_iff_ne] at hc; try (exfalso; first | contradiction | omega)))
        )
      all_goals (
        apply DW.quiet [0, 2]
        · decide +kernel
        · first | exact fun _ h => h | exact fun _ h => St.sub h (by repeat (first | exact List.Sublist.refl _ | apply List.Sublist.cons_cons | apply List.Sublist.cons))
        repeat' (
          first
          | (apply yp; iterate 3 exact rfl)
          | (apply QL.ev; exact rfl
             · first
               | (apply Ev.load_own; (· exact rfl); (· repeat (first | exact mH _ _ | apply mT)); exact rfl)
               | (apply Ev.load_agg; (· exact rfl); (· repeat (first | exact mH _ _ | apply mT)); exact rfl)
               | (apply Ev.load_rdq; (· exact rfl); (· repeat (first | exact mH _ _ | apply mT)); iterate 2 exact rfl)
               | (apply Ev.load_ardq; (· exact rfl); (· repeat (first | exact mH _ _ | apply mT)); exact rfl)
               | (apply Ev.fieldAddr; exact rfl)
               | (apply Ev.len; exact rfl)
               | (apply EqOf.eq; exact rfl)
               | (apply EqOf.ne; exact rfl)
               | (apply Ev.conv; exact rfl)
               | (apply Ev.buildN; exact rfl)
               | (apply Ev.shr; (iterate 2 exact rfl); first | decide | omega)
               | (apply Ev.shl; (iterate 2 exact rfl); first | decide | omega)
             · exact rfl)
          | (apply yq; iterate 5 exact rfl)
          | (apply QL.evg; iterate 3 exact rfl
             · first
               | (apply Ev.load_own; (· exact rfl); (· repeat (first | exact mH _ _ | apply mT)); exact rfl)
               | (apply Ev.load_agg; (· exact rfl); (· repeat (first | exact mH _ _ | apply mT)); exact rfl)
               | (apply Ev.load_rdq; (· exact rfl); (· repeat (first | exact mH _ _ | apply mT)); iterate 2 exact rfl)
               | (apply Ev.load_ardq; (· exact rfl); (· repeat (first | exact mH _ _ | apply mT)); exact rfl)
               | (apply Ev.fieldAddr; exact rfl)
               | (apply Ev.len; exact rfl)
               | (apply EqOf.eq; exact rfl)
               | (apply EqOf.ne; exact rfl)
               | (apply Ev.conv; exact rfl)
               | (apply Ev.buildN; exact rfl)
               | (apply Ev.shr; (iterate 2 exact rfl); first | decide | omega)
               | (apply Ev.shl; (iterate 2 exact rfl); first | decide | omega)
             · exact rfl)
          | (apply yn; iterate 4 exact rfl)
          | ((apply QL.split; (· exact rfl); (· exact rfl); (· exact rfl)); all_goals (intro hc; try simp only [decide_eq_true_eq, decide_eq_false_iff_not, Bool.not_eq_true', Bool.not_eq_false', Bool.not_eq_true, Bool.not_eq_false, Bool.not_true, Bool.not_false, Int.not_lt, Int.not_le, List.cons.injEq, and_true, beq_iff_eq, beq_eq_false_iff_ne] at hc; try (exfalso; first | contradiction | omega)))
          | apply QL.nil
          )
        all_goals (show DW _ _ _ _ _ _ _ _))
      all_goals (
        apply DW.loud 1
        · exact rfl
        · decide +kernel
        repeat' (
          first
          | (apply kg; iterate 2 exact rfl)
          | (apply kG; iterate 3 exact rfl)
          | apply kM
          | (
            first
            | (apply kp; iterate 2 exact rfl)
            | (apply ko; (· exact rfl); (· repeat (first | exact mH _ _ | apply mT)); iterate 2 exact rfl)
            | (apply ka; (· exact rfl); (· repeat (first | exact mH _ _ | apply mT)); iterate 2 exact rfl)
            | (apply kL; (iterate 3 exact rfl); (· repeat (first | exact BS.nil _ | (apply BS.int; exact rfl) | (apply BS.ptr; exact rfl) | (apply BS.slice; exact rfl) | (apply BS.agg; iterate 2 exact rfl))); intro _)
            | (apply kT; (iterate 2 exact rfl); (· repeat (first | exact sH _ _ _ | apply sT)); iterate 2 exact rfl)
            | (apply kS; (iterate 2 exact rfl); (· repeat (first | exact sH _ _ _ | apply sT)); exact rfl)
            | (apply kB; (iterate 2 exact rfl); intro _)
            | (apply kA; exact rfl; intro _)
            )
          | (apply kq; (· exact rfl); (· intro w1 h1; exact CallsTo.q (g45 bg ({ G with a := zeroK }) w1 (h1.rd_of_blk (by (repeat (first | exact mH _ _ | apply mT)))) (by show G.node ≠ 0; omega)) h1))
          )
        all_goals (refine At.stage_same (fun _ h => St.sub h (by repeat (first | exact List.Sublist.refl _ | apply List.Sublist.cons_cons | apply List.Sublist.cons))) ?_))
      all_goals (
        apply DW.quiet [3]
        · decide +kernel
        · first | exact fun _ h => h | exact fun _ h => St.sub h (by repeat (first | exact List.Sublist.refl _ | apply List.Sublist.cons_cons | apply List.Sublist.cons))
        repeat' (
          first
          | (apply yp; iterate 3 exact rfl)
          | (apply QL.ev; exact rfl
             · first
               | (apply Ev.load_own; (· exact rfl); (· repeat (first | exact mH _ _ | apply mT)); exact rfl)
               | (apply Ev.load_agg; (· exact rfl); (· repeat (first | exact mH _ _ | apply mT)); exact rfl)
               | (apply Ev.load_rdq; (· exact rfl); (· repeat (first | exact mH _ _ | apply mT)); iterate 2 exact rfl)
               | (apply Ev.load_ardq; (· exact rfl); (· repeat (first | exact mH _ _ | apply mT)); exact rfl)
               | (apply Ev.fieldAddr; exact rfl)
               | (apply Ev.len; exact rfl)
               | (apply EqOf.eq; exact rfl)
               | (apply EqOf.ne; exact rfl)
               | (apply Ev.conv; exact rfl)
               | (apply Ev.buildN; exact rfl)
               | (apply Ev.shr; (iterate 2 exact rfl); first | decide | omega)
               | (apply Ev.shl; (iterate 2 exact rfl); first | decide | omega)
             · exact rfl)
          | (apply yq; iterate 5 exact rfl)
          | (apply QL.evg; iterate 3 exact rfl
             · first
               | (apply Ev.load_own; (· exact rfl); (· repeat (first | exact mH _ _ | apply mT)); exact rfl)
               | (apply Ev.load_agg; (· exact rfl); (· repeat (first | exact mH _ _ | apply mT)); exact rfl)
               | (apply Ev.load_rdq; (· exact rfl); (· repeat (first | exact mH _ _ | apply mT)); iterate 2 exact rfl)
               | (apply Ev.load_ardq; (· exact rfl); (· repeat (first | exact mH _ _ | apply mT)); exact rfl)
               | (apply Ev.fieldAddr; exact rfl)
               | (apply Ev.len; exact rfl)
               | (apply EqOf.eq; exact rfl)
               | (apply EqOf.ne; exact rfl)
               | (apply Ev.conv; exact rfl)
               | (apply Ev.buildN; exact rfl)
               | (apply Ev.shr; (iterate 2 exact rfl); first | decide | omega)
               | (apply Ev.shl; (iterate 2 exact rfl); first | decide | omega)
             · exact rfl)
          | (apply yn; iterate 4 exact rfl)
          | ((apply QL.split; (· exact rfl); (· exact rfl); (· exact rfl)); all_goals (intro hc; try simp only [decide_eq_true_eq, decide_eq_false_iff_not, Bool.not_eq_true', Bool.not_eq_false', Bool.not_eq_true, Bool.not_eq_false, Bool.not_true, Bool.not_false, Int.not_lt, Int.not_le, List.cons.injEq, and_true, beq_iff_eq, beq_eq_false_iff_ne] at hc; try (exfalso; first | contradiction | omega)))
          | apply QL.nil
          )
        all_goals (show DW _ _ _ _ _ _ _ _))
      all_goals (first | (apply DW.done_thn; (· decide +kernel)) | (apply DW.done; (· decide +kernel)))
      repeat' (
        first
        | (
          first
          | (apply kp; iterate 2 exact rfl)
          | apply ja | apply jb | apply jg | apply jj | (apply je; exact rfl) | (apply jf; exact rfl) | apply jd | apply jh | apply ji | (apply jc; kernel_rfl) | apply jk | apply jl | apply jm | apply jn | apply jo | (apply jp; exact rfl) | apply jq | apply jr | apply js | apply jt | apply ju | apply jv | apply jw | apply kN | apply kM
          | (apply kf; iterate 2 exact rfl)
          | (apply ko; (· exact rfl); (· repeat (first | exact mH _ _ | apply mT)); iterate 2 exact rfl)
          | (apply ka; (· exact rfl); (· repeat (first | exact mH _ _ | apply mT)); iterate 2 exact rfl)
          | (apply kr; (· exact rfl); (· repeat (first | exact mH _ _ | apply mT)); iterate 3 exact rfl)
          | (apply ks; (· exact rfl); (· repeat (first | exact mH _ _ | apply mT)); iterate 2 exact rfl)
          | (apply kn; iterate 2 exact rfl)
          | (apply ke; iterate 2 exact rfl)
          | (apply kx; iterate 2 exact rfl)
          | (apply kc; iterate 2 exact rfl)
          | (apply kb; iterate 2 exact rfl)
          | (apply kg; iterate 2 exact rfl)
          | (apply kG; iterate 3 exact rfl)
          | (apply kB; (iterate 2 exact rfl); intro _)
          | (apply kA; exact rfl; intro _)
          | (apply kL; (iterate 3 exact rfl); (· repeat (first | exact BS.nil _ | (apply BS.int; exact rfl) | (apply BS.ptr; exact rfl) | (apply BS.slice; exact rfl) | (apply BS.agg; iterate 2 exact rfl))); intro _)
          | (apply kT; (iterate 2 exact rfl); (· repeat (first | exact sH _ _ _ | apply sT)); iterate 2 exact rfl)
          | (apply kS; (iterate 2 exact rfl); (· repeat (first | exact sH _ _ _ | apply sT)); exact rfl)
          | (apply kh; (iterate 2 exact rfl); (first | decide | omega); exact rfl)
          | (apply kl; (iterate 2 exact rfl); (first | decide | omega); exact rfl)
          )
        | (apply LR.ev; (· apply Ev.add; (· exact rfl); (· exact rfl); (· first | omega | (dsimp only; omega)); (· first | omega | (dsimp only; omega))); (· exact rfl))
        | ((first | (apply kR; (· exact rfl); (· exact rfl)) | (apply kQ; (· exact rfl))); all_goals (intro hc; try simp only [decide_eq_true_eq, decide_eq_false_iff_not, Bool.not_eq_true', Bool.not_eq_false', Bool.not_eq_true, Bool.not_eq_false, Bool.not_true, Bool.not_false, Int.not_lt, Int.not_le, List.cons.injEq, and_true, beq_iff_eq, beq_eq_false_iff_ne] at hc; try (exfalso; first | contradiction | omega)))
        )
      all_goals (try (exfalso; revert hc; simp; done))
      refine At.again (i + 1, { G with a := zeroK }) ⟨hi1, hG⟩ ?_ ?_ ?_ ?_
      · (repeat (first | exact Out.refl _ _ | exact Out.mix | (apply Out.upd; (· exact rfl)) | (apply Out.updL; (· exact rfl)) | (apply Out.mixs; (· exact rfl))))
      · exact ⟨rfl, trivial⟩
      · intro w' hw'
        refine hw'.sub ?_
        repeat (first | exact List.Sublist.refl _ | apply List.Sublist.cons_cons | apply List.Sublist.cons)
        done
      · exact hdec
  · repeat' (
      first
      | (
        first
        | (apply kp; iterate 2 exact rfl)
        | apply ja | apply jb | apply jg | apply jj | (apply je; exact rfl) | (apply jf; exact rfl) | apply jd | apply jh | apply ji | (apply jc; kernel_rfl) | apply jk | apply jl | apply jm | apply jn | apply jo | (apply jp; exact rfl) | apply jq | apply jr | apply js | apply jt | apply ju | apply jv | apply jw | apply kN | apply kM
        | (apply kf; iterate 2 exact rfl)
        | (apply ko; (· exact rfl); (· repeat (first | exact mH _ _ | apply mT)); iterate 2 exact rfl)
        | (apply ka; (· exact rfl); (· repeat (first | exact mH _ _ | apply mT)); iterate 2 exact rfl)
        | (apply kr; (· exact rfl); (· repeat (first | exact mH _ _ | apply mT)); iterate 3 exact rfl)
        | (apply ks; (· exact rfl); (· repeat (first | exact mH _ _ | apply mT)); iterate 2 exact rfl)
        | (apply kn; iterate 2 exact rfl)
        | (apply ke; iterate 2 exact rfl)
        | (apply kx; iterate 2 exact rfl)
        | (apply kc; iterate 2 exact rfl)
        | (apply kb; iterate 2 exact rfl)
        | (apply kg; iterate 2 exact rfl)
        | (apply kG; iterate 3 exact rfl)
        | (apply kB; (iterate 2 exact rfl); intro _)
        | (apply kA; exact rfl; intro _)
        | (apply kL; (iterate 3 exact rfl); (· repeat (first | exact BS.nil _ | (apply BS.int; exact rfl) | (apply BS.ptr; exact rfl) | (apply BS.slice; exact rfl) | (apply BS.agg; iterate 2 exact rfl))); intro _)
        | (apply kT; (iterate 2 exact rfl); (· repeat (first | exact sH _ _ _ | apply sT)); iterate 2 exact rfl)
        | (apply kS; (iterate 2 exact rfl); (· repeat (first | exact sH _ _ _ | apply sT)); exact rfl)
        | (apply kh; (iterate 2 exact rfl); (first | decide | omega); exact rfl)
        | (apply kl; (iterate 2 exact rfl); (first | decide | omega); exact rfl)
        )
      | ((first | (apply kR; (· exact rfl); (· exact rfl)) | (apply kQ; (· exact rfl))); all_goals (intro hc; try simp only [decide_eq_true_eq, decide_eq_false_iff_not, Bool.not_eq_true', Bool.not_eq_false', Bool.not_eq_true, Bool.not_eq_false, Bool.not_true, Bool.not_false, Int.not_lt, Int.not_le, List.cons.injEq, and_true, beq_iff_eq, beq_eq_false_iff_ne] at hc; try (exfalso; first | contradiction | omega)))
      )
    all_goals (
      (apply ret1; (· exact rfl); intro w' hS)
      exact ⟨rfl, hS.toKeep⟩)
end Go.Proofs.Ytphcnaafhcfakaa
