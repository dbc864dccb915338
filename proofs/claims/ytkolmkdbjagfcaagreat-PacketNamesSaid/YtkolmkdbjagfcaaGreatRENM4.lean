/-
  What a packet's kind has of it; a packet in memory of its own.
-/
import Derived.Test.YtkolmkdbjagfcaaGreatRENM3
import Derived.Lib.SliceRun

set_option linter.unusedSimpArgs false
set_option linter.unusedVariables false
namespace Go.Proofs.YtkolmkdbjagfcaaGreat
open Go.Hb
attribute [local irreducible] LR CW At Ev thn blk finK noG again CallsTo DW QL dnext TW DP
set_option maxRecDepth 100000

def numsP (p : Pkt) : List Int :=
  if p.kind = 1 then [p.d.rseq, p.d.rrep, p.d.seq, p.d.sender, p.d.stamp]
  else if p.kind = 2 then [p.t.r1, p.t.r2, p.t.hop, p.t.seq, p.t.aru, p.t.low, p.t.stamp, p.t.idle]
  else if p.kind = 3 then [p.j1, p.j2, p.j3]
  else if p.kind = 4 then [p.c.r1, p.c.r2, p.c.mem, p.c.hop]
  else [p.b1, p.b2, p.b3]
def tailP (p : Pkt) : List Int :=
  if p.kind = 1 then enc (bytesM p.d.msg).length ++ bytesM p.d.msg
  else if p.kind = 2 then enc p.t.ask.length ++ encs p.t.ask
  else if p.kind = 4 then enc p.c.ents.length ++ encs (p.c.ents.flatMap Ent.nums)
  else []
def bodyP (p : Pkt) : List Int := encs [p.kind, p.to] ++ encs (numsP p) ++ tailP p
theorem live_ok {s r : Int} (h : liveR s r = true) : okN s ∧ okN r ∧ 1 ≤ s ∧ 1 ≤ r ∧ r ≤ 8 := by
  unfold liveR at h
  have h := of_decide_eq_true h
  unfold okN
  have h1 := h.1
  have h2 := h.2
  unfold ringE ringB numB at h2
  split at h2
  · rename_i h3
    simp only [Bool.or_eq_true, Bool.and_eq_true, decide_eq_true_eq] at h3
    omega
  · cases h2
theorem node_ok {n : Int} (h : nodeB n = true) : 1 ≤ n ∧ n ≤ 8 := by simpa [nodeB] using h
theorem num_okN {n : Int} (h : numB n = true) : okN n := by unfold okN; simpa [numB] using h
theorem crewL_bd {c x : Int} (h : x ∈ crewL c) : 0 ≤ x ∧ x ≤ 8 := by
  rw [← crewN_9] at h
  unfold crewN at h
  have h1 := (List.mem_filter.1 h).1
  obtain ⟨i, hi, rfl⟩ := List.mem_map.1 h1
  have := List.mem_range.1 hi
  omega
theorem crewL_getD (c : Int) (i : Nat) : 0 ≤ (crewL c).getD i 0 ∧ (crewL c).getD i 0 ≤ 8 := by
  rw [List.getD_eq_getElem?_getD]
  cases h : (crewL c)[i]? with
  | none => simp
  | some x => exact crewL_bd (List.mem_of_getElem? h)
theorem crewL_len (c : Int) : (crewL c).length ≤ 8 := by
  unfold crewL crewTo
  refine Nat.le_trans (List.length_filter_le _ _) ?_
  simp
theorem askOk_all {seq : Int} : ∀ {last : Int} {l : List Int}, askOk seq last l = true → 0 ≤ last → ∀ x ∈ l, 0 ≤ x ∧ x ≤ seq
  | last, [], _, _, x, hx => by simp at hx
  | last, y :: r, h, hl, x, hx => by
    unfold askOk at h
    simp only [Bool.and_eq_true, decide_eq_true_eq] at h
    rcases List.mem_cons.1 hx with rfl | hx
    · omega
    · exact askOk_all h.2 (by omega) x hx
theorem entsOk_all : ∀ {es : List Ent} {l : List Int}, entsOk es l = true → (∀ x ∈ l, 0 ≤ x ∧ x ≤ 8) → ∀ e ∈ es, ∀ x ∈ e.nums, okN x
  | [], _, _, _, e, he => by simp at he
  | e0 :: r, [], h, _, e, he => by cases h
  | e0 :: r, n :: l, h, hl, e, he => by
    unfold entsOk at h
    rw [Bool.and_eq_true] at h
    rcases List.mem_cons.1 he with rfl | he
    · intro x hx
      have h1 := h.1
      unfold entOk at h1
      simp only [Bool.and_eq_true, decide_eq_true_eq, List.all_cons, List.all_nil, and_true] at h1
      obtain ⟨⟨⟨h2, h3⟩, h4⟩, h5⟩ := h1
      have h6 := live_ok h3
      have h7 := hl n (by simp)
      simp only [Ent.nums, List.mem_cons, List.not_mem_nil, or_false] at hx
      rcases hx with rfl | rfl | rfl | rfl | rfl | rfl
      · unfold okN; omega
      · exact h6.1
      · exact h6.2.1
      · exact num_okN h4.1
      · exact num_okN h4.2.1
      · exact num_okN h4.2.2
    · exact entsOk_all h.2 (fun x hx => hl x (by simp [hx])) e he
theorem entsOk_len : ∀ {es : List Ent} {l : List Int}, entsOk es l = true → es.length ≤ l.length
  | [], _, _ => by simp
  | e0 :: r, [], h => by cases h
  | e0 :: r, n :: l, h => by
    unfold entsOk at h
    rw [Bool.and_eq_true] at h
    have := entsOk_len h.2
    simp only [List.length_cons]
    omega
theorem may_num {p : Pkt} (h : mayP p = true) : okN p.kind ∧ okN p.to ∧ (1 ≤ p.kind ∧ p.kind ≤ 5) ∧ ∀ x ∈ numsP p, okN x := by
  unfold mayP at h
  unfold numsP
  by_cases h1 : p.kind = 1
  · rw [if_pos h1] at h ⊢
    simp only [mayD, Bool.and_eq_true, decide_eq_true_eq, List.all_cons, List.all_nil, and_true] at h
    obtain ⟨h2, ⟨⟨⟨h3, h4⟩, h5, h6⟩, h7⟩, h8⟩ := h
    have h9 := live_ok h3
    have h10 := node_ok h7
    refine ⟨by unfold okN; omega, by unfold okN; omega, by omega, fun x hx => ?_⟩
    simp only [List.mem_cons, List.not_mem_nil, or_false] at hx
    rcases hx with rfl | rfl | rfl | rfl | rfl
    · exact h9.1
    · exact h9.2.1
    · exact num_okN h5
    · unfold okN; omega
    · exact num_okN h6
  rw [if_neg h1] at h ⊢
  by_cases h2 : p.kind = 2
  · rw [if_pos h2] at h ⊢
    simp only [mayT, tokHead, Bool.and_eq_true, decide_eq_true_eq, List.all_cons, List.all_nil, and_true, Bool.not_eq_true', decide_eq_false_iff_not] at h
    obtain ⟨h3, ⟨⟨⟨⟨⟨h4, h5⟩, h6, h7, h8, h9, h10⟩, h11⟩, h12⟩, h13⟩, h14⟩ := h
    have hn := node_ok h3
    have hl := live_ok h4
    refine ⟨by unfold okN; omega, by unfold okN; omega, by omega, fun x hx => ?_⟩
    simp only [List.mem_cons, List.not_mem_nil, or_false] at hx
    rcases hx with rfl | rfl | rfl | rfl | rfl | rfl | rfl | rfl
    · exact hl.1
    · exact hl.2.1
    · exact num_okN h6
    · exact num_okN h7
    · exact num_okN h8
    · unfold okN; omega
    · exact num_okN h9
    · exact num_okN h10
  rw [if_neg h2] at h ⊢
  by_cases h3 : p.kind = 3
  · rw [if_pos h3] at h ⊢
    simp only [Bool.and_eq_true, decide_eq_true_eq, List.all_cons, List.all_nil, and_true] at h
    obtain ⟨⟨⟨⟨h4, h5⟩, h6⟩, h7⟩, h8⟩ := h
    have hn := node_ok h5
    simp only [crewOk, decide_eq_true_eq] at h6
    refine ⟨by unfold okN; omega, by unfold okN; omega, by omega, fun x hx => ?_⟩
    simp only [List.mem_cons, List.not_mem_nil, or_false] at hx
    rcases hx with rfl | rfl | rfl
    · unfold okN; omega
    · unfold okN; omega
    · exact num_okN h8
  rw [if_neg h3] at h ⊢
  by_cases h4 : p.kind = 4
  · rw [if_pos h4] at h ⊢
    simp only [mayCm, comHead, comMid, Bool.and_eq_true, decide_eq_true_eq] at h
    obtain ⟨⟨⟨⟨h5, h6⟩, h7⟩, ⟨⟨h8, h9⟩, h10⟩, h11⟩, h12⟩ := h
    have hl := live_ok h7
    have hg := crewL_getD p.c.mem (p.c.hop.tmod ((crewL p.c.mem).length : Int)).toNat
    have hc := crewL_len p.c.mem
    simp only [crewOk, decide_eq_true_eq] at h5
    rw [← h11] at hg
    refine ⟨by unfold okN; omega, by unfold okN; omega, by omega, fun x hx => ?_⟩
    simp only [List.mem_cons, List.not_mem_nil, or_false] at hx
    rcases hx with rfl | rfl | rfl | rfl
    · exact hl.1
    · exact hl.2.1
    · unfold okN; omega
    · unfold okN; omega
  rw [if_neg h4] at h ⊢
  by_cases h5 : p.kind = 5
  · rw [if_pos h5] at h
    simp only [Bool.and_eq_true, decide_eq_true_eq] at h
    obtain ⟨⟨h6, h7⟩, h8⟩ := h
    have hl := live_ok h7
    have hn := node_ok h8
    refine ⟨by unfold okN; omega, by unfold okN; omega, by omega, fun x hx => ?_⟩
    simp only [List.mem_cons, List.not_mem_nil, or_false] at hx
    rcases hx with rfl | rfl | rfl
    · exact hl.1
    · exact hl.2.1
    · unfold okN; omega
  · rw [if_neg h5] at h
    cases h
theorem may_msg {p : Pkt} (h : mayP p = true) (hk : p.kind = 1) : check p.d.msg = 0 := by
  unfold mayP at h
  rw [if_pos hk] at h
  simp only [mayD, Bool.and_eq_true, decide_eq_true_eq] at h
  exact h.2.2
theorem may_ask {p : Pkt} (h : mayP p = true) (hk : p.kind = 2) : p.t.ask.length ≤ 16 ∧ ∀ x ∈ p.t.ask, okN x := by
  unfold mayP at h
  rw [if_neg (by omega), if_pos hk] at h
  simp only [mayT, tokHead, Bool.and_eq_true, decide_eq_true_eq, List.all_cons, List.all_nil, and_true, Bool.not_eq_true', decide_eq_false_iff_not] at h
  obtain ⟨h3, ⟨⟨⟨⟨⟨h4, h5⟩, h6, h7, h8, h9, h10⟩, h11⟩, h12⟩, h13⟩, h14⟩ := h
  refine ⟨by omega, fun x hx => ?_⟩
  have h1 := askOk_all h14 (by omega) x hx
  have h2 := num_okN h7
  unfold okN at h2 ⊢
  omega
theorem may_ents {p : Pkt} (h : mayP p = true) (hk : p.kind = 4) : p.c.ents.length ≤ 8 ∧ ∀ e ∈ p.c.ents, ∀ x ∈ e.nums, okN x := by
  unfold mayP at h
  rw [if_neg (by omega), if_neg (by omega), if_neg (by omega), if_pos hk] at h
  unfold mayCm at h
  simp only [Bool.and_eq_true] at h
  have h1 := entsOk_len h.2
  have h2 := crewL_len p.c.mem
  exact ⟨by omega, entsOk_all h.2 fun x hx => crewL_bd hx⟩
def pvIn (b : Nat) (l : List Value) : List PV → Prop
  | [] => True
  | q :: r => (q.b = b ∧ l[q.o]? = some (.int .i64 q.v)) ∧ pvIn b l r
theorem pvIn_all {b : Nat} {l : List Value} : ∀ {qs : List PV}, pvIn b l qs → ∀ q ∈ qs, q.b = b ∧ l[q.o]? = some (.int .i64 q.v)
  | [], _, q, hq => by simp at hq
  | x :: r, h, q, hq => by
    rcases List.mem_cons.1 hq with rfl | hq
    · exact h.1
    · exact pvIn_all h.2 q hq
theorem pvIn_of {b : Nat} {l : List Value} {w : World} {qs : List PV} (h : Rd w (some ⟨b, 0, none⟩) l) (hq : pvIn b l qs) : (pvA qs).holds w := by
  intro q hm
  obtain ⟨h1, h2⟩ := pvIn_all hq q hm
  have h3 := h.cell h2
  rw [Nat.zero_add] at h3
  rw [h1]
  exact h3
theorem pk_apart {w0 w : World} {F : Nat → Prop} {L : List Asrt} {bc bw bp : Nat} {a : Option Addr} {c : Nat} {l : List Int} {p : Pkt} {A : PAd} (h : St w0 F L w) (hs : [wC bc bw a c l, rdA (some ⟨bp, 0, none⟩) (p.cells A)].Sublist L ∨ [rdA (some ⟨bp, 0, none⟩) (p.cells A), wC bc bw a c l].Sublist L) : ¬ (wC bc bw a c l).foot bp :=
  fun hf => St.apart2 h hs rfl bp hf ⟨by simp [Pkt.cells], _, rfl, rfl⟩
theorem rd_apart {w0 w : World} {F : Nat → Prop} {L : List Asrt} {bc bw : Nat} {a : Option Addr} {c : Nat} {l : List Int} {sa : Option Addr} {xs : List Value} (h : St w0 F L w) (hs : [wC bc bw a c l, rdA sa xs].Sublist L ∨ [rdA sa xs, wC bc bw a c l].Sublist L) : ∀ k, rdFoot sa xs k → ¬ (wC bc bw a c l).foot k :=
  fun k hk hf => St.apart2 h hs rfl k hf hk
set_option maxHeartbeats 16000000 in
theorem p55w (bc bw : Nat) (a : Option Addr) (c : Nat) (l : List Int) (bp : Nat) (A : PAd) (p : Pkt) (w : World) (hS0 : St w (wC bc bw a c l).foot [wC bc bw a c l, rdA (some ⟨bp, 0, none⟩) (p.cells A), rdA A.da (bv p.d.msg.body), rdA A.ta (p.t.ask.flatMap ivF), rdA A.ca (p.c.ents.flatMap Ent.cells)] w)
    (hzd : A.da = none → A.dc = 0) (hB : Byt p.d.msg.body) (hm : mayP p = true) (hl : l.length ≤ 1000) :
    CallsTo Tryz.prog 26 [.pointer (some ⟨bc, 0, none⟩), .pointer (some ⟨bp, 0, none⟩)] w fun v w' => ∃ a' c', v = .tuple #[] ∧ Step (wC bc bw a c l) (wC bc bw a' c' (l ++ bodyP p)) w w' := by
  generalize hF : (wC bc bw a c l).foot = F at hS0
  have hokk := may_num hm
  have hok : okN p.kind ∧ okN p.to ∧ True := ⟨hokk.1, hokk.2.1, trivial⟩
  have hrange := hokk.2.2.1
  have hnum := hokk.2.2.2
  clear hokk
  refine go_in (n := 158) hS0 Tryz.func26 rfl rfl ?_
  by_cases hk : p.kind = 1
  · have en : numsP p = [p.d.rseq, p.d.rrep, p.d.seq, p.d.sender, p.d.stamp] := by unfold numsP; rw [if_pos hk]
    rw [en] at hnum
    have hl0 := encs_len [p.kind]
    have hl1 := encs_len [p.to]
    have hl2 := encs_len [p.d.rseq, p.d.rrep]
    have hl3 := encs_len [p.d.seq, p.d.sender, p.d.stamp]
    simp only [List.length_cons, List.length_nil] at hl0 hl1 hl2 hl3
    repeat'(first|(apply CW.reg_held (St w F [rdA (some ⟨bp, 0, none⟩) (p.cells A), rdA A.da (bv p.d.msg.body), rdA A.ta (p.t.ask.flatMap ivF), rdA A.ca (p.c.ents.flatMap Ent.cells)]))|(apply Go.Hb.kK;(iterate 4 exact rfl);intro bs)|refine kv' ?_|apply jJ|refine jE' ?_|refine jp' ?_|(apply jc;kernel_rfl)|refine kg' ?_|refine kG' ?_|refine kB' fun _=>?_|refine kA' fun _=>?_|refine kK' fun _=>?_|refine kU' ?_|(apply kq; (· exact rfl); (· intro w1 h1; exact CallsTo.q (p88 p.kind 1 5 w1) h1))|(apply LR.ev; (· apply Ev.load (v := .int .i64 0); (· exact rfl); (· exact fun w' hw' => wC_e (hw'.holds (wC bc bw _ _ _) memZ))); (· exact rfl))|(apply LR.ev; (· apply Ev.load (v := .int .i64 p.kind); (· exact rfl); (· exact fun w' hw' => (hw'.rd_of (a := some ⟨bp, 0, none⟩) (xs := p.cells A) memZ).cell (j := 0) rfl)); (· exact rfl))|(apply LR.call; (· exact rfl); (intro w1 h1; first | (refine (p87w bc bw _ _ (l) bs [(⟨bp, 0, p.kind⟩ : PV)] w1 (h1.holds (wC bc bw _ _ (l)) memZ) (h1.rd_of_blk memZ) (pvIn_of (h1.rd_of (a := some ⟨bp, 0, none⟩) (xs := p.cells A) memZ) (by refine ⟨⟨rfl, rfl⟩, ?_⟩; exact trivial)) (fun q hq => by (have e : q.b = bp := (pvIn_all (b := bp) (l := p.cells A) (qs := [(⟨bp, 0, p.kind⟩ : PV)]) (by refine ⟨⟨rfl, rfl⟩, ?_⟩; exact trivial) q hq).1); rw [e]; exact pk_apart h1 (.inl subZ)) (St.apart2 (x := .own bs (.cells _ 114 (0, 0))) h1 (.inl subZ) rfl bs rfl) (fun q hq => by simp only [List.mem_cons, List.not_mem_nil, or_false] at hq; rcases hq with rfl <;> first | exact hok.1 | exact hok.2.1 | exact hnum _ (by simp)) (by (try simp only [List.length_append]); omega) (by simp)).mono ?_; rintro v w2 ⟨_, _, rfl, st⟩; refine LR.back (St.did h1 selZ rfl st (wC_dep _ _ _ _ _)) ?_; clear st h1) | (refine (p87w bc bw _ _ (l ++ encs [p.kind]) bs [(⟨bp, 1, p.to⟩ : PV)] w1 (h1.holds (wC bc bw _ _ (l ++ encs [p.kind])) memZ) (h1.rd_of_blk memZ) (pvIn_of (h1.rd_of (a := some ⟨bp, 0, none⟩) (xs := p.cells A) memZ) (by refine ⟨⟨rfl, rfl⟩, ?_⟩; exact trivial)) (fun q hq => by (have e : q.b = bp := (pvIn_all (b := bp) (l := p.cells A) (qs := [(⟨bp, 1, p.to⟩ : PV)]) (by refine ⟨⟨rfl, rfl⟩, ?_⟩; exact trivial) q hq).1); rw [e]; exact pk_apart h1 (.inl subZ)) (St.apart2 (x := .own bs (.cells _ 114 (0, 0))) h1 (.inl subZ) rfl bs rfl) (fun q hq => by simp only [List.mem_cons, List.not_mem_nil, or_false] at hq; rcases hq with rfl <;> first | exact hok.1 | exact hok.2.1 | exact hnum _ (by simp)) (by (try simp only [List.length_append]); omega) (by simp)).mono ?_; rintro v w2 ⟨_, _, rfl, st⟩; refine LR.back (St.did h1 selZ rfl st (wC_dep _ _ _ _ _)) ?_; clear st h1) | (refine (p89w bc bw _ _ (l ++ encs [p.kind] ++ encs [p.to]) bp 2 p.d.rseq p.d.rrep w1 (h1.holds (wC bc bw _ _ (l ++ encs [p.kind] ++ encs [p.to])) memZ) (pvIn_of (h1.rd_of (a := some ⟨bp, 0, none⟩) (xs := p.cells A) memZ) (by refine ⟨⟨rfl, rfl⟩, ?_⟩; refine ⟨⟨rfl, rfl⟩, ?_⟩; exact trivial)) (fun q hq => by simp only [List.mem_cons, List.not_mem_nil, or_false] at hq; rcases hq with rfl | rfl <;> exact pk_apart h1 (.inl subZ)) (hnum _ (by simp)) (hnum _ (by simp)) (by (try simp only [List.length_append]); omega)).mono ?_; rintro v w2 ⟨_, _, rfl, st⟩; refine LR.back (St.did h1 selZ rfl st (wC_dep _ _ _ _ _)) ?_; clear st h1)))|((first|refine kR' ?_ ?_|refine kQ' ?_ ?_);all_goals(intro hc;try simp only[hcs]at hc;try(exfalso;first|contradiction|omega))))
    all_goals (
      apply DW.quiet [0, 1, 2, 3, 4, 5, 6, 7, 8, 9]
      · decide +kernel
      · first | exact fun _ h => h | exact fun _ h => St.sub h subZ
      repeat'(first|refine yv' ?_|refine uv' ?_|refine un' ?_|(refine us' ?_ ?_;all_goals(intro hc;try simp only[hcs]at hc;try(exfalso;first|contradiction|omega)))|apply QL.nil)
      all_goals (show DW _ _ _ _ _ _ _ _))
    all_goals (
      apply DW.loud 10
      · exact rfl
      · decide +kernel
      repeat'(first|(apply Go.Hb.kK;(iterate 4 exact rfl);intro bs)|refine kg' ?_|refine kG' ?_|apply kM|refine kv' ?_|refine kK' fun _=>?_|refine kU' ?_|refine kB' fun _=>?_|refine kA' fun _=>?_|(apply LR.call; (· exact rfl); (intro w1 h1; (refine (p87w bc bw _ _ (l ++ encs [p.kind] ++ encs [p.to] ++ encs [p.d.rseq, p.d.rrep]) bs [(⟨bp, 4, p.d.seq⟩ : PV), (⟨bp, 5, p.d.sender⟩ : PV), (⟨bp, 6, p.d.stamp⟩ : PV)] w1 (h1.holds (wC bc bw _ _ (l ++ encs [p.kind] ++ encs [p.to] ++ encs [p.d.rseq, p.d.rrep])) memZ) (h1.rd_of_blk memZ) (pvIn_of (h1.rd_of (a := some ⟨bp, 0, none⟩) (xs := p.cells A) memZ) (by refine ⟨⟨rfl, rfl⟩, ?_⟩; refine ⟨⟨rfl, rfl⟩, ?_⟩; refine ⟨⟨rfl, rfl⟩, ?_⟩; exact trivial)) (fun q hq => by (have e : q.b = bp := (pvIn_all (b := bp) (l := p.cells A) (qs := [(⟨bp, 4, p.d.seq⟩ : PV), (⟨bp, 5, p.d.sender⟩ : PV), (⟨bp, 6, p.d.stamp⟩ : PV)]) (by refine ⟨⟨rfl, rfl⟩, ?_⟩; refine ⟨⟨rfl, rfl⟩, ?_⟩; refine ⟨⟨rfl, rfl⟩, ?_⟩; exact trivial) q hq).1); rw [e]; exact pk_apart h1 (.inl subZ)) (St.apart2 (x := .own bs (.cells _ 114 (0, 0))) h1 (.inl subZ) rfl bs rfl) (fun q hq => by simp only [List.mem_cons, List.not_mem_nil, or_false] at hq; rcases hq with rfl | rfl | rfl <;> first | exact hok.1 | exact hok.2.1 | exact hnum _ (by simp)) (by (try simp only [List.length_append]); omega) (by simp)).mono ?_; rintro v w2 ⟨_, _, rfl, st⟩; refine LR.back (St.did h1 selZ rfl st (wC_dep _ _ _ _ _)) ?_; clear st h1))))
      all_goals (refine At.stage_same (fun _ h => St.sub h subZ) ?_))
    all_goals (
      apply DW.loud 11
      · exact rfl
      · decide +kernel
      repeat'(first|(apply Go.Hb.kK;(iterate 4 exact rfl);intro bs)|refine kg' ?_|refine kG' ?_|apply kM|refine kv' ?_|refine kK' fun _=>?_|refine kU' ?_|refine kB' fun _=>?_|refine kA' fun _=>?_|(apply LR.call; (· exact rfl); (intro w1 h1; (refine (p87w bc bw _ _ (l ++ encs [p.kind] ++ encs [p.to] ++ encs [p.d.rseq, p.d.rrep]) bs [(⟨bp, 4, p.d.seq⟩ : PV), (⟨bp, 5, p.d.sender⟩ : PV), (⟨bp, 6, p.d.stamp⟩ : PV)] w1 (h1.holds (wC bc bw _ _ (l ++ encs [p.kind] ++ encs [p.to] ++ encs [p.d.rseq, p.d.rrep])) memZ) (h1.rd_of_blk memZ) (pvIn_of (h1.rd_of (a := some ⟨bp, 0, none⟩) (xs := p.cells A) memZ) (by refine ⟨⟨rfl, rfl⟩, ?_⟩; refine ⟨⟨rfl, rfl⟩, ?_⟩; refine ⟨⟨rfl, rfl⟩, ?_⟩; exact trivial)) (fun q hq => by (have e : q.b = bp := (pvIn_all (b := bp) (l := p.cells A) (qs := [(⟨bp, 4, p.d.seq⟩ : PV), (⟨bp, 5, p.d.sender⟩ : PV), (⟨bp, 6, p.d.stamp⟩ : PV)]) (by refine ⟨⟨rfl, rfl⟩, ?_⟩; refine ⟨⟨rfl, rfl⟩, ?_⟩; refine ⟨⟨rfl, rfl⟩, ?_⟩; exact trivial) q hq).1); rw [e]; exact pk_apart h1 (.inl subZ)) (St.apart2 (x := .own bs (.cells _ 114 (0, 0))) h1 (.inl subZ) rfl bs rfl) (fun q hq => by simp only [List.mem_cons, List.not_mem_nil, or_false] at hq; rcases hq with rfl | rfl | rfl <;> first | exact hok.1 | exact hok.2.1 | exact hnum _ (by simp)) (by (try simp only [List.length_append]); omega) (by simp)).mono ?_; rintro v w2 ⟨_, _, rfl, st⟩; refine LR.back (St.did h1 selZ rfl st (wC_dep _ _ _ _ _)) ?_; clear st h1))))
      all_goals (refine At.stage_same (fun _ h => St.sub h subZ) ?_))
    all_goals (first | (apply DW.done_thn; (· decide +kernel)) | (apply DW.done; (· decide +kernel)))
    repeat'(first|refine kv' ?_|apply jJ|refine jE' ?_|refine jp' ?_|(apply jc;kernel_rfl)|refine kg' ?_|refine kG' ?_|refine kB' fun _=>?_|refine kA' fun _=>?_|refine kK' fun _=>?_|refine kU' ?_|(apply LR.call; (· exact rfl); (intro w1 h1; first | (refine (p90w bc bw _ _ (l ++ encs [p.kind] ++ encs [p.to] ++ encs [p.d.rseq, p.d.rrep] ++ encs [p.d.seq, p.d.sender, p.d.stamp]) bp 7 A.da A.dc p.d.msg w1 (h1.holds (wC bc bw _ _ (l ++ encs [p.kind] ++ encs [p.to] ++ encs [p.d.rseq, p.d.rrep] ++ encs [p.d.seq, p.d.sender, p.d.stamp])) memZ) (atL_of (h1.rd_of (a := some ⟨bp, 0, none⟩) (xs := p.cells A) memZ) rfl) (h1.rd_of (a := A.da) (xs := bv p.d.msg.body) memZ) (pk_apart h1 (.inl subZ)) (rd_apart h1 (.inl subZ)) hzd hB (may_msg hm hk) (by (try simp only [List.length_append]); omega)).mono ?_; rintro v w2 ⟨_, _, rfl, st⟩; refine LR.back (St.did h1 selZ rfl st (wC_dep _ _ _ _ _)) ?_; clear st h1)))|((first|refine kR' ?_ ?_|refine kQ' ?_ ?_);all_goals(intro hc;try simp only[hcs]at hc;try(exfalso;first|contradiction|omega))))
    apply end0
    · exact rfl
    intro w' hS
    have e9 : l ++ bodyP p = l ++ encs [p.kind] ++ encs [p.to] ++ encs [p.d.rseq, p.d.rrep] ++ encs [p.d.seq, p.d.sender, p.d.stamp] ++ enc (bytesM p.d.msg).length ++ bytesM p.d.msg := by
      unfold bodyP tailP
      rw [en, if_pos hk]
      rw [show [p.kind, p.to] = [p.kind] ++ [p.to] from rfl, show [p.d.rseq, p.d.rrep, p.d.seq, p.d.sender, p.d.stamp] = [p.d.rseq, p.d.rrep] ++ [p.d.seq, p.d.sender, p.d.stamp] from rfl]
      simp only [encs_app, List.append_assoc, List.append_nil]
    subst hF
    rw [e9]
    exact ⟨_, _, rfl, (hS.sub (L' := [wC bc bw _ _ (l ++ encs [p.kind] ++ encs [p.to] ++ encs [p.d.rseq, p.d.rrep] ++ encs [p.d.seq, p.d.sender, p.d.stamp] ++ enc (bytesM p.d.msg).length ++ bytesM p.d.msg)]) subZ).step rfl⟩
  by_cases hk : p.kind = 2
  · have en : numsP p = [p.t.r1, p.t.r2, p.t.hop, p.t.seq, p.t.aru, p.t.low, p.t.stamp, p.t.idle] := by unfold numsP; rw [if_neg (by omega), if_pos hk]
    rw [en] at hnum
    have hl0 := encs_len [p.kind]
    have hl1 := encs_len [p.to]
    have hl2 := encs_len [p.t.r1, p.t.r2]
    have hl3 := encs_len [p.t.hop, p.t.seq, p.t.aru, p.t.low, p.t.stamp, p.t.idle]
    simp only [List.length_cons, List.length_nil] at hl0 hl1 hl2 hl3
    repeat'(first|(apply CW.reg_held (St w F [rdA (some ⟨bp, 0, none⟩) (p.cells A), rdA A.da (bv p.d.msg.body), rdA A.ta (p.t.ask.flatMap ivF), rdA A.ca (p.c.ents.flatMap Ent.cells)]))|(apply Go.Hb.kK;(iterate 4 exact rfl);intro bs)|refine kv' ?_|apply jJ|refine jE' ?_|refine jp' ?_|(apply jc;kernel_rfl)|refine kg' ?_|refine kG' ?_|refine kB' fun _=>?_|refine kA' fun _=>?_|refine kK' fun _=>?_|refine kU' ?_|(apply kq; (· exact rfl); (· intro w1 h1; exact CallsTo.q (p88 p.kind 1 5 w1) h1))|(apply LR.ev; (· apply Ev.load (v := .int .i64 0); (· exact rfl); (· exact fun w' hw' => wC_e (hw'.holds (wC bc bw _ _ _) memZ))); (· exact rfl))|(apply LR.ev; (· apply Ev.load (v := .int .i64 p.kind); (· exact rfl); (· exact fun w' hw' => (hw'.rd_of (a := some ⟨bp, 0, none⟩) (xs := p.cells A) memZ).cell (j := 0) rfl)); (· exact rfl))|(apply LR.call; (· exact rfl); (intro w1 h1; first | (refine (p87w bc bw _ _ (l) bs [(⟨bp, 0, p.kind⟩ : PV)] w1 (h1.holds (wC bc bw _ _ (l)) memZ) (h1.rd_of_blk memZ) (pvIn_of (h1.rd_of (a := some ⟨bp, 0, none⟩) (xs := p.cells A) memZ) (by refine ⟨⟨rfl, rfl⟩, ?_⟩; exact trivial)) (fun q hq => by (have e : q.b = bp := (pvIn_all (b := bp) (l := p.cells A) (qs := [(⟨bp, 0, p.kind⟩ : PV)]) (by refine ⟨⟨rfl, rfl⟩, ?_⟩; exact trivial) q hq).1); rw [e]; exact pk_apart h1 (.inl subZ)) (St.apart2 (x := .own bs (.cells _ 114 (0, 0))) h1 (.inl subZ) rfl bs rfl) (fun q hq => by simp only [List.mem_cons, List.not_mem_nil, or_false] at hq; rcases hq with rfl <;> first | exact hok.1 | exact hok.2.1 | exact hnum _ (by simp)) (by (try simp only [List.length_append]); omega) (by simp)).mono ?_; rintro v w2 ⟨_, _, rfl, st⟩; refine LR.back (St.did h1 selZ rfl st (wC_dep _ _ _ _ _)) ?_; clear st h1) | (refine (p87w bc bw _ _ (l ++ encs [p.kind]) bs [(⟨bp, 1, p.to⟩ : PV)] w1 (h1.holds (wC bc bw _ _ (l ++ encs [p.kind])) memZ) (h1.rd_of_blk memZ) (pvIn_of (h1.rd_of (a := some ⟨bp, 0, none⟩) (xs := p.cells A) memZ) (by refine ⟨⟨rfl, rfl⟩, ?_⟩; exact trivial)) (fun q hq => by (have e : q.b = bp := (pvIn_all (b := bp) (l := p.cells A) (qs := [(⟨bp, 1, p.to⟩ : PV)]) (by refine ⟨⟨rfl, rfl⟩, ?_⟩; exact trivial) q hq).1); rw [e]; exact pk_apart h1 (.inl subZ)) (St.apart2 (x := .own bs (.cells _ 114 (0, 0))) h1 (.inl subZ) rfl bs rfl) (fun q hq => by simp only [List.mem_cons, List.not_mem_nil, or_false] at hq; rcases hq with rfl <;> first | exact hok.1 | exact hok.2.1 | exact hnum _ (by simp)) (by (try simp only [List.length_append]); omega) (by simp)).mono ?_; rintro v w2 ⟨_, _, rfl, st⟩; refine LR.back (St.did h1 selZ rfl st (wC_dep _ _ _ _ _)) ?_; clear st h1) | (refine (p89w bc bw _ _ (l ++ encs [p.kind] ++ encs [p.to]) bp 20 p.t.r1 p.t.r2 w1 (h1.holds (wC bc bw _ _ (l ++ encs [p.kind] ++ encs [p.to])) memZ) (pvIn_of (h1.rd_of (a := some ⟨bp, 0, none⟩) (xs := p.cells A) memZ) (by refine ⟨⟨rfl, rfl⟩, ?_⟩; refine ⟨⟨rfl, rfl⟩, ?_⟩; exact trivial)) (fun q hq => by simp only [List.mem_cons, List.not_mem_nil, or_false] at hq; rcases hq with rfl | rfl <;> exact pk_apart h1 (.inl subZ)) (hnum _ (by simp)) (hnum _ (by simp)) (by (try simp only [List.length_append]); omega)).mono ?_; rintro v w2 ⟨_, _, rfl, st⟩; refine LR.back (St.did h1 selZ rfl st (wC_dep _ _ _ _ _)) ?_; clear st h1)))|((first|refine kR' ?_ ?_|refine kQ' ?_ ?_);all_goals(intro hc;try simp only[hcs]at hc;try(exfalso;first|contradiction|omega))))
    all_goals (
      apply DW.quiet [0, 1, 2, 3, 4, 5, 6, 7, 8, 9, 10, 11, 12, 13, 14, 15, 16, 17, 18]
      · decide +kernel
      · first | exact fun _ h => h | exact fun _ h => St.sub h subZ
      repeat'(first|refine yv' ?_|refine uv' ?_|refine un' ?_|(refine us' ?_ ?_;all_goals(intro hc;try simp only[hcs]at hc;try(exfalso;first|contradiction|omega)))|apply QL.nil)
      all_goals (show DW _ _ _ _ _ _ _ _))
    all_goals (
      apply DW.loud 19
      · exact rfl
      · decide +kernel
      repeat'(first|(apply Go.Hb.kK;(iterate 4 exact rfl);intro bs)|refine kg' ?_|refine kG' ?_|apply kM|refine kv' ?_|refine kK' fun _=>?_|refine kU' ?_|refine kB' fun _=>?_|refine kA' fun _=>?_|(apply LR.call; (· exact rfl); (intro w1 h1; (refine (p87w bc bw _ _ (l ++ encs [p.kind] ++ encs [p.to] ++ encs [p.t.r1, p.t.r2]) bs [(⟨bp, 22, p.t.hop⟩ : PV), (⟨bp, 23, p.t.seq⟩ : PV), (⟨bp, 24, p.t.aru⟩ : PV), (⟨bp, 25, p.t.low⟩ : PV), (⟨bp, 26, p.t.stamp⟩ : PV), (⟨bp, 27, p.t.idle⟩ : PV)] w1 (h1.holds (wC bc bw _ _ (l ++ encs [p.kind] ++ encs [p.to] ++ encs [p.t.r1, p.t.r2])) memZ) (h1.rd_of_blk memZ) (pvIn_of (h1.rd_of (a := some ⟨bp, 0, none⟩) (xs := p.cells A) memZ) (by refine ⟨⟨rfl, rfl⟩, ?_⟩; refine ⟨⟨rfl, rfl⟩, ?_⟩; refine ⟨⟨rfl, rfl⟩, ?_⟩; refine ⟨⟨rfl, rfl⟩, ?_⟩; refine ⟨⟨rfl, rfl⟩, ?_⟩; refine ⟨⟨rfl, rfl⟩, ?_⟩; exact trivial)) (fun q hq => by (have e : q.b = bp := (pvIn_all (b := bp) (l := p.cells A) (qs := [(⟨bp, 22, p.t.hop⟩ : PV), (⟨bp, 23, p.t.seq⟩ : PV), (⟨bp, 24, p.t.aru⟩ : PV), (⟨bp, 25, p.t.low⟩ : PV), (⟨bp, 26, p.t.stamp⟩ : PV), (⟨bp, 27, p.t.idle⟩ : PV)]) (by refine ⟨⟨rfl, rfl⟩, ?_⟩; refine ⟨⟨rfl, rfl⟩, ?_⟩; refine ⟨⟨rfl, rfl⟩, ?_⟩; refine ⟨⟨rfl, rfl⟩, ?_⟩; refine ⟨⟨rfl, rfl⟩, ?_⟩; refine ⟨⟨rfl, rfl⟩, ?_⟩; exact trivial) q hq).1); rw [e]; exact pk_apart h1 (.inl subZ)) (St.apart2 (x := .own bs (.cells _ 114 (0, 0))) h1 (.inl subZ) rfl bs rfl) (fun q hq => by simp only [List.mem_cons, List.not_mem_nil, or_false] at hq; rcases hq with rfl | rfl | rfl | rfl | rfl | rfl <;> first | exact hok.1 | exact hok.2.1 | exact hnum _ (by simp)) (by (try simp only [List.length_append]); omega) (by simp)).mono ?_; rintro v w2 ⟨_, _, rfl, st⟩; refine LR.back (St.did h1 selZ rfl st (wC_dep _ _ _ _ _)) ?_; clear st h1))))
      all_goals (refine At.stage_same (fun _ h => St.sub h subZ) ?_))
    all_goals (
      apply DW.loud 20
      · exact rfl
      · decide +kernel
      repeat'(first|(apply Go.Hb.kK;(iterate 4 exact rfl);intro bs)|refine kg' ?_|refine kG' ?_|apply kM|refine kv' ?_|refine kK' fun _=>?_|refine kU' ?_|refine kB' fun _=>?_|refine kA' fun _=>?_|(apply LR.call; (· exact rfl); (intro w1 h1; (refine (p87w bc bw _ _ (l ++ encs [p.kind] ++ encs [p.to] ++ encs [p.t.r1, p.t.r2]) bs [(⟨bp, 22, p.t.hop⟩ : PV), (⟨bp, 23, p.t.seq⟩ : PV), (⟨bp, 24, p.t.aru⟩ : PV), (⟨bp, 25, p.t.low⟩ : PV), (⟨bp, 26, p.t.stamp⟩ : PV), (⟨bp, 27, p.t.idle⟩ : PV)] w1 (h1.holds (wC bc bw _ _ (l ++ encs [p.kind] ++ encs [p.to] ++ encs [p.t.r1, p.t.r2])) memZ) (h1.rd_of_blk memZ) (pvIn_of (h1.rd_of (a := some ⟨bp, 0, none⟩) (xs := p.cells A) memZ) (by refine ⟨⟨rfl, rfl⟩, ?_⟩; refine ⟨⟨rfl, rfl⟩, ?_⟩; refine ⟨⟨rfl, rfl⟩, ?_⟩; refine ⟨⟨rfl, rfl⟩, ?_⟩; refine ⟨⟨rfl, rfl⟩, ?_⟩; refine ⟨⟨rfl, rfl⟩, ?_⟩; exact trivial)) (fun q hq => by (have e : q.b = bp := (pvIn_all (b := bp) (l := p.cells A) (qs := [(⟨bp, 22, p.t.hop⟩ : PV), (⟨bp, 23, p.t.seq⟩ : PV), (⟨bp, 24, p.t.aru⟩ : PV), (⟨bp, 25, p.t.low⟩ : PV), (⟨bp, 26, p.t.stamp⟩ : PV), (⟨bp, 27, p.t.idle⟩ : PV)]) (by refine ⟨⟨rfl, rfl⟩, ?_⟩; refine ⟨⟨rfl, rfl⟩, ?_⟩; refine ⟨⟨rfl, rfl⟩, ?_⟩; refine ⟨⟨rfl, rfl⟩, ?_⟩; refine ⟨⟨rfl, rfl⟩, ?_⟩; refine ⟨⟨rfl, rfl⟩, ?_⟩; exact trivial) q hq).1); rw [e]; exact pk_apart h1 (.inl subZ)) (St.apart2 (x := .own bs (.cells _ 114 (0, 0))) h1 (.inl subZ) rfl bs rfl) (fun q hq => by simp only [List.mem_cons, List.not_mem_nil, or_false] at hq; rcases hq with rfl | rfl | rfl | rfl | rfl | rfl <;> first | exact hok.1 | exact hok.2.1 | exact hnum _ (by simp)) (by (try simp only [List.length_append]); omega) (by simp)).mono ?_; rintro v w2 ⟨_, _, rfl, st⟩; refine LR.back (St.did h1 selZ rfl st (wC_dep _ _ _ _ _)) ?_; clear st h1))))
      all_goals (refine At.stage_same (fun _ h => St.sub h subZ) ?_))
    all_goals (first | (apply DW.done_thn; (· decide +kernel)) | (apply DW.done; (· decide +kernel)))
    repeat'(first|refine kv' ?_|apply jJ|refine jE' ?_|refine jp' ?_|(apply jc;kernel_rfl)|refine kg' ?_|refine kG' ?_|refine kB' fun _=>?_|refine kA' fun _=>?_|refine kK' fun _=>?_|refine kU' ?_|(apply LR.call; (· exact rfl); (intro w1 h1; first | (refine (p91w bc bw _ _ (l ++ encs [p.kind] ++ encs [p.to] ++ encs [p.t.r1, p.t.r2] ++ encs [p.t.hop, p.t.seq, p.t.aru, p.t.low, p.t.stamp, p.t.idle]) bp 28 A.ta A.tc p.t.ask 16 w1 (h1.holds (wC bc bw _ _ (l ++ encs [p.kind] ++ encs [p.to] ++ encs [p.t.r1, p.t.r2] ++ encs [p.t.hop, p.t.seq, p.t.aru, p.t.low, p.t.stamp, p.t.idle])) memZ) (atL_of (h1.rd_of (a := some ⟨bp, 0, none⟩) (xs := p.cells A) memZ) rfl) (h1.rd_of (a := A.ta) (xs := p.t.ask.flatMap ivF) memZ) (pk_apart h1 (.inl subZ)) (rd_apart h1 (.inl subZ)) (may_ask hm hk).2 (by (try simp only [List.length_append]); omega) (by have := (may_ask hm hk).1; omega) (by omega)).mono ?_; rintro v w2 ⟨_, _, rfl, st⟩; refine LR.back (St.did h1 selZ rfl st (wC_dep _ _ _ _ _)) ?_; clear st h1)))|((first|refine kR' ?_ ?_|refine kQ' ?_ ?_);all_goals(intro hc;try simp only[hcs]at hc;try(exfalso;first|contradiction|omega))))
    apply end0
    · exact rfl
    intro w' hS
    have e9 : l ++ bodyP p = l ++ encs [p.kind] ++ encs [p.to] ++ encs [p.t.r1, p.t.r2] ++ encs [p.t.hop, p.t.seq, p.t.aru, p.t.low, p.t.stamp, p.t.idle] ++ enc p.t.ask.length ++ encs (p.t.ask.flatMap one1) := by
      unfold bodyP tailP
      rw [en, if_neg (by omega), if_pos hk]
      rw [one1_flat]
      rw [show [p.kind, p.to] = [p.kind] ++ [p.to] from rfl, show [p.t.r1, p.t.r2, p.t.hop, p.t.seq, p.t.aru, p.t.low, p.t.stamp, p.t.idle] = [p.t.r1, p.t.r2] ++ [p.t.hop, p.t.seq, p.t.aru, p.t.low, p.t.stamp, p.t.idle] from rfl]
      simp only [encs_app, List.append_assoc, List.append_nil]
    subst hF
    rw [e9]
    exact ⟨_, _, rfl, (hS.sub (L' := [wC bc bw _ _ (l ++ encs [p.kind] ++ encs [p.to] ++ encs [p.t.r1, p.t.r2] ++ encs [p.t.hop, p.t.seq, p.t.aru, p.t.low, p.t.stamp, p.t.idle] ++ enc p.t.ask.length ++ encs (p.t.ask.flatMap one1))]) subZ).step rfl⟩
  by_cases hk : p.kind = 3
  · have en : numsP p = [p.j1, p.j2, p.j3] := by unfold numsP; rw [if_neg (by omega), if_neg (by omega), if_pos hk]
    rw [en] at hnum
    have hl0 := encs_len [p.kind]
    have hl1 := encs_len [p.to]
    have hl2 := encs_len [p.j1, p.j2, p.j3]
    simp only [List.length_cons, List.length_nil] at hl0 hl1 hl2
    repeat'(first|(apply CW.reg_held (St w F [rdA (some ⟨bp, 0, none⟩) (p.cells A), rdA A.da (bv p.d.msg.body), rdA A.ta (p.t.ask.flatMap ivF), rdA A.ca (p.c.ents.flatMap Ent.cells)]))|(apply Go.Hb.kK;(iterate 4 exact rfl);intro bs)|refine kv' ?_|apply jJ|refine jE' ?_|refine jp' ?_|(apply jc;kernel_rfl)|refine kg' ?_|refine kG' ?_|refine kB' fun _=>?_|refine kA' fun _=>?_|refine kK' fun _=>?_|refine kU' ?_|(apply kq; (· exact rfl); (· intro w1 h1; exact CallsTo.q (p88 p.kind 1 5 w1) h1))|(apply LR.ev; (· apply Ev.load (v := .int .i64 0); (· exact rfl); (· exact fun w' hw' => wC_e (hw'.holds (wC bc bw _ _ _) memZ))); (· exact rfl))|(apply LR.ev; (· apply Ev.load (v := .int .i64 p.kind); (· exact rfl); (· exact fun w' hw' => (hw'.rd_of (a := some ⟨bp, 0, none⟩) (xs := p.cells A) memZ).cell (j := 0) rfl)); (· exact rfl))|(apply LR.call; (· exact rfl); (intro w1 h1; first | (refine (p87w bc bw _ _ (l) bs [(⟨bp, 0, p.kind⟩ : PV)] w1 (h1.holds (wC bc bw _ _ (l)) memZ) (h1.rd_of_blk memZ) (pvIn_of (h1.rd_of (a := some ⟨bp, 0, none⟩) (xs := p.cells A) memZ) (by refine ⟨⟨rfl, rfl⟩, ?_⟩; exact trivial)) (fun q hq => by (have e : q.b = bp := (pvIn_all (b := bp) (l := p.cells A) (qs := [(⟨bp, 0, p.kind⟩ : PV)]) (by refine ⟨⟨rfl, rfl⟩, ?_⟩; exact trivial) q hq).1); rw [e]; exact pk_apart h1 (.inl subZ)) (St.apart2 (x := .own bs (.cells _ 114 (0, 0))) h1 (.inl subZ) rfl bs rfl) (fun q hq => by simp only [List.mem_cons, List.not_mem_nil, or_false] at hq; rcases hq with rfl <;> first | exact hok.1 | exact hok.2.1 | exact hnum _ (by simp)) (by (try simp only [List.length_append]); omega) (by simp)).mono ?_; rintro v w2 ⟨_, _, rfl, st⟩; refine LR.back (St.did h1 selZ rfl st (wC_dep _ _ _ _ _)) ?_; clear st h1) | (refine (p87w bc bw _ _ (l ++ encs [p.kind]) bs [(⟨bp, 1, p.to⟩ : PV)] w1 (h1.holds (wC bc bw _ _ (l ++ encs [p.kind])) memZ) (h1.rd_of_blk memZ) (pvIn_of (h1.rd_of (a := some ⟨bp, 0, none⟩) (xs := p.cells A) memZ) (by refine ⟨⟨rfl, rfl⟩, ?_⟩; exact trivial)) (fun q hq => by (have e : q.b = bp := (pvIn_all (b := bp) (l := p.cells A) (qs := [(⟨bp, 1, p.to⟩ : PV)]) (by refine ⟨⟨rfl, rfl⟩, ?_⟩; exact trivial) q hq).1); rw [e]; exact pk_apart h1 (.inl subZ)) (St.apart2 (x := .own bs (.cells _ 114 (0, 0))) h1 (.inl subZ) rfl bs rfl) (fun q hq => by simp only [List.mem_cons, List.not_mem_nil, or_false] at hq; rcases hq with rfl <;> first | exact hok.1 | exact hok.2.1 | exact hnum _ (by simp)) (by (try simp only [List.length_append]); omega) (by simp)).mono ?_; rintro v w2 ⟨_, _, rfl, st⟩; refine LR.back (St.did h1 selZ rfl st (wC_dep _ _ _ _ _)) ?_; clear st h1)))|((first|refine kR' ?_ ?_|refine kQ' ?_ ?_);all_goals(intro hc;try simp only[hcs]at hc;try(exfalso;first|contradiction|omega))))
    all_goals (
      apply DW.quiet [0, 1, 2, 3, 4, 5, 6, 7, 8, 9, 10, 11, 12]
      · decide +kernel
      · first | exact fun _ h => h | exact fun _ h => St.sub h subZ
      repeat'(first|refine yv' ?_|refine uv' ?_|refine un' ?_|(refine us' ?_ ?_;all_goals(intro hc;try simp only[hcs]at hc;try(exfalso;first|contradiction|omega)))|apply QL.nil)
      all_goals (show DW _ _ _ _ _ _ _ _))
    all_goals (
      apply DW.loud 13
      · exact rfl
      · decide +kernel
      repeat'(first|(apply Go.Hb.kK;(iterate 4 exact rfl);intro bs)|refine kg' ?_|refine kG' ?_|apply kM|refine kv' ?_|refine kK' fun _=>?_|refine kU' ?_|refine kB' fun _=>?_|refine kA' fun _=>?_|(apply LR.call; (· exact rfl); (intro w1 h1; (refine (p87w bc bw _ _ (l ++ encs [p.kind] ++ encs [p.to]) bs [(⟨bp, 29, p.j1⟩ : PV), (⟨bp, 30, p.j2⟩ : PV), (⟨bp, 31, p.j3⟩ : PV)] w1 (h1.holds (wC bc bw _ _ (l ++ encs [p.kind] ++ encs [p.to])) memZ) (h1.rd_of_blk memZ) (pvIn_of (h1.rd_of (a := some ⟨bp, 0, none⟩) (xs := p.cells A) memZ) (by refine ⟨⟨rfl, rfl⟩, ?_⟩; refine ⟨⟨rfl, rfl⟩, ?_⟩; refine ⟨⟨rfl, rfl⟩, ?_⟩; exact trivial)) (fun q hq => by (have e : q.b = bp := (pvIn_all (b := bp) (l := p.cells A) (qs := [(⟨bp, 29, p.j1⟩ : PV), (⟨bp, 30, p.j2⟩ : PV), (⟨bp, 31, p.j3⟩ : PV)]) (by refine ⟨⟨rfl, rfl⟩, ?_⟩; refine ⟨⟨rfl, rfl⟩, ?_⟩; refine ⟨⟨rfl, rfl⟩, ?_⟩; exact trivial) q hq).1); rw [e]; exact pk_apart h1 (.inl subZ)) (St.apart2 (x := .own bs (.cells _ 114 (0, 0))) h1 (.inl subZ) rfl bs rfl) (fun q hq => by simp only [List.mem_cons, List.not_mem_nil, or_false] at hq; rcases hq with rfl | rfl | rfl <;> first | exact hok.1 | exact hok.2.1 | exact hnum _ (by simp)) (by (try simp only [List.length_append]); omega) (by simp)).mono ?_; rintro v w2 ⟨_, _, rfl, st⟩; refine LR.back (St.did h1 selZ rfl st (wC_dep _ _ _ _ _)) ?_; clear st h1))))
      all_goals (refine At.stage_same (fun _ h => St.sub h subZ) ?_))
    all_goals (
      apply DW.loud 14
      · exact rfl
      · decide +kernel
      repeat'(first|(apply Go.Hb.kK;(iterate 4 exact rfl);intro bs)|refine kg' ?_|refine kG' ?_|apply kM|refine kv' ?_|refine kK' fun _=>?_|refine kU' ?_|refine kB' fun _=>?_|refine kA' fun _=>?_|(apply LR.call; (· exact rfl); (intro w1 h1; (refine (p87w bc bw _ _ (l ++ encs [p.kind] ++ encs [p.to]) bs [(⟨bp, 29, p.j1⟩ : PV), (⟨bp, 30, p.j2⟩ : PV), (⟨bp, 31, p.j3⟩ : PV)] w1 (h1.holds (wC bc bw _ _ (l ++ encs [p.kind] ++ encs [p.to])) memZ) (h1.rd_of_blk memZ) (pvIn_of (h1.rd_of (a := some ⟨bp, 0, none⟩) (xs := p.cells A) memZ) (by refine ⟨⟨rfl, rfl⟩, ?_⟩; refine ⟨⟨rfl, rfl⟩, ?_⟩; refine ⟨⟨rfl, rfl⟩, ?_⟩; exact trivial)) (fun q hq => by (have e : q.b = bp := (pvIn_all (b := bp) (l := p.cells A) (qs := [(⟨bp, 29, p.j1⟩ : PV), (⟨bp, 30, p.j2⟩ : PV), (⟨bp, 31, p.j3⟩ : PV)]) (by refine ⟨⟨rfl, rfl⟩, ?_⟩; refine ⟨⟨rfl, rfl⟩, ?_⟩; refine ⟨⟨rfl, rfl⟩, ?_⟩; exact trivial) q hq).1); rw [e]; exact pk_apart h1 (.inl subZ)) (St.apart2 (x := .own bs (.cells _ 114 (0, 0))) h1 (.inl subZ) rfl bs rfl) (fun q hq => by simp only [List.mem_cons, List.not_mem_nil, or_false] at hq; rcases hq with rfl | rfl | rfl <;> first | exact hok.1 | exact hok.2.1 | exact hnum _ (by simp)) (by (try simp only [List.length_append]); omega) (by simp)).mono ?_; rintro v w2 ⟨_, _, rfl, st⟩; refine LR.back (St.did h1 selZ rfl st (wC_dep _ _ _ _ _)) ?_; clear st h1))))
      all_goals (refine At.stage_same (fun _ h => St.sub h subZ) ?_))
    all_goals (first | (apply DW.done_thn; (· decide +kernel)) | (apply DW.done; (· decide +kernel)))
    repeat'(first|refine kv' ?_|apply jJ|refine jE' ?_|refine jp' ?_|(apply jc;kernel_rfl)|refine kg' ?_|refine kG' ?_|refine kB' fun _=>?_|refine kA' fun _=>?_|refine kK' fun _=>?_|refine kU' ?_|((first|refine kR' ?_ ?_|refine kQ' ?_ ?_);all_goals(intro hc;try simp only[hcs]at hc;try(exfalso;first|contradiction|omega))))
    apply end0
    · exact rfl
    intro w' hS
    have e9 : l ++ bodyP p = l ++ encs [p.kind] ++ encs [p.to] ++ encs [p.j1, p.j2, p.j3] := by
      unfold bodyP tailP
      rw [en, if_neg (by omega), if_neg (by omega), if_neg (by omega)]
      rw [show [p.kind, p.to] = [p.kind] ++ [p.to] from rfl, show [p.j1, p.j2, p.j3] = [p.j1, p.j2, p.j3] from rfl]
      simp only [encs_app, List.append_assoc, List.append_nil]
    subst hF
    rw [e9]
    exact ⟨_, _, rfl, (hS.sub (L' := [wC bc bw _ _ (l ++ encs [p.kind] ++ encs [p.to] ++ encs [p.j1, p.j2, p.j3])]) subZ).step rfl⟩
  by_cases hk : p.kind = 4
  · have en : numsP p = [p.c.r1, p.c.r2, p.c.mem, p.c.hop] := by unfold numsP; rw [if_neg (by omega), if_neg (by omega), if_neg (by omega), if_pos hk]
    rw [en] at hnum
    have hl0 := encs_len [p.kind]
    have hl1 := encs_len [p.to]
    have hl2 := encs_len [p.c.r1, p.c.r2]
    have hl3 := encs_len [p.c.mem, p.c.hop]
    simp only [List.length_cons, List.length_nil] at hl0 hl1 hl2 hl3
    repeat'(first|(apply CW.reg_held (St w F [rdA (some ⟨bp, 0, none⟩) (p.cells A), rdA A.da (bv p.d.msg.body), rdA A.ta (p.t.ask.flatMap ivF), rdA A.ca (p.c.ents.flatMap Ent.cells)]))|(apply Go.Hb.kK;(iterate 4 exact rfl);intro bs)|refine kv' ?_|apply jJ|refine jE' ?_|refine jp' ?_|(apply jc;kernel_rfl)|refine kg' ?_|refine kG' ?_|refine kB' fun _=>?_|refine kA' fun _=>?_|refine kK' fun _=>?_|refine kU' ?_|(apply kq; (· exact rfl); (· intro w1 h1; exact CallsTo.q (p88 p.kind 1 5 w1) h1))|(apply LR.ev; (· apply Ev.load (v := .int .i64 0); (· exact rfl); (· exact fun w' hw' => wC_e (hw'.holds (wC bc bw _ _ _) memZ))); (· exact rfl))|(apply LR.ev; (· apply Ev.load (v := .int .i64 p.kind); (· exact rfl); (· exact fun w' hw' => (hw'.rd_of (a := some ⟨bp, 0, none⟩) (xs := p.cells A) memZ).cell (j := 0) rfl)); (· exact rfl))|(apply LR.call; (· exact rfl); (intro w1 h1; first | (refine (p87w bc bw _ _ (l) bs [(⟨bp, 0, p.kind⟩ : PV)] w1 (h1.holds (wC bc bw _ _ (l)) memZ) (h1.rd_of_blk memZ) (pvIn_of (h1.rd_of (a := some ⟨bp, 0, none⟩) (xs := p.cells A) memZ) (by refine ⟨⟨rfl, rfl⟩, ?_⟩; exact trivial)) (fun q hq => by (have e : q.b = bp := (pvIn_all (b := bp) (l := p.cells A) (qs := [(⟨bp, 0, p.kind⟩ : PV)]) (by refine ⟨⟨rfl, rfl⟩, ?_⟩; exact trivial) q hq).1); rw [e]; exact pk_apart h1 (.inl subZ)) (St.apart2 (x := .own bs (.cells _ 114 (0, 0))) h1 (.inl subZ) rfl bs rfl) (fun q hq => by simp only [List.mem_cons, List.not_mem_nil, or_false] at hq; rcases hq with rfl <;> first | exact hok.1 | exact hok.2.1 | exact hnum _ (by simp)) (by (try simp only [List.length_append]); omega) (by simp)).mono ?_; rintro v w2 ⟨_, _, rfl, st⟩; refine LR.back (St.did h1 selZ rfl st (wC_dep _ _ _ _ _)) ?_; clear st h1) | (refine (p87w bc bw _ _ (l ++ encs [p.kind]) bs [(⟨bp, 1, p.to⟩ : PV)] w1 (h1.holds (wC bc bw _ _ (l ++ encs [p.kind])) memZ) (h1.rd_of_blk memZ) (pvIn_of (h1.rd_of (a := some ⟨bp, 0, none⟩) (xs := p.cells A) memZ) (by refine ⟨⟨rfl, rfl⟩, ?_⟩; exact trivial)) (fun q hq => by (have e : q.b = bp := (pvIn_all (b := bp) (l := p.cells A) (qs := [(⟨bp, 1, p.to⟩ : PV)]) (by refine ⟨⟨rfl, rfl⟩, ?_⟩; exact trivial) q hq).1); rw [e]; exact pk_apart h1 (.inl subZ)) (St.apart2 (x := .own bs (.cells _ 114 (0, 0))) h1 (.inl subZ) rfl bs rfl) (fun q hq => by simp only [List.mem_cons, List.not_mem_nil, or_false] at hq; rcases hq with rfl <;> first | exact hok.1 | exact hok.2.1 | exact hnum _ (by simp)) (by (try simp only [List.length_append]); omega) (by simp)).mono ?_; rintro v w2 ⟨_, _, rfl, st⟩; refine LR.back (St.did h1 selZ rfl st (wC_dep _ _ _ _ _)) ?_; clear st h1) | (refine (p89w bc bw _ _ (l ++ encs [p.kind] ++ encs [p.to]) bp 32 p.c.r1 p.c.r2 w1 (h1.holds (wC bc bw _ _ (l ++ encs [p.kind] ++ encs [p.to])) memZ) (pvIn_of (h1.rd_of (a := some ⟨bp, 0, none⟩) (xs := p.cells A) memZ) (by refine ⟨⟨rfl, rfl⟩, ?_⟩; refine ⟨⟨rfl, rfl⟩, ?_⟩; exact trivial)) (fun q hq => by simp only [List.mem_cons, List.not_mem_nil, or_false] at hq; rcases hq with rfl | rfl <;> exact pk_apart h1 (.inl subZ)) (hnum _ (by simp)) (hnum _ (by simp)) (by (try simp only [List.length_append]); omega)).mono ?_; rintro v w2 ⟨_, _, rfl, st⟩; refine LR.back (St.did h1 selZ rfl st (wC_dep _ _ _ _ _)) ?_; clear st h1)))|((first|refine kR' ?_ ?_|refine kQ' ?_ ?_);all_goals(intro hc;try simp only[hcs]at hc;try(exfalso;first|contradiction|omega))))
    all_goals (
      apply DW.quiet [0, 1, 2, 3, 4, 5, 6]
      · decide +kernel
      · first | exact fun _ h => h | exact fun _ h => St.sub h subZ
      repeat'(first|refine yv' ?_|refine uv' ?_|refine un' ?_|(refine us' ?_ ?_;all_goals(intro hc;try simp only[hcs]at hc;try(exfalso;first|contradiction|omega)))|apply QL.nil)
      all_goals (show DW _ _ _ _ _ _ _ _))
    all_goals (
      apply DW.loud 7
      · exact rfl
      · decide +kernel
      repeat'(first|(apply Go.Hb.kK;(iterate 4 exact rfl);intro bs)|refine kg' ?_|refine kG' ?_|apply kM|refine kv' ?_|refine kK' fun _=>?_|refine kU' ?_|refine kB' fun _=>?_|refine kA' fun _=>?_|(apply LR.call; (· exact rfl); (intro w1 h1; (refine (p87w bc bw _ _ (l ++ encs [p.kind] ++ encs [p.to] ++ encs [p.c.r1, p.c.r2]) bs [(⟨bp, 34, p.c.mem⟩ : PV), (⟨bp, 35, p.c.hop⟩ : PV)] w1 (h1.holds (wC bc bw _ _ (l ++ encs [p.kind] ++ encs [p.to] ++ encs [p.c.r1, p.c.r2])) memZ) (h1.rd_of_blk memZ) (pvIn_of (h1.rd_of (a := some ⟨bp, 0, none⟩) (xs := p.cells A) memZ) (by refine ⟨⟨rfl, rfl⟩, ?_⟩; refine ⟨⟨rfl, rfl⟩, ?_⟩; exact trivial)) (fun q hq => by (have e : q.b = bp := (pvIn_all (b := bp) (l := p.cells A) (qs := [(⟨bp, 34, p.c.mem⟩ : PV), (⟨bp, 35, p.c.hop⟩ : PV)]) (by refine ⟨⟨rfl, rfl⟩, ?_⟩; refine ⟨⟨rfl, rfl⟩, ?_⟩; exact trivial) q hq).1); rw [e]; exact pk_apart h1 (.inl subZ)) (St.apart2 (x := .own bs (.cells _ 114 (0, 0))) h1 (.inl subZ) rfl bs rfl) (fun q hq => by simp only [List.mem_cons, List.not_mem_nil, or_false] at hq; rcases hq with rfl | rfl <;> first | exact hok.1 | exact hok.2.1 | exact hnum _ (by simp)) (by (try simp only [List.length_append]); omega) (by simp)).mono ?_; rintro v w2 ⟨_, _, rfl, st⟩; refine LR.back (St.did h1 selZ rfl st (wC_dep _ _ _ _ _)) ?_; clear st h1))))
      all_goals (refine At.stage_same (fun _ h => St.sub h subZ) ?_))
    all_goals (
      apply DW.loud 8
      · exact rfl
      · decide +kernel
      repeat'(first|(apply Go.Hb.kK;(iterate 4 exact rfl);intro bs)|refine kg' ?_|refine kG' ?_|apply kM|refine kv' ?_|refine kK' fun _=>?_|refine kU' ?_|refine kB' fun _=>?_|refine kA' fun _=>?_|(apply LR.call; (· exact rfl); (intro w1 h1; (refine (p87w bc bw _ _ (l ++ encs [p.kind] ++ encs [p.to] ++ encs [p.c.r1, p.c.r2]) bs [(⟨bp, 34, p.c.mem⟩ : PV), (⟨bp, 35, p.c.hop⟩ : PV)] w1 (h1.holds (wC bc bw _ _ (l ++ encs [p.kind] ++ encs [p.to] ++ encs [p.c.r1, p.c.r2])) memZ) (h1.rd_of_blk memZ) (pvIn_of (h1.rd_of (a := some ⟨bp, 0, none⟩) (xs := p.cells A) memZ) (by refine ⟨⟨rfl, rfl⟩, ?_⟩; refine ⟨⟨rfl, rfl⟩, ?_⟩; exact trivial)) (fun q hq => by (have e : q.b = bp := (pvIn_all (b := bp) (l := p.cells A) (qs := [(⟨bp, 34, p.c.mem⟩ : PV), (⟨bp, 35, p.c.hop⟩ : PV)]) (by refine ⟨⟨rfl, rfl⟩, ?_⟩; refine ⟨⟨rfl, rfl⟩, ?_⟩; exact trivial) q hq).1); rw [e]; exact pk_apart h1 (.inl subZ)) (St.apart2 (x := .own bs (.cells _ 114 (0, 0))) h1 (.inl subZ) rfl bs rfl) (fun q hq => by simp only [List.mem_cons, List.not_mem_nil, or_false] at hq; rcases hq with rfl | rfl <;> first | exact hok.1 | exact hok.2.1 | exact hnum _ (by simp)) (by (try simp only [List.length_append]); omega) (by simp)).mono ?_; rintro v w2 ⟨_, _, rfl, st⟩; refine LR.back (St.did h1 selZ rfl st (wC_dep _ _ _ _ _)) ?_; clear st h1))))
      all_goals (refine At.stage_same (fun _ h => St.sub h subZ) ?_))
    all_goals (first | (apply DW.done_thn; (· decide +kernel)) | (apply DW.done; (· decide +kernel)))
    repeat'(first|refine kv' ?_|apply jJ|refine jE' ?_|refine jp' ?_|(apply jc;kernel_rfl)|refine kg' ?_|refine kG' ?_|refine kB' fun _=>?_|refine kA' fun _=>?_|refine kK' fun _=>?_|refine kU' ?_|(apply LR.call; (· exact rfl); (intro w1 h1; first | (refine (p93w bc bw _ _ (l ++ encs [p.kind] ++ encs [p.to] ++ encs [p.c.r1, p.c.r2] ++ encs [p.c.mem, p.c.hop]) bp 36 A.ca A.cc p.c.ents 8 w1 (h1.holds (wC bc bw _ _ (l ++ encs [p.kind] ++ encs [p.to] ++ encs [p.c.r1, p.c.r2] ++ encs [p.c.mem, p.c.hop])) memZ) (atL_of (h1.rd_of (a := some ⟨bp, 0, none⟩) (xs := p.cells A) memZ) rfl) (h1.rd_of (a := A.ca) (xs := p.c.ents.flatMap Ent.cells) memZ) (pk_apart h1 (.inl subZ)) (rd_apart h1 (.inl subZ)) (may_ents hm hk).2 (by (try simp only [List.length_append]); omega) (by have := (may_ents hm hk).1; omega) (by omega)).mono ?_; rintro v w2 ⟨_, _, rfl, st⟩; refine LR.back (St.did h1 selZ rfl st (wC_dep _ _ _ _ _)) ?_; clear st h1)))|((first|refine kR' ?_ ?_|refine kQ' ?_ ?_);all_goals(intro hc;try simp only[hcs]at hc;try(exfalso;first|contradiction|omega))))
    apply end0
    · exact rfl
    intro w' hS
    have e9 : l ++ bodyP p = l ++ encs [p.kind] ++ encs [p.to] ++ encs [p.c.r1, p.c.r2] ++ encs [p.c.mem, p.c.hop] ++ enc p.c.ents.length ++ encs (p.c.ents.flatMap Ent.nums) := by
      unfold bodyP tailP
      rw [en, if_neg (by omega), if_neg (by omega), if_pos hk]
      rw [show [p.kind, p.to] = [p.kind] ++ [p.to] from rfl, show [p.c.r1, p.c.r2, p.c.mem, p.c.hop] = [p.c.r1, p.c.r2] ++ [p.c.mem, p.c.hop] from rfl]
      simp only [encs_app, List.append_assoc, List.append_nil]
    subst hF
    rw [e9]
    exact ⟨_, _, rfl, (hS.sub (L' := [wC bc bw _ _ (l ++ encs [p.kind] ++ encs [p.to] ++ encs [p.c.r1, p.c.r2] ++ encs [p.c.mem, p.c.hop] ++ enc p.c.ents.length ++ encs (p.c.ents.flatMap Ent.nums))]) subZ).step rfl⟩
  have hk : p.kind = 5 := by omega
  have en : numsP p = [p.b1, p.b2, p.b3] := by unfold numsP; rw [if_neg (by omega), if_neg (by omega), if_neg (by omega), if_neg (by omega)]
  rw [en] at hnum
  have hl0 := encs_len [p.kind]
  have hl1 := encs_len [p.to]
  have hl2 := encs_len [p.b1, p.b2]
  have hl3 := encs_len [p.b3]
  simp only [List.length_cons, List.length_nil] at hl0 hl1 hl2 hl3
  repeat'(first|(apply CW.reg_held (St w F [rdA (some ⟨bp, 0, none⟩) (p.cells A), rdA A.da (bv p.d.msg.body), rdA A.ta (p.t.ask.flatMap ivF), rdA A.ca (p.c.ents.flatMap Ent.cells)]))|(apply Go.Hb.kK;(iterate 4 exact rfl);intro bs)|refine kv' ?_|apply jJ|refine jE' ?_|refine jp' ?_|(apply jc;kernel_rfl)|refine kg' ?_|refine kG' ?_|refine kB' fun _=>?_|refine kA' fun _=>?_|refine kK' fun _=>?_|refine kU' ?_|(apply kq; (· exact rfl); (· intro w1 h1; exact CallsTo.q (p88 p.kind 1 5 w1) h1))|(apply LR.ev; (· apply Ev.load (v := .int .i64 0); (· exact rfl); (· exact fun w' hw' => wC_e (hw'.holds (wC bc bw _ _ _) memZ))); (· exact rfl))|(apply LR.ev; (· apply Ev.load (v := .int .i64 p.kind); (· exact rfl); (· exact fun w' hw' => (hw'.rd_of (a := some ⟨bp, 0, none⟩) (xs := p.cells A) memZ).cell (j := 0) rfl)); (· exact rfl))|(apply LR.call; (· exact rfl); (intro w1 h1; first | (refine (p87w bc bw _ _ (l) bs [(⟨bp, 0, p.kind⟩ : PV)] w1 (h1.holds (wC bc bw _ _ (l)) memZ) (h1.rd_of_blk memZ) (pvIn_of (h1.rd_of (a := some ⟨bp, 0, none⟩) (xs := p.cells A) memZ) (by refine ⟨⟨rfl, rfl⟩, ?_⟩; exact trivial)) (fun q hq => by (have e : q.b = bp := (pvIn_all (b := bp) (l := p.cells A) (qs := [(⟨bp, 0, p.kind⟩ : PV)]) (by refine ⟨⟨rfl, rfl⟩, ?_⟩; exact trivial) q hq).1); rw [e]; exact pk_apart h1 (.inl subZ)) (St.apart2 (x := .own bs (.cells _ 114 (0, 0))) h1 (.inl subZ) rfl bs rfl) (fun q hq => by simp only [List.mem_cons, List.not_mem_nil, or_false] at hq; rcases hq with rfl <;> first | exact hok.1 | exact hok.2.1 | exact hnum _ (by simp)) (by (try simp only [List.length_append]); omega) (by simp)).mono ?_; rintro v w2 ⟨_, _, rfl, st⟩; refine LR.back (St.did h1 selZ rfl st (wC_dep _ _ _ _ _)) ?_; clear st h1) | (refine (p87w bc bw _ _ (l ++ encs [p.kind]) bs [(⟨bp, 1, p.to⟩ : PV)] w1 (h1.holds (wC bc bw _ _ (l ++ encs [p.kind])) memZ) (h1.rd_of_blk memZ) (pvIn_of (h1.rd_of (a := some ⟨bp, 0, none⟩) (xs := p.cells A) memZ) (by refine ⟨⟨rfl, rfl⟩, ?_⟩; exact trivial)) (fun q hq => by (have e : q.b = bp := (pvIn_all (b := bp) (l := p.cells A) (qs := [(⟨bp, 1, p.to⟩ : PV)]) (by refine ⟨⟨rfl, rfl⟩, ?_⟩; exact trivial) q hq).1); rw [e]; exact pk_apart h1 (.inl subZ)) (St.apart2 (x := .own bs (.cells _ 114 (0, 0))) h1 (.inl subZ) rfl bs rfl) (fun q hq => by simp only [List.mem_cons, List.not_mem_nil, or_false] at hq; rcases hq with rfl <;> first | exact hok.1 | exact hok.2.1 | exact hnum _ (by simp)) (by (try simp only [List.length_append]); omega) (by simp)).mono ?_; rintro v w2 ⟨_, _, rfl, st⟩; refine LR.back (St.did h1 selZ rfl st (wC_dep _ _ _ _ _)) ?_; clear st h1) | (refine (p89w bc bw _ _ (l ++ encs [p.kind] ++ encs [p.to]) bp 37 p.b1 p.b2 w1 (h1.holds (wC bc bw _ _ (l ++ encs [p.kind] ++ encs [p.to])) memZ) (pvIn_of (h1.rd_of (a := some ⟨bp, 0, none⟩) (xs := p.cells A) memZ) (by refine ⟨⟨rfl, rfl⟩, ?_⟩; refine ⟨⟨rfl, rfl⟩, ?_⟩; exact trivial)) (fun q hq => by simp only [List.mem_cons, List.not_mem_nil, or_false] at hq; rcases hq with rfl | rfl <;> exact pk_apart h1 (.inl subZ)) (hnum _ (by simp)) (hnum _ (by simp)) (by (try simp only [List.length_append]); omega)).mono ?_; rintro v w2 ⟨_, _, rfl, st⟩; refine LR.back (St.did h1 selZ rfl st (wC_dep _ _ _ _ _)) ?_; clear st h1) | (refine (p87w bc bw _ _ (l ++ encs [p.kind] ++ encs [p.to] ++ encs [p.b1, p.b2]) bs [(⟨bp, 39, p.b3⟩ : PV)] w1 (h1.holds (wC bc bw _ _ (l ++ encs [p.kind] ++ encs [p.to] ++ encs [p.b1, p.b2])) memZ) (h1.rd_of_blk memZ) (pvIn_of (h1.rd_of (a := some ⟨bp, 0, none⟩) (xs := p.cells A) memZ) (by refine ⟨⟨rfl, rfl⟩, ?_⟩; exact trivial)) (fun q hq => by (have e : q.b = bp := (pvIn_all (b := bp) (l := p.cells A) (qs := [(⟨bp, 39, p.b3⟩ : PV)]) (by refine ⟨⟨rfl, rfl⟩, ?_⟩; exact trivial) q hq).1); rw [e]; exact pk_apart h1 (.inl subZ)) (St.apart2 (x := .own bs (.cells _ 114 (0, 0))) h1 (.inl subZ) rfl bs rfl) (fun q hq => by simp only [List.mem_cons, List.not_mem_nil, or_false] at hq; rcases hq with rfl <;> first | exact hok.1 | exact hok.2.1 | exact hnum _ (by simp)) (by (try simp only [List.length_append]); omega) (by simp)).mono ?_; rintro v w2 ⟨_, _, rfl, st⟩; refine LR.back (St.did h1 selZ rfl st (wC_dep _ _ _ _ _)) ?_; clear st h1)))|((first|refine kR' ?_ ?_|refine kQ' ?_ ?_);all_goals(intro hc;try simp only[hcs]at hc;try(exfalso;first|contradiction|omega))))
  apply end0
  · exact rfl
  intro w' hS
  have e9 : l ++ bodyP p = l ++ encs [p.kind] ++ encs [p.to] ++ encs [p.b1, p.b2] ++ encs [p.b3] := by
    unfold bodyP tailP
    rw [en, if_neg (by omega), if_neg (by omega), if_neg (by omega)]
    rw [show [p.kind, p.to] = [p.kind] ++ [p.to] from rfl, show [p.b1, p.b2, p.b3] = [p.b1, p.b2] ++ [p.b3] from rfl]
    simp only [encs_app, List.append_assoc, List.append_nil]
  subst hF
  rw [e9]
  exact ⟨_, _, rfl, (hS.sub (L' := [wC bc bw _ _ (l ++ encs [p.kind] ++ encs [p.to] ++ encs [p.b1, p.b2] ++ encs [p.b3])]) subZ).step rfl⟩
end Go.Proofs.YtkolmkdbjagfcaaGreat

namespace Go.Proofs.YtkolmkdbjagfcaaGreat
open Go.Hb
attribute [local irreducible] LR CW At Ev thn blk finK noG again CallsTo DW QL dnext TW DP
set_option maxRecDepth 100000

def packP (p : Pkt) : List Int × Int := if chkP p then (sealL (bodyP p), 0) else ([], 2)
theorem chk_may {p : Pkt} (h : chkP p = true) : mayP p = true ∧ shapeB p = wantK p.kind := by
  unfold chkP at h
  simpa using h
theorem may_kinds {p : Pkt} (h : mayP p = true) : p.kind = 1 ∨ p.kind = 2 ∨ p.kind = 3 ∨ p.kind = 4 ∨ p.kind = 5 := by
  have := (may_num h).2.2.1
  omega
theorem encsF_len {xs : List Ent} : (xs.flatMap Ent.nums).length = xs.length * 6 := rows_lenN ent_len xs
theorem nums_len (p : Pkt) : (numsP p).length ≤ 8 := by
  unfold numsP
  repeat' split
  all_goals simp
theorem body_len {p : Pkt} (h : mayP p = true) : (bodyP p).length ≤ 2000 := by
  unfold bodyP
  simp only [List.length_append]
  have h1 := encs_len [p.kind, p.to]
  have h2 := encs_len (numsP p)
  have h3 := nums_len p
  simp only [List.length_cons, List.length_nil] at h1
  have ht : (tailP p).length ≤ 1000 := by
    unfold tailP
    by_cases k1 : p.kind = 1
    · rw [if_pos k1, List.length_append]
      have h4 := bytesM_len p.d.msg
      have h5 := (check_ok (may_msg h k1)).1
      have h6 : (enc (bytesM p.d.msg).length).length ≤ 9 := encF_len 8 _
      omega
    rw [if_neg k1]
    by_cases k2 : p.kind = 2
    · rw [if_pos k2, List.length_append]
      have h4 := (may_ask h k2).1
      have h5 := encs_len p.t.ask
      have h6 : (enc p.t.ask.length).length ≤ 9 := encF_len 8 _
      omega
    rw [if_neg k2]
    by_cases k4 : p.kind = 4
    · rw [if_pos k4, List.length_append]
      have h4 := (may_ents h k4).1
      have h5 := encs_len (p.c.ents.flatMap Ent.nums)
      rw [encsF_len] at h5
      have h6 : (enc p.c.ents.length).length ≤ 9 := encF_len 8 _
      omega
    rw [if_neg k4]
    simp
  omega
theorem body_byt {p : Pkt} (h : mayP p = true) (hB : Byt p.d.msg.body) : Byt (bodyP p) := by
  obtain ⟨h1, h2, h3, h4⟩ := may_num h
  unfold bodyP
  refine Byt.append (Byt.append (encs_byt fun x hx => ?_) (encs_byt h4)) ?_
  · simp only [List.mem_cons, List.not_mem_nil, or_false] at hx
    rcases hx with rfl | rfl
    · exact h1
    · exact h2
  unfold tailP
  by_cases k1 : p.kind = 1
  · rw [if_pos k1]
    have h6 := may_msg h k1
    have h4 := bytesM_len p.d.msg
    have h5 := (check_ok h6).1
    exact Byt.append (enc_byt (by omega)) (hB.bytes h6)
  rw [if_neg k1]
  by_cases k2 : p.kind = 2
  · rw [if_pos k2]
    have h6 := may_ask h k2
    exact Byt.append (enc_byt (by omega)) (encs_byt h6.2)
  rw [if_neg k2]
  by_cases k4 : p.kind = 4
  · rw [if_pos k4]
    have h6 := may_ents h k4
    refine Byt.append (enc_byt (by omega)) (encs_byt fun x hx => ?_)
    obtain ⟨e, he, hx⟩ := List.mem_flatMap.1 hx
    exact h6.2 e he x hx
  rw [if_neg k4]
  intro x hx
  simp at hx
theorem pk_start {w w1 : World} {L : List Asrt} {bc bw : Nat} {a : Option Addr} {c : Nat} {l : List Int} {bp : Nat} {A : PAd} {p : Pkt} (h : St w NoF L w1) (hm : wC bc bw a c l ∈ L) (hp : Rd w1 (some ⟨bp, 0, none⟩) (p.cells A)) (hb : ¬ (wC bc bw a c l).foot bp) (hR : PktR w p A) :
    St w1 (wC bc bw a c l).foot [wC bc bw a c l, rdA (some ⟨bp, 0, none⟩) (p.cells A), rdA A.da (bv p.d.msg.body), rdA A.ta (p.t.ask.flatMap ivF), rdA A.ca (p.c.ents.flatMap Ent.cells)] w1 := by
  have hR1 := hR.old h
  have ht := hR1.ht
  have ht0 := hR.ht
  rw [iv_flat] at ht ht0
  have h0 := St.one (h.holds _ hm) (both_live (h.holds _ hm)) (wC_dep _ _ _ _ _)
  have h1 := h0.addRd hR1.hc (fun k hk => h.oldApart hm rfl hR.hc k hk)
  have h2 := h1.addRd ht (fun k hk => h.oldApart hm rfl ht0 k hk)
  have h3 := h2.addRd hR1.hd (fun k hk => h.oldApart hm rfl hR.hd k hk)
  have h4 := h3.addRd hp (fun k hk => by obtain ⟨_, _, e, rfl⟩ := hk; cases e; exact hb)
  exact front h4 4 rfl rfl
set_option maxHeartbeats 8000000 in
theorem p30 (p : Pkt) (A : PAd) (w : World) (hR : PktR w p A) (hI : PktI p) : CallsTo Tryz.prog 7 [p.val A] w fun v w' => ∃ a' c', v = .tuple [.slice a' (packP p).1.length c', .int .i64 (packP p).2].toArray ∧ NewSl w w' (.slice a' (packP p).1.length c') 5 1 (packP p).1.length (bv (packP p).1) := by
  refine go_in (n := 31) (St.refl _ NoF) Tryz.func7 rfl rfl ?_
  cases hck : chkP p
  · have e : packP p = ([], 2) := by unfold packP; rw [hck]; rfl
    repeat'(first|(apply kB;(iterate 2 exact rfl);intro b1)|refine kv' ?_|apply jJ|refine jE' ?_|refine jp' ?_|(apply jc;kernel_rfl)|refine kg' ?_|refine kG' ?_|refine kB' fun _=>?_|refine kA' fun _=>?_|refine kK' fun _=>?_|refine kU' ?_|(apply kq; (· exact rfl); (· intro w1 h1; have hq := CallsTo.q (p31 p A w1 (hR.old h1) hI) h1; rw [hck] at hq; exact hq))|((first|refine kR' ?_ ?_|refine kQ' ?_ ?_);all_goals(intro hc;try simp only[hcs]at hc;try(exfalso;first|contradiction|omega))))
    (apply ret2; (· exact rfl); intro w' hS)
    rw [e]
    exact ⟨none, 0, rfl, (hS.nilsl 5 1).toNew (mH _ _)⟩
  · have hm := (chk_may hck).1
    have hbl := body_len hm
    have hbb := body_byt hm hR.hdb
    have e : packP p = (sealL (bodyP p), 0) := by unfold packP; rw [hck]; rfl
    rw [e]
    repeat'(first|(apply kB;(iterate 2 exact rfl);intro b1)|refine kv' ?_|apply jJ|refine jE' ?_|refine jp' ?_|(apply jc;kernel_rfl)|refine kg' ?_|refine kG' ?_|refine kB' fun _=>?_|refine kA' fun _=>?_|refine kK' fun _=>?_|refine kU' ?_|(apply kq; (· exact rfl); (· intro w1 h1; have hq := CallsTo.q (p31 p A w1 (hR.old h1) hI) h1; rw [hck] at hq; exact hq))|((first|refine kR' ?_ ?_|refine kQ' ?_ ?_);all_goals(intro hc;try simp only[hcs]at hc;try(exfalso;first|contradiction|omega))))
    apply LR.call
    · exact rfl
    intro w1 h1
    refine CallsTo.mono (show CallsTo Tryz.prog 25 [] w1 _ from c53 w1) ?_
    rintro v w2 ⟨bw, rfl, hn⟩
    refine LR.back (h1.got hn (wrA_dep _ _ _ _)) ?_
    clear hn h1
    repeat'(first|(apply kB;(iterate 2 exact rfl);intro bc)|refine kv' ?_|apply jJ|refine jE' ?_|refine jp' ?_|(apply jc;kernel_rfl)|refine kg' ?_|refine kG' ?_|refine kB' fun _=>?_|refine kA' fun _=>?_|refine kK' fun _=>?_|refine kU' ?_|((first|refine kR' ?_ ?_|refine kQ' ?_ ?_);all_goals(intro hc;try simp only[hcs]at hc;try(exfalso;first|contradiction|omega))))
    apply LR.call
    · exact rfl
    intro w1 h1
    have h2 : St w NoF [wC bc bw none 0 [], .own b1 (.cells (p.cells A).toArray 42 (0, 0))] w1 := St.join (x := codB bc (some ⟨bw, 0, none⟩) none 0) h1 rfl rfl
    refine CallsTo.mono (show CallsTo Tryz.prog 26 [.pointer (some ⟨bc, 0, none⟩), .pointer (some ⟨b1, 0, none⟩)] w1 _ from p55w bc bw none 0 [] b1 A p w1 (pk_start h2 (mH _ _) (h2.rd_of_blk memZ) (fun hf => St.apart2 (x := wC bc bw none 0 []) (y := .own b1 (.cells (p.cells A).toArray 42 (0, 0))) h2 (.inl subZ) rfl b1 hf rfl) hR) hR.hdz hR.hdb hm (by simp)) ?_
    rintro v w2 ⟨a2, c2, rfl, st⟩
    rw [List.nil_append] at st
    refine LR.back (St.did h2 selZ rfl st (wC_dep _ _ _ _ _)) ?_
    clear st h1 h2
    repeat'(first|refine kv' ?_|apply jJ|refine jE' ?_|refine jp' ?_|(apply jc;kernel_rfl)|refine kg' ?_|refine kG' ?_|refine kB' fun _=>?_|refine kA' fun _=>?_|refine kK' fun _=>?_|refine kU' ?_|(apply LR.ev; (· first | (apply Ev.load (v := .int .i64 0); (· exact rfl); (· exact fun w' hw' => wC_e (hw'.holds (wC bc bw _ _ _) memZ))) | (apply Ev.load (v := .pointer (some ⟨bw, 0, none⟩)); (· exact rfl); (· exact fun w' hw' => wC_w (hw'.holds (wC bc bw _ _ _) memZ)))); (· exact rfl))|(apply LR.call; (· exact rfl); (intro w1 h1; refine CallsTo.mono (show CallsTo Tryz.prog 27 [.pointer (some ⟨bw, 0, none⟩)] w1 _ from c56 bw a2 c2 (bodyP p) w1 (h1.holds (wC bc bw a2 c2 (bodyP p)) memZ).2.1 (by omega)) ?_; rintro v w2 ⟨a3, c3, rfl, hn⟩; refine LR.back (h1.newSl hn) ?_; clear hn h1))|(apply LR.call; (· exact rfl); (intro w1 h1; refine CallsTo.mono (show CallsTo Tryz.prog 21 [.slice a3 (bodyP p).length c3] w1 _ from p34 a3 c3 (bodyP p) w1 (h1.rd_of_own memZ) hbb (fun e => (ownsRow_some h1.g0 e).2) (by omega)) ?_; rintro v w2 ⟨a4, c4, rfl, hn⟩; refine LR.back (h1.newSl hn) ?_; clear hn h1))|((first|refine kR' ?_ ?_|refine kQ' ?_ ?_);all_goals(intro hc;try simp only[hcs]at hc;try(exfalso;first|contradiction|omega))))
    (apply ret2; (· exact rfl); intro w' hS)
    exact ⟨a4, c4, rfl, hS.toNew (mH _ _)⟩
end Go.Proofs.YtkolmkdbjagfcaaGreat

namespace Go.Proofs.YtkolmkdbjagfcaaGreat
open Go.Hb
attribute [local irreducible] LR CW At Ev thn blk finK noG again CallsTo DW QL dnext TW DP
set_option maxRecDepth 100000

theorem getS_byt {s : RS} (h : Byt s.1) : Byt (getS s).2.1 := by
  unfold getS
  split
  · exact h
  · exact byt_drop h _
theorem getS_le (s : RS) : (getS s).2.1.length ≤ s.1.length := by
  unfold getS
  split
  · exact Nat.le_refl _
  · simp only [List.length_drop]; omega
theorem getS_err {s : RS} (h : s.2 ≠ 0) : getS s = (0, s) := by unfold getS; rw [if_pos h]
theorem rdN_byt : ∀ (os : List Nat) (cs : List Value) (s : RS), Byt s.1 → Byt (rdN os cs s).2.1
  | [], _, _, h => h
  | o :: r, cs, s, h => by
    unfold rdN
    split
    · exact h
    · exact rdN_byt r _ _ (getS_byt h)
theorem rdN_le : ∀ (os : List Nat) (cs : List Value) (s : RS), (rdN os cs s).2.1.length ≤ s.1.length
  | [], _, _ => Nat.le_refl _
  | o :: r, cs, s => by
    unfold rdN
    split
    · exact Nat.le_refl _
    · exact Nat.le_trans (rdN_le r _ _) (getS_le s)
theorem rdN_len : ∀ (os : List Nat) (cs : List Value) (s : RS), (rdN os cs s).1.length = cs.length
  | [], _, _ => rfl
  | o :: r, cs, s => by
    unfold rdN
    split
    · rfl
    · rw [rdN_len r, List.length_set]
theorem rdN_err : ∀ (os : List Nat) (cs : List Value) (s : RS), s.2 ≠ 0 → rdN os cs s = (cs, s)
  | [], _, _, _ => rfl
  | o :: r, cs, s, h => by unfold rdN; rw [if_pos h]
theorem rdN_app : ∀ (xs ys : List Nat) (cs : List Value) (s : RS), rdN (xs ++ ys) cs s = rdN ys (rdN xs cs s).1 (rdN xs cs s).2
  | [], _, _, _ => rfl
  | o :: r, ys, cs, s => by
    rw [List.cons_append]
    by_cases h : s.2 = 0
    · have e : ∀ t, rdN (o :: t) cs s = rdN t (cs.set o (.int .i64 (getS s).1)) (getS s).2 := fun t => by rw [rdN, if_neg (by simp [h])]
      rw [e, e, rdN_app r]
    · rw [rdN_err _ _ _ h, rdN_err _ _ _ h, rdN_err _ _ _ h]
set_option maxHeartbeats 2000000 in
theorem p89r (bc br : Nat) (a : Option Addr) (c : Nat) (s : RS) (b : Nat) (cs : List Value) (E : Nat) (o : Nat) (w : World) (h : (rX bc br a c s b cs E).holds w) (ho : o + 1 < cs.length) (hB : Byt s.1) (hm : s.1.length ≤ 281474976710656) :
    CallsTo Tryz.prog 76 [.pointer (some ⟨bc, 0, none⟩), .pointer (some ⟨b, o, none⟩)] w fun v w' => ∃ a' c', v = .tuple #[] ∧ Step (rX bc br a c s b cs E) (rX bc br a' c' (rdN [o, o + 1] cs s).2 b (rdN [o, o + 1] cs s).1 E) w w' := by
  have hS0 := St.one h (both_live h) (rX_dep _ _ _ _ _ _ _ _)
  generalize hF : (rX bc br a c s b cs E).foot = F at hS0
  refine go_in (n := 13) hS0 Tryz.func76 rfl rfl ?_
  repeat'(first|(apply CW.reg_held (St w F []))|refine kv' ?_|apply jJ|refine jE' ?_|refine jp' ?_|(apply jc;kernel_rfl)|refine kg' ?_|refine kG' ?_|refine kB' fun _=>?_|refine kA' fun _=>?_|refine kK' fun _=>?_|refine kU' ?_|((first|refine kR' ?_ ?_|refine kQ' ?_ ?_);all_goals(intro hc;try simp only[hcs]at hc;try(exfalso;first|contradiction|omega))))
  all_goals (
    apply DW.quiet [0, 1, 2, 3, 4, 5, 6]
    · decide +kernel
    · first | exact fun _ h => h | exact fun _ h => St.sub h subZ
    repeat'(first|refine yv' ?_|refine uv' ?_|refine un' ?_|(refine us' ?_ ?_;all_goals(intro hc;try simp only[hcs]at hc;try(exfalso;first|contradiction|omega)))|apply QL.nil)
    all_goals (show DW _ _ _ _ _ _ _ _))
  all_goals (
    apply DW.loud 7
    · exact rfl
    · decide +kernel
    repeat'(first|(apply Go.Hb.kK;(iterate 4 exact rfl);intro bs)|refine kg' ?_|refine kG' ?_|apply kM|refine kv' ?_|refine kK' fun _=>?_|refine kU' ?_|refine kB' fun _=>?_|refine kA' fun _=>?_|(apply LR.call; (· exact rfl); (intro w1 h1; refine (p87r bc br a c s b cs E bs [o, o + 1] w1 (h1.holds _ memZ) (h1.rd_of_blk memZ) (St.apart2 (x := .own bs (.cells _ 114 (0, 0))) h1 (.inl subZ) rfl bs rfl) (fun q hq => by simp only [List.mem_cons, List.not_mem_nil, or_false] at hq; rcases hq with rfl | rfl <;> omega) hB hm (by simp)).mono ?_; rintro v w2 ⟨a2, c2, rfl, st⟩; refine LR.back (St.did h1 selZ rfl st (rX_dep _ _ _ _ _ _ _ _)) ?_; clear st h1)))
    all_goals (refine At.stage_same (fun _ h => St.sub h subZ) ?_))
  all_goals (
    apply DW.loud 8
    · exact rfl
    · decide +kernel
    repeat'(first|(apply Go.Hb.kK;(iterate 4 exact rfl);intro bs)|refine kg' ?_|refine kG' ?_|apply kM|refine kv' ?_|refine kK' fun _=>?_|refine kU' ?_|refine kB' fun _=>?_|refine kA' fun _=>?_|(apply LR.call; (· exact rfl); (intro w1 h1; refine (p87r bc br a c s b cs E bs [o, o + 1] w1 (h1.holds _ memZ) (h1.rd_of_blk memZ) (St.apart2 (x := .own bs (.cells _ 114 (0, 0))) h1 (.inl subZ) rfl bs rfl) (fun q hq => by simp only [List.mem_cons, List.not_mem_nil, or_false] at hq; rcases hq with rfl | rfl <;> omega) hB hm (by simp)).mono ?_; rintro v w2 ⟨a2, c2, rfl, st⟩; refine LR.back (St.did h1 selZ rfl st (rX_dep _ _ _ _ _ _ _ _)) ?_; clear st h1)))
    all_goals (refine At.stage_same (fun _ h => St.sub h subZ) ?_))
  all_goals (first | (apply DW.done_thn; (· decide +kernel)) | (apply DW.done; (· decide +kernel)))
  repeat'(first|refine kv' ?_|apply jJ|refine jE' ?_|refine jp' ?_|(apply jc;kernel_rfl)|refine kg' ?_|refine kG' ?_|refine kB' fun _=>?_|refine kA' fun _=>?_|refine kK' fun _=>?_|refine kU' ?_|((first|refine kR' ?_ ?_|refine kQ' ?_ ?_);all_goals(intro hc;try simp only[hcs]at hc;try(exfalso;first|contradiction|omega))))
  apply end0
  · exact rfl
  intro w' hS
  subst hF
  exact ⟨a2, c2, rfl, (hS.sub (L' := [rX bc br a2 c2 (rdN [o, o + 1] cs s).2 b (rdN [o, o + 1] cs s).1 E]) subZ).step rfl⟩
set_option maxHeartbeats 2000000 in
theorem p92r (bc br : Nat) (a : Option Addr) (c : Nat) (s : RS) (b : Nat) (cs : List Value) (E : Nat) (o : Nat) (w : World) (h : (rX bc br a c s b cs E).holds w) (ho : o < cs.length) (hB : Byt s.1) (hm : s.1.length ≤ 281474976710656) :
    CallsTo Tryz.prog 79 [.pointer (some ⟨bc, 0, none⟩), .pointer (some ⟨b, o, none⟩)] w fun v w' => ∃ a' c', v = .tuple #[] ∧ Step (rX bc br a c s b cs E) (rX bc br a' c' (rdN [o] cs s).2 b (rdN [o] cs s).1 E) w w' := by
  have hS0 := St.one h (both_live h) (rX_dep _ _ _ _ _ _ _ _)
  generalize hF : (rX bc br a c s b cs E).foot = F at hS0
  refine go_in (n := 8) hS0 Tryz.func79 rfl rfl ?_
  repeat'(first|(apply Go.Hb.kK;(iterate 4 exact rfl);intro bs)|refine kv' ?_|apply jJ|refine jE' ?_|refine jp' ?_|(apply jc;kernel_rfl)|refine kg' ?_|refine kG' ?_|refine kB' fun _=>?_|refine kA' fun _=>?_|refine kK' fun _=>?_|refine kU' ?_|(apply LR.call; (· exact rfl); (intro w1 h1; refine (p87r bc br a c s b cs E bs [o] w1 (h1.holds _ memZ) (h1.rd_of_blk memZ) (St.apart2 (x := .own bs (.cells _ 114 (0, 0))) h1 (.inl subZ) rfl bs rfl) (fun q hq => by simp only [List.mem_cons, List.not_mem_nil, or_false] at hq; subst hq; exact ho) hB hm (by simp)).mono ?_; rintro v w2 ⟨a2, c2, rfl, st⟩; refine LR.back (St.did h1 selZ rfl st (rX_dep _ _ _ _ _ _ _ _)) ?_; clear st h1))|((first|refine kR' ?_ ?_|refine kQ' ?_ ?_);all_goals(intro hc;try simp only[hcs]at hc;try(exfalso;first|contradiction|omega))))
  apply end0
  · exact rfl
  intro w' hS
  subst hF
  exact ⟨a2, c2, rfl, (hS.sub (L' := [rX bc br a2 c2 (rdN [o] cs s).2 b (rdN [o] cs s).1 E]) subZ).step rfl⟩
def six (o : Nat) : List Nat := [o, o + 1, o + 2, o + 3, o + 4, o + 5]
set_option maxHeartbeats 4000000 in
theorem p94r (bc br : Nat) (a : Option Addr) (c : Nat) (s : RS) (b : Nat) (cs : List Value) (E : Nat) (o : Nat) (w : World) (h : (rX bc br a c s b cs E).holds w) (ho : o + 5 < cs.length) (hB : Byt s.1) (hm : s.1.length ≤ 281474976710656) :
    CallsTo Tryz.prog 81 [.pointer (some ⟨bc, 0, none⟩), .pointer (some ⟨b, o, none⟩)] w fun v w' => ∃ a' c', v = .tuple #[] ∧ Step (rX bc br a c s b cs E) (rX bc br a' c' (rdN (six o) cs s).2 b (rdN (six o) cs s).1 E) w w' := by
  have hS0 := St.one h (both_live h) (rX_dep _ _ _ _ _ _ _ _)
  generalize hF : (rX bc br a c s b cs E).foot = F at hS0
  have e6 : rdN (six o) cs s = rdN [o + 3, o + 4, o + 5] (rdN [o + 1, o + 1 + 1] (rdN [o] cs s).1 (rdN [o] cs s).2).1 (rdN [o + 1, o + 1 + 1] (rdN [o] cs s).1 (rdN [o] cs s).2).2 := by
    rw [← rdN_app, ← rdN_app]; rfl
  have l1 := rdN_len [o] cs s
  have b1 := rdN_byt [o] cs s hB
  have m1 := rdN_le [o] cs s
  obtain ⟨⟨cs1, s1⟩, hr1⟩ : ∃ r, rdN [o] cs s = r := ⟨_, rfl⟩
  rw [hr1] at l1 b1 m1 e6
  simp only at l1 b1 m1 e6
  have l2 := rdN_len [o + 1, o + 1 + 1] cs1 s1
  have b2 := rdN_byt [o + 1, o + 1 + 1] cs1 s1 b1
  have m2 := rdN_le [o + 1, o + 1 + 1] cs1 s1
  obtain ⟨⟨cs2, s2⟩, hr2⟩ : ∃ r, rdN [o + 1, o + 1 + 1] cs1 s1 = r := ⟨_, rfl⟩
  rw [hr2] at l2 b2 m2 e6
  simp only at l2 b2 m2 e6
  refine go_in (n := 27) hS0 Tryz.func81 rfl rfl ?_
  repeat'(first|(apply CW.reg_held (St w F []))|(apply Go.Hb.kK;(iterate 4 exact rfl);intro bs)|refine kv' ?_|apply jJ|refine jE' ?_|refine jp' ?_|(apply jc;kernel_rfl)|refine kg' ?_|refine kG' ?_|refine kB' fun _=>?_|refine kA' fun _=>?_|refine kK' fun _=>?_|refine kU' ?_|(apply LR.call; (· exact rfl); (intro w1 h1; first | (refine (p87r bc br a c s b cs E bs [o] w1 (h1.holds (rX bc br a c s b cs E) memZ) (h1.rd_of_blk memZ) (St.apart2 (x := .own bs (.cells _ 114 (0, 0))) h1 (.inl subZ) rfl bs rfl) (fun q hq => by simp only [List.mem_cons, List.not_mem_nil, or_false] at hq; subst hq; omega) hB hm (by simp)).mono ?_; rintro v w2 ⟨a2, c2, rfl, st⟩; rw [hr1] at st; refine LR.back (St.did h1 selZ rfl st (rX_dep _ _ _ _ _ _ _ _)) ?_; clear st h1) | (refine (p89r bc br a2 c2 s1 b cs1 E (o + 1) w1 (h1.holds (rX bc br a2 c2 s1 b cs1 E) memZ) (by omega) b1 (by omega)).mono ?_; rintro v w2 ⟨a3, c3, rfl, st⟩; rw [hr2] at st; refine LR.back (St.did h1 selZ rfl st (rX_dep _ _ _ _ _ _ _ _)) ?_; clear st h1)))|((first|refine kR' ?_ ?_|refine kQ' ?_ ?_);all_goals(intro hc;try simp only[hcs]at hc;try(exfalso;first|contradiction|omega))))
  all_goals (
    apply DW.quiet [0, 1, 2, 3, 4, 5, 6, 7, 8, 9]
    · decide +kernel
    · first | exact fun _ h => h | exact fun _ h => St.sub h subZ
    repeat'(first|refine yv' ?_|refine uv' ?_|refine un' ?_|(refine us' ?_ ?_;all_goals(intro hc;try simp only[hcs]at hc;try(exfalso;first|contradiction|omega)))|apply QL.nil)
    all_goals (show DW _ _ _ _ _ _ _ _))
  all_goals (
    apply DW.loud 10
    · exact rfl
    · decide +kernel
    repeat'(first|(apply Go.Hb.kK;(iterate 4 exact rfl);intro bs)|refine kg' ?_|refine kG' ?_|apply kM|refine kv' ?_|refine kK' fun _=>?_|refine kU' ?_|refine kB' fun _=>?_|refine kA' fun _=>?_|(apply LR.call; (· exact rfl); (intro w1 h1; refine (p87r bc br a3 c3 s2 b cs2 E bs [o + 3, o + 4, o + 5] w1 (h1.holds (rX bc br a3 c3 s2 b cs2 E) memZ) (h1.rd_of_blk memZ) (St.apart2 (x := .own bs (.cells _ 114 (0, 0))) h1 (.inl subZ) rfl bs rfl) (fun q hq => by simp only [List.mem_cons, List.not_mem_nil, or_false] at hq; rcases hq with rfl | rfl | rfl <;> omega) b2 (by omega) (by simp)).mono ?_; rintro v w2 ⟨a4, c4, rfl, st⟩; refine LR.back (St.did h1 selZ rfl st (rX_dep _ _ _ _ _ _ _ _)) ?_; clear st h1)))
    all_goals (refine At.stage_same (fun _ h => St.sub h subZ) ?_))
  all_goals (
    apply DW.loud 11
    · exact rfl
    · decide +kernel
    repeat'(first|(apply Go.Hb.kK;(iterate 4 exact rfl);intro bs)|refine kg' ?_|refine kG' ?_|apply kM|refine kv' ?_|refine kK' fun _=>?_|refine kU' ?_|refine kB' fun _=>?_|refine kA' fun _=>?_|(apply LR.call; (· exact rfl); (intro w1 h1; refine (p87r bc br a3 c3 s2 b cs2 E bs [o + 3, o + 4, o + 5] w1 (h1.holds (rX bc br a3 c3 s2 b cs2 E) memZ) (h1.rd_of_blk memZ) (St.apart2 (x := .own bs (.cells _ 114 (0, 0))) h1 (.inl subZ) rfl bs rfl) (fun q hq => by simp only [List.mem_cons, List.not_mem_nil, or_false] at hq; rcases hq with rfl | rfl | rfl <;> omega) b2 (by omega) (by simp)).mono ?_; rintro v w2 ⟨a4, c4, rfl, st⟩; refine LR.back (St.did h1 selZ rfl st (rX_dep _ _ _ _ _ _ _ _)) ?_; clear st h1)))
    all_goals (refine At.stage_same (fun _ h => St.sub h subZ) ?_))
  all_goals (first | (apply DW.done_thn; (· decide +kernel)) | (apply DW.done; (· decide +kernel)))
  repeat'(first|refine kv' ?_|apply jJ|refine jE' ?_|refine jp' ?_|(apply jc;kernel_rfl)|refine kg' ?_|refine kG' ?_|refine kB' fun _=>?_|refine kA' fun _=>?_|refine kK' fun _=>?_|refine kU' ?_|((first|refine kR' ?_ ?_|refine kQ' ?_ ?_);all_goals(intro hc;try simp only[hcs]at hc;try(exfalso;first|contradiction|omega))))
  apply end0
  · exact rfl
  intro w' hS
  subst hF
  rw [e6]
  exact ⟨a4, c4, rfl, (hS.sub (L' := [rX bc br a4 c4 (rdN [o + 3, o + 4, o + 5] cs2 s2).2 b (rdN [o + 3, o + 4, o + 5] cs2 s2).1 E]) subZ).step rfl⟩
end Go.Proofs.YtkolmkdbjagfcaaGreat

namespace Go.Proofs.YtkolmkdbjagfcaaGreat
open Go.Hb
attribute [local irreducible] LR CW At Ev thn blk finK noG again CallsTo DW QL dnext TW DP
set_option maxRecDepth 100000

def rdL {α : Type} (f : RS → α × RS) : Nat → RS → List α × RS
  | 0, s => ([], s)
  | k + 1, s => ((rdL f k s).1 ++ [(f (rdL f k s).2).1], (f (rdL f k s).2).2)
theorem rdL_len {α : Type} (f : RS → α × RS) : ∀ (k : Nat) (s : RS), (rdL f k s).1.length = k
  | 0, _ => rfl
  | k + 1, s => by unfold rdL; rw [List.length_append, rdL_len f k]; rfl
def lstR {α : Type} (f : RS → α × RS) (most : Int) (s : RS) : List α × RS :=
  if (getS s).2.2 ≠ 0 then ([], (getS s).2) else if most < (getS s).1 then ([], ((getS s).2.1, 5)) else rdL f (getS s).1.toNat (getS s).2
def getE (s : RS) : Ent × RS :=
  (⟨(getS s).1, (getS (getS s).2).1, (getS (getS (getS s).2).2).1, (getS (getS (getS (getS s).2).2).2).1, (getS (getS (getS (getS (getS s).2).2).2).2).1, (getS (getS (getS (getS (getS (getS s).2).2).2).2).2).1⟩, (getS (getS (getS (getS (getS (getS s).2).2).2).2).2).2)
theorem getS_nn (s : RS) : 0 ≤ (getS s).1 := by
  unfold getS
  split
  · exact Int.le_refl _
  · exact Int.natCast_nonneg _
theorem getE_byt {s : RS} (h : Byt s.1) : Byt (getE s).2.1 := getS_byt (getS_byt (getS_byt (getS_byt (getS_byt (getS_byt h)))))
theorem getE_le (s : RS) : (getE s).2.1.length ≤ s.1.length := by
  unfold getE
  have h1 := getS_le s
  have h2 := getS_le (getS s).2
  have h3 := getS_le (getS (getS s).2).2
  have h4 := getS_le (getS (getS (getS s).2).2).2
  have h5 := getS_le (getS (getS (getS (getS s).2).2).2).2
  have h6 := getS_le (getS (getS (getS (getS (getS s).2).2).2).2).2
  simp only
  omega
theorem rdL_byt {α : Type} {f : RS → α × RS} (hf : ∀ s, Byt s.1 → Byt (f s).2.1) : ∀ (k : Nat) (s : RS), Byt s.1 → Byt (rdL f k s).2.1
  | 0, _, h => h
  | k + 1, s, h => by unfold rdL; exact hf _ (rdL_byt hf k s h)
theorem rdL_le {α : Type} {f : RS → α × RS} (hf : ∀ s, (f s).2.1.length ≤ s.1.length) : ∀ (k : Nat) (s : RS), (rdL f k s).2.1.length ≤ s.1.length
  | 0, _ => Nat.le_refl _
  | k + 1, s => by unfold rdL; exact Nat.le_trans (hf _) (rdL_le hf k s)
theorem rd_int (A B : List Value) (s : RS) {n : Nat} (hn : n = A.length) : rdN [n] (A ++ Value.int .i64 0 :: B) s = (A ++ Value.int .i64 (getS s).1 :: B, (getS s).2) := by
  unfold rdN
  split
  · rename_i h
    rw [getS_err h]
  · subst hn
    rw [rdN]
    simp
theorem rd_ent (A B : List Value) (s : RS) {n : Nat} (hn : n = A.length) : rdN (six n) (A ++ (Value.int .i64 0 :: Value.int .i64 0 :: Value.int .i64 0 :: Value.int .i64 0 :: Value.int .i64 0 :: Value.int .i64 0 :: B)) s = (A ++ ((getE s).1.cells ++ B), (getE s).2) := by
  have e : six n = [n] ++ ([n + 1] ++ ([n + 2] ++ ([n + 3] ++ ([n + 4] ++ [n + 5])))) := rfl
  have ea : ∀ (x : Value) (C D : List Value), C ++ x :: D = (C ++ [x]) ++ D := fun x C D => by simp
  rw [e]
  repeat rw [rdN_app]
  rw [rd_int A _ s hn]
  simp only
  rw [ea _ A, rd_int _ _ _ (by rw [List.length_append, hn]; rfl)]
  simp only
  rw [ea _ (A ++ [_]), rd_int _ _ _ (by simp only [List.length_append]; rw [hn]; rfl)]
  simp only
  rw [ea _ (A ++ [_] ++ [_]), rd_int _ _ _ (by simp only [List.length_append]; rw [hn]; rfl)]
  simp only
  rw [ea _ (A ++ [_] ++ [_] ++ [_]), rd_int _ _ _ (by simp only [List.length_append]; rw [hn]; rfl)]
  simp only
  rw [ea _ (A ++ [_] ++ [_] ++ [_] ++ [_]), rd_int _ _ _ (by simp only [List.length_append]; rw [hn]; rfl)]
  simp only [List.append_assoc, List.cons_append, List.nil_append, Ent.cells, getE]
def LstP (bc br : Nat) (a : Option Addr) (c : Nat) (s : RS) (b : Nat) (cs : List Value) (E : Nat) (s' : RS) (good : List Value → Asrt → Prop) (w w' : World) : Prop :=
  ∃ a' c' cs' X, Step (rX bc br a c s b cs E) (both (rX bc br a' c' s' b cs' E) X) w w' ∧ X.dep ∧ X.excl = true ∧ cs'.length = cs.length ∧ (s'.2 = 0 → good cs' X)
theorem lst_fin {w w' : World} {F : Nat → Prop} {bc br : Nat} {a a' : Option Addr} {c c' : Nat} {s s' : RS} {b : Nat} {cs cs' : List Value} {E : Nat} {X : Asrt} {R : List Asrt} (hF : (rX bc br a c s b cs E).foot = F) (hS : St w F (X :: codB bc none (some ⟨br, 0, none⟩) s'.2 :: rrA 142 [.bool true] br a' c' s'.1 :: .own b (.cells cs'.toArray E (0, 0)) :: R) w') (hx : X.excl = true) : Step (rX bc br a c s b cs E) (both (rX bc br a' c' s' b cs' E) X) w w' := by
  have h1 : St w F (codB bc none (some ⟨br, 0, none⟩) s'.2 :: rrA 142 [.bool true] br a' c' s'.1 :: X :: .own b (.cells cs'.toArray E (0, 0)) :: R) w' := front (front (front hS 1 rfl rfl) 2 rfl rfl) 1 rfl rfl
  have h2 : St w F (rC bc br a' c' s'.1 s'.2 :: X :: .own b (.cells cs'.toArray E (0, 0)) :: R) w' := St.join h1 rfl rfl
  have h3 : St w F (rC bc br a' c' s'.1 s'.2 :: .own b (.cells cs'.toArray E (0, 0)) :: X :: R) w' := front (front h2 2 rfl rfl) 1 rfl rfl
  have h4 : St w F (rX bc br a' c' s' b cs' E :: X :: R) w' := St.join h3 rfl rfl
  have h5 := St.join h4 rfl hx
  subst hF
  exact h5.step (by rfl)
theorem lst_none {w w' : World} {F : Nat → Prop} {bc br : Nat} {a a' : Option Addr} {c c' : Nat} {s s' : RS} {b : Nat} {cs cs' : List Value} {E : Nat} {good : List Value → Asrt → Prop} {R : List Asrt} (hF : (rX bc br a c s b cs E).foot = F) (hS : St w F (codB bc none (some ⟨br, 0, none⟩) s'.2 :: rrA 142 [.bool true] br a' c' s'.1 :: .own b (.cells cs'.toArray E (0, 0)) :: R) w') (hl : cs'.length = cs.length) (he : s'.2 ≠ 0) : LstP bc br a c s b cs E s' good w w' :=
  ⟨a', c', cs', _, lst_fin hF (hS.nilsl 3 1) rfl, osl.dep _ _ _ _ _, rfl, hl, fun h => absurd h he⟩
theorem own_rd {b : Nat} {cs : List Value} {E : Nat} {w : World} (h : (Asrt.own b (.cells cs.toArray E (0, 0))).holds w) : Rd w (some ⟨b, 0, none⟩) cs := fun j v hj => ⟨_, rfl, by rw [addr_add, cell_own h]; simpa using hj⟩
theorem own_cell {b o : Nat} {cs : List Value} {E : Nat} {v : Value} {w : World} (h : (Asrt.own b (.cells cs.toArray E (0, 0))).holds w) (hv : cs[o]? = some v) : w.cell? ⟨b, o, none⟩ = some v := by
  rw [cell_own h]
  simpa using hv
theorem splice_at {cs : List Value} {o : Nat} {v : Value} (h : o < cs.length) : (splice cs o [v])[o]? = some v := by
  unfold splice
  have : (cs.take o).length = o := by rw [List.length_take]; omega
  rw [List.append_assoc, List.getElem?_append_right (by omega), this, Nat.sub_self]
  rfl
theorem splice_len1 {cs : List Value} {o : Nat} {v : Value} (h : o < cs.length) : (splice cs o [v]).length = cs.length := by
  unfold splice
  simp only [List.length_append, List.length_take, List.length_drop, List.length_cons, List.length_nil]
  omega
theorem rep_succ {k i : Nat} {Z : List Value} (h : i < k) : (List.replicate (k - i) Z).flatten = Z ++ (List.replicate (k - (i + 1)) Z).flatten := by
  rw [show k - i = (k - (i + 1)) + 1 by omega, List.replicate_succ, List.flatten_cons]
theorem rep_lenN {Z : List Value} (k : Nat) : (List.replicate k Z).flatten.length = k * Z.length := by
  induction k with
  | zero => simp
  | succ k ih => rw [List.replicate_succ, List.flatten_cons, List.length_append, ih, Nat.add_mul]; omega
theorem rep_len1 {k : Nat} : (List.replicate k [Value.int .i64 0]).flatten.length = k * 1 := rep_lenN k
theorem rep_len6 {k : Nat} : (List.replicate k [Value.int .i64 0, .int .i64 0, .int .i64 0, .int .i64 0, .int .i64 0, .int .i64 0]).flatten.length = k * 6 := rep_lenN k
structure Lst where
  i : Nat
  a : Option Addr
  c : Nat
set_option maxHeartbeats 16000000 in
theorem p91r (bc br : Nat) (a : Option Addr) (c : Nat) (s : RS) (b : Nat) (cs : List Value) (E : Nat) (o : Nat) (most : Int) (w : World) (h : (rX bc br a c s b cs E).holds w) (ho : o < cs.length) (hz : cs[o]? = some (.slice none 0 0)) (hB : Byt s.1) (hm : s.1.length ≤ 281474976710656) (hmost : most ≤ 100) :
    CallsTo Tryz.prog 78 [.pointer (some ⟨bc, 0, none⟩), .pointer (some ⟨b, o, none⟩), .int .i64 most, .func (.func 79) #[] #[]] w fun v w' => v = .tuple #[] ∧ LstP bc br a c s b cs E (lstR getS most s).2
      (fun cs' X => ∃ sa sc, cs' = splice cs o [.slice sa (lstR getS most s).1.length sc] ∧ (sa = none → sc = 0) ∧ ∀ w2, X.holds w2 → Rd w2 sa ((lstR getS most s).1.flatMap ivF)) w w' := by
  have hS0 := St.one h (both_live h) (rX_dep _ _ _ _ _ _ _ _)
  generalize hF : (rX bc br a c s b cs E).foot = F at hS0
  have hS1 : St w F [codB bc none (some ⟨br, 0, none⟩) s.2, rrA 142 [.bool true] br a c s.1, .own b (.cells cs.toArray E (0, 0))] w := (hS0.part (rC_dep _ _ _ _ _ _) (Asrt.dep_own _ _)).part (Asrt.dep_own _ _) (rrA_dep _ _ _ _ _ _)
  have hrd : rdN [0] [Value.int .i64 0] s = ([Value.int .i64 (getS s).1], (getS s).2) := rd_int [] [] s rfl
  have hgb := getS_byt hB
  have hgl := getS_le s
  have hgn := getS_nn s
  obtain ⟨r0, hr0⟩ : ∃ r, lstR getS most s = r := ⟨_, rfl⟩
  have hr1 := hr0
  rw [hr0]
  unfold lstR at hr1
  obtain ⟨⟨n, l1, e1⟩, hg⟩ : ∃ r, getS s = r := ⟨_, rfl⟩
  rw [hg] at hrd hgb hgl hgn hr1
  simp only at hrd hgb hgl hgn hr1
  refine go_in (n := 60) hS1 Tryz.func78 rfl rfl ?_
  by_cases he : e1 = 0
  · subst he
    rw [if_neg (by simp)] at hr1
    by_cases hn : most < n
    · rw [if_pos hn] at hr1
      subst hr1
      repeat'(first|(apply kA;exact rfl;intro bn)|(apply Go.Hb.kK;(iterate 4 exact rfl);intro bs)|refine kv' ?_|apply jJ|refine jE' ?_|refine jp' ?_|(apply jc;kernel_rfl)|refine kg' ?_|refine kG' ?_|refine kB' fun _=>?_|refine kA' fun _=>?_|refine kK' fun _=>?_|refine kU' ?_|(apply LR.ev; (· apply Ev.load (v := .slice none 0 0); (· exact rfl); (· refine fun w' hw' => own_cell (hw'.holds (.own b (.cells cs.toArray E (0, 0))) ?_) hz; (repeat (first | exact mH _ _ | apply mT)); done)); (· exact rfl))|(apply LR.call; (· exact rfl); (intro w1 h1; have h3 : St w F [rX bc br a c s bn [Value.int .i64 0] 3, .own bs (.cells [Value.pointer (some ⟨bn, 0, none⟩)].toArray 114 (0, 0)), .own b (.cells cs.toArray E (0, 0))] w1 := St.join (x := rC bc br a c s.1 s.2) (front (front (St.join (x := codB bc none (some ⟨br, 0, none⟩) s.2) (front (front h1 3 rfl rfl) 3 rfl rfl) rfl rfl) 2 rfl rfl) 1 rfl rfl) rfl rfl; refine (p87r bc br a c s bn [Value.int .i64 0] 3 bs [0] w1 (h3.holds _ (mH _ _)) (h3.rd_of_blk memZ) (St.apart2 (x := .own bs (.cells _ 114 (0, 0))) h3 (.inr subZ) rfl bs rfl) (by simp) hB hm (by simp)).mono ?_; rintro v w2 ⟨a2, c2, rfl, st⟩; rw [hrd] at st; refine LR.back (((St.did h3 (Sel.head _ _ _) rfl st (rX_dep _ _ _ _ _ _ _ _)).part (rC_dep _ _ _ _ _ _) (Asrt.dep_own _ _)).part (Asrt.dep_own _ _) (rrA_dep _ _ _ _ _ _)) ?_; clear st h3 h1))|((first|refine kR' ?_ ?_|refine kQ' ?_ ?_);all_goals(intro hc;try simp only[hcs]at hc;try(exfalso;first|contradiction|omega))))
      apply ret0
      · exact rfl
      intro w' hS
      exact ⟨rfl, lst_none hF (s' := (l1, 5)) (a' := a2) (c' := c2) (cs' := cs) (hS.sub subZ) rfl (by simp)⟩
    · rw [if_neg hn] at hr1
      obtain ⟨k, rfl⟩ := Int.eq_ofNat_of_zero_le hgn
      rw [Int.toNat_natCast] at hr1
      have hk : k ≤ 100 := by omega
      have hst : ∀ bm : Nat, (([Value.slice (some ⟨bm, 0, none⟩) k k].all Value.oneCell' && Nat.beq 1 1 && Nat.ble (o + 1) cs.length) = true) := fun bm => by
        have h1 : Nat.ble (o + 1) cs.length = true := by simp; omega
        show ((true && true && Nat.ble (o + 1) cs.length) = true)
        rw [h1]; rfl
      repeat'(first|(apply kA;exact rfl;intro bn)|(apply Go.Hb.kK;(iterate 4 exact rfl);intro bs)|refine kv' ?_|apply jJ|refine jE' ?_|refine jp' ?_|(apply jc;kernel_rfl)|refine kg' ?_|refine kG' ?_|refine kB' fun _=>?_|refine kA' fun _=>?_|refine kK' fun _=>?_|refine kU' ?_|(apply LR.ev; (· apply Ev.load (v := .slice none 0 0); (· exact rfl); (· refine fun w' hw' => own_cell (hw'.holds (.own b (.cells cs.toArray E (0, 0))) ?_) hz; (repeat (first | exact mH _ _ | apply mT)); done)); (· exact rfl))|(apply LR.call; (· exact rfl); (intro w1 h1; have h3 : St w F [rX bc br a c s bn [Value.int .i64 0] 3, .own bs (.cells [Value.pointer (some ⟨bn, 0, none⟩)].toArray 114 (0, 0)), .own b (.cells cs.toArray E (0, 0))] w1 := St.join (x := rC bc br a c s.1 s.2) (front (front (St.join (x := codB bc none (some ⟨br, 0, none⟩) s.2) (front (front h1 3 rfl rfl) 3 rfl rfl) rfl rfl) 2 rfl rfl) 1 rfl rfl) rfl rfl; refine (p87r bc br a c s bn [Value.int .i64 0] 3 bs [0] w1 (h3.holds _ (mH _ _)) (h3.rd_of_blk memZ) (St.apart2 (x := .own bs (.cells _ 114 (0, 0))) h3 (.inr subZ) rfl bs rfl) (by simp) hB hm (by simp)).mono ?_; rintro v w2 ⟨a2, c2, rfl, st⟩; rw [hrd] at st; refine LR.back (((St.did h3 (Sel.head _ _ _) rfl st (rX_dep _ _ _ _ _ _ _ _)).part (rC_dep _ _ _ _ _ _) (Asrt.dep_own _ _)).part (Asrt.dep_own _ _) (rrA_dep _ _ _ _ _ _)) ?_; clear st h3 h1))|(apply LR.makeSlice (m := k); (· exact rfl); (· exact rfl); (· omega); (· omega); (· exact rfl); (· exact rfl); (intro bm))|(apply kS; (· exact rfl); (· exact rfl); (· (repeat (first | exact sH _ _ _ | apply sT))); (· exact hst _))|(apply LR.ev; (· apply Ev.load (v := .slice (some ⟨bm, 0, none⟩) k k); (· exact rfl); (· refine fun w' hw' => own_cell (hw'.holds (.own b (.cells (splice cs o [.slice (some ⟨bm, 0, none⟩) k k]).toArray E (0, 0))) ?_) (splice_at ho); (repeat (first | exact mH _ _ | apply mT)); done)); (· exact rfl))|((first|refine kR' ?_ ?_|refine kQ' ?_ ?_);all_goals(intro hc;try simp only[hcs]at hc;try(exfalso;first|contradiction|omega))))
      apply CW.loop [9, 48, 49, 50, 51, 52, 53, 54, 55, 56, 57, 58, 59] (fun t : Lst => t.i ≤ k) (fun t => [(48, Value.int .i64 (t.i : Int))])
        (fun t => St w F [.own bm (.cells ((rdL getS t.i (l1, 0)).1.flatMap ivF ++ (List.replicate (k - t.i) [Value.int .i64 0]).flatten).toArray 3 (0, 0)), codB bc none (some ⟨br, 0, none⟩) (rdL getS t.i (l1, 0)).2.2, rrA 142 [.bool true] br t.a t.c (rdL getS t.i (l1, 0)).2.1, .own b (.cells (splice cs o [.slice (some ⟨bm, 0, none⟩) k k]).toArray E (0, 0))]) (fun t => k - t.i)
      · exact fun w' hw' => ⟨⟨0, a2, c2⟩, Nat.zero_le _, ⟨rfl, trivial⟩, hw'.sub (L' := [.own bm (.cells (List.replicate k [Value.int .i64 0]).flatten.toArray 3 (0, 0)), codB bc none (some ⟨br, 0, none⟩) 0, rrA 142 [.bool true] br a2 c2 l1, .own b (.cells (splice cs o [.slice (some ⟨bm, 0, none⟩) k k]).toArray E (0, 0))]) subZ⟩
      rintro ⟨i, a1, c1⟩ g hi
      simp only at hi ⊢
      have hlen := rdL_len getS i (l1, 0)
      have hrl := Go.Hb.rows_len ivF_len (rdL getS i (l1, 0)).1
      rw [hlen] at hrl
      have hbyt := rdL_byt (fun s => getS_byt) i (l1, 0) hgb
      have hle := rdL_le getS_le i (l1, 0)
      by_cases hlt : i < k
      · have hel : rdN [0 + (i : Int).toNat * 1] ((rdL getS i (l1, 0)).1.flatMap ivF ++ (List.replicate (k - i) [Value.int .i64 0]).flatten) (rdL getS i (l1, 0)).2 = ((rdL getS (i + 1) (l1, 0)).1.flatMap ivF ++ (List.replicate (k - (i + 1)) [Value.int .i64 0]).flatten, (rdL getS (i + 1) (l1, 0)).2) := by
          rw [rep_succ hlt]
          refine (rd_int _ _ _ (by rw [hrl]; simp)).trans ?_
          rw [rdL, List.flatMap_append]
          simp [ivF]
        have hcl : ((rdL getS i (l1, 0)).1.flatMap ivF ++ (List.replicate (k - i) [Value.int .i64 0]).flatten).length = k * 1 := by
          rw [List.length_append, hrl, rep_len1]
          show i * 1 + (k - i) * 1 = k * 1
          omega
        obtain ⟨⟨X1, s1⟩, hX1⟩ : ∃ r, rdL getS i (l1, 0) = r := ⟨_, rfl⟩
        rw [hX1] at hel hcl hbyt hle
        rw [hX1]
        simp only at hel hcl hbyt hle ⊢
        repeat'(first|refine kv' ?_|apply jJ|refine jE' ?_|refine jp' ?_|(apply jc;kernel_rfl)|refine kg' ?_|refine kG' ?_|refine kB' fun _=>?_|refine kA' fun _=>?_|refine kK' fun _=>?_|refine kU' ?_|(apply idxX;(iterate 2 exact rfl);(iterate 2(first|omega|(dsimp only;omega)));exact rfl)|(apply LR.ev; (· apply Ev.load (v := .slice (some ⟨bm, 0, none⟩) k k); (· exact rfl); (· refine fun w' hw' => own_cell (hw'.holds (.own b (.cells (splice cs o [.slice (some ⟨bm, 0, none⟩) k k]).toArray E (0, 0))) ?_) (splice_at ho); (repeat (first | exact mH _ _ | apply mT)); done)); (· exact rfl))|((first|refine kR' ?_ ?_|refine kQ' ?_ ?_);all_goals(intro hc;try simp only[hcs]at hc;try(exfalso;first|contradiction|omega))))
        apply LR.call_val (g := 79) (cap := [])
        · exact rfl
        · exact rfl
        intro w1 h1
        have h2 : St w F [rC bc br a1 c1 s1.1 s1.2, .own bm (.cells (X1.flatMap ivF ++ (List.replicate (k - i) [Value.int .i64 0]).flatten).toArray 3 (0, 0)), .own b (.cells (splice cs o [.slice (some ⟨bm, 0, none⟩) k k]).toArray E (0, 0))] w1 := St.join (x := codB bc none (some ⟨br, 0, none⟩) s1.2) (front (front (front h1 1 rfl rfl) 2 rfl rfl) 1 rfl rfl) rfl rfl
        have h3 : St w F [rX bc br a1 c1 s1 bm (X1.flatMap ivF ++ (List.replicate (k - i) [Value.int .i64 0]).flatten) 3, .own b (.cells (splice cs o [.slice (some ⟨bm, 0, none⟩) k k]).toArray E (0, 0))] w1 := St.join h2 rfl rfl
        refine CallsTo.mono (show CallsTo Tryz.prog 79 [.pointer (some ⟨bc, 0, none⟩), .pointer (some ⟨bm, 0 + (i : Int).toNat * 1, none⟩)] w1 _ from p92r bc br a1 c1 s1 bm _ 3 (0 + (i : Int).toNat * 1) w1 (h3.holds _ (mH _ _)) (by rw [hcl, Int.toNat_natCast]; omega) hbyt (by omega)) ?_
        rintro v w2 ⟨a3, c3, rfl, st⟩
        rw [hel] at st
        refine LR.back (front (((St.did h3 (Sel.head _ _ _) rfl st (rX_dep _ _ _ _ _ _ _ _)).part (rC_dep _ _ _ _ _ _) (Asrt.dep_own _ _)).part (Asrt.dep_own _ _) (rrA_dep _ _ _ _ _ _)) 2 rfl rfl) ?_
        clear st h3 h2 h1
        repeat'(first|refine kv' ?_|apply jJ|refine jE' ?_|refine jp' ?_|(apply jc;kernel_rfl)|refine kg' ?_|refine kG' ?_|refine kB' fun _=>?_|refine kA' fun _=>?_|refine kK' fun _=>?_|refine kU' ?_|(apply addX;(iterate 2 exact rfl);(iterate 2(first|omega|(dsimp only;omega)));exact rfl)|((first|refine kR' ?_ ?_|refine kQ' ?_ ?_);all_goals(intro hc;try simp only[hcs]at hc;try(exfalso;first|contradiction|omega))))
        refine At.again (⟨i + 1, a3, c3⟩ : Lst) (by show i + 1 ≤ _; omega) ?_ ⟨rfl, trivial⟩ (fun w' hw' => hw') (by show k - (i + 1) < k - i; omega)
        (repeat (first | exact Out.refl _ _ | exact Out.mix | (apply Out.upd; (· exact rfl)) | (apply Out.updL; (· exact rfl)) | (apply Out.mixs; (· exact rfl))))
      · have hie : i = k := by omega
        subst hie
        repeat'(first|refine kv' ?_|apply jJ|refine jE' ?_|refine jp' ?_|(apply jc;kernel_rfl)|refine kg' ?_|refine kG' ?_|refine kB' fun _=>?_|refine kA' fun _=>?_|refine kK' fun _=>?_|refine kU' ?_|((first|refine kR' ?_ ?_|refine kQ' ?_ ?_);all_goals(intro hc;try simp only[hcs]at hc;try(exfalso;first|contradiction|omega))))
        apply end0
        · exact rfl
        intro w' hS
        rw [hr1] at hS hlen
        rw [Nat.sub_self, List.replicate_zero, List.flatten_nil, List.append_nil] at hS
        refine ⟨rfl, a1, c1, _, _, lst_fin hF hS rfl, Asrt.dep_own _ _, rfl, splice_len1 ho, fun _ => ⟨some ⟨bm, 0, none⟩, i, by rw [hlen], by simp, fun w2 h2 => own_rd h2⟩⟩
  · rw [if_pos he] at hr1
    subst hr1
    repeat'(first|(apply kA;exact rfl;intro bn)|(apply Go.Hb.kK;(iterate 4 exact rfl);intro bs)|refine kv' ?_|apply jJ|refine jE' ?_|refine jp' ?_|(apply jc;kernel_rfl)|refine kg' ?_|refine kG' ?_|refine kB' fun _=>?_|refine kA' fun _=>?_|refine kK' fun _=>?_|refine kU' ?_|(apply LR.ev; (· apply Ev.load (v := .slice none 0 0); (· exact rfl); (· refine fun w' hw' => own_cell (hw'.holds (.own b (.cells cs.toArray E (0, 0))) ?_) hz; (repeat (first | exact mH _ _ | apply mT)); done)); (· exact rfl))|(apply LR.call; (· exact rfl); (intro w1 h1; have h3 : St w F [rX bc br a c s bn [Value.int .i64 0] 3, .own bs (.cells [Value.pointer (some ⟨bn, 0, none⟩)].toArray 114 (0, 0)), .own b (.cells cs.toArray E (0, 0))] w1 := St.join (x := rC bc br a c s.1 s.2) (front (front (St.join (x := codB bc none (some ⟨br, 0, none⟩) s.2) (front (front h1 3 rfl rfl) 3 rfl rfl) rfl rfl) 2 rfl rfl) 1 rfl rfl) rfl rfl; refine (p87r bc br a c s bn [Value.int .i64 0] 3 bs [0] w1 (h3.holds _ (mH _ _)) (h3.rd_of_blk memZ) (St.apart2 (x := .own bs (.cells _ 114 (0, 0))) h3 (.inr subZ) rfl bs rfl) (by simp) hB hm (by simp)).mono ?_; rintro v w2 ⟨a2, c2, rfl, st⟩; rw [hrd] at st; refine LR.back (((St.did h3 (Sel.head _ _ _) rfl st (rX_dep _ _ _ _ _ _ _ _)).part (rC_dep _ _ _ _ _ _) (Asrt.dep_own _ _)).part (Asrt.dep_own _ _) (rrA_dep _ _ _ _ _ _)) ?_; clear st h3 h1))|((first|refine kR' ?_ ?_|refine kQ' ?_ ?_);all_goals(intro hc;try simp only[hcs]at hc;try(exfalso;first|contradiction|omega))))
    apply ret0
    · exact rfl
    intro w' hS
    exact ⟨rfl, lst_none hF (s' := (l1, e1)) (a' := a2) (c' := c2) (cs' := cs) (hS.sub subZ) rfl he⟩
set_option maxHeartbeats 16000000 in
theorem p93r (bc br : Nat) (a : Option Addr) (c : Nat) (s : RS) (b : Nat) (cs : List Value) (E : Nat) (o : Nat) (most : Int) (w : World) (h : (rX bc br a c s b cs E).holds w) (ho : o < cs.length) (hz : cs[o]? = some (.slice none 0 0)) (hB : Byt s.1) (hm : s.1.length ≤ 281474976710656) (hmost : most ≤ 100) :
    CallsTo Tryz.prog 80 [.pointer (some ⟨bc, 0, none⟩), .pointer (some ⟨b, o, none⟩), .int .i64 most, .func (.func 81) #[] #[]] w fun v w' => v = .tuple #[] ∧ LstP bc br a c s b cs E (lstR getE most s).2
      (fun cs' X => ∃ sa sc, cs' = splice cs o [.slice sa (lstR getE most s).1.length sc] ∧ (sa = none → sc = 0) ∧ ∀ w2, X.holds w2 → Rd w2 sa ((lstR getE most s).1.flatMap Ent.cells)) w w' := by
  have hS0 := St.one h (both_live h) (rX_dep _ _ _ _ _ _ _ _)
  generalize hF : (rX bc br a c s b cs E).foot = F at hS0
  have hS1 : St w F [codB bc none (some ⟨br, 0, none⟩) s.2, rrA 142 [.bool true] br a c s.1, .own b (.cells cs.toArray E (0, 0))] w := (hS0.part (rC_dep _ _ _ _ _ _) (Asrt.dep_own _ _)).part (Asrt.dep_own _ _) (rrA_dep _ _ _ _ _ _)
  have hrd : rdN [0] [Value.int .i64 0] s = ([Value.int .i64 (getS s).1], (getS s).2) := rd_int [] [] s rfl
  have hgb := getS_byt hB
  have hgl := getS_le s
  have hgn := getS_nn s
  obtain ⟨r0, hr0⟩ : ∃ r, lstR getE most s = r := ⟨_, rfl⟩
  have hr1 := hr0
  rw [hr0]
  unfold lstR at hr1
  obtain ⟨⟨n, l1, e1⟩, hg⟩ : ∃ r, getS s = r := ⟨_, rfl⟩
  rw [hg] at hrd hgb hgl hgn hr1
  simp only at hrd hgb hgl hgn hr1
  refine go_in (n := 60) hS1 Tryz.func80 rfl rfl ?_
  by_cases he : e1 = 0
  · subst he
    rw [if_neg (by simp)] at hr1
    by_cases hn : most < n
    · rw [if_pos hn] at hr1
      subst hr1
      repeat'(first|(apply kA;exact rfl;intro bn)|(apply Go.Hb.kK;(iterate 4 exact rfl);intro bs)|refine kv' ?_|apply jJ|refine jE' ?_|refine jp' ?_|(apply jc;kernel_rfl)|refine kg' ?_|refine kG' ?_|refine kB' fun _=>?_|refine kA' fun _=>?_|refine kK' fun _=>?_|refine kU' ?_|(apply LR.ev; (· apply Ev.load (v := .slice none 0 0); (· exact rfl); (· refine fun w' hw' => own_cell (hw'.holds (.own b (.cells cs.toArray E (0, 0))) ?_) hz; (repeat (first | exact mH _ _ | apply mT)); done)); (· exact rfl))|(apply LR.call; (· exact rfl); (intro w1 h1; have h3 : St w F [rX bc br a c s bn [Value.int .i64 0] 3, .own bs (.cells [Value.pointer (some ⟨bn, 0, none⟩)].toArray 114 (0, 0)), .own b (.cells cs.toArray E (0, 0))] w1 := St.join (x := rC bc br a c s.1 s.2) (front (front (St.join (x := codB bc none (some ⟨br, 0, none⟩) s.2) (front (front h1 3 rfl rfl) 3 rfl rfl) rfl rfl) 2 rfl rfl) 1 rfl rfl) rfl rfl; refine (p87r bc br a c s bn [Value.int .i64 0] 3 bs [0] w1 (h3.holds _ (mH _ _)) (h3.rd_of_blk memZ) (St.apart2 (x := .own bs (.cells _ 114 (0, 0))) h3 (.inr subZ) rfl bs rfl) (by simp) hB hm (by simp)).mono ?_; rintro v w2 ⟨a2, c2, rfl, st⟩; rw [hrd] at st; refine LR.back (((St.did h3 (Sel.head _ _ _) rfl st (rX_dep _ _ _ _ _ _ _ _)).part (rC_dep _ _ _ _ _ _) (Asrt.dep_own _ _)).part (Asrt.dep_own _ _) (rrA_dep _ _ _ _ _ _)) ?_; clear st h3 h1))|((first|refine kR' ?_ ?_|refine kQ' ?_ ?_);all_goals(intro hc;try simp only[hcs]at hc;try(exfalso;first|contradiction|omega))))
      apply ret0
      · exact rfl
      intro w' hS
      exact ⟨rfl, lst_none hF (s' := (l1, 5)) (a' := a2) (c' := c2) (cs' := cs) (hS.sub subZ) rfl (by simp)⟩
    · rw [if_neg hn] at hr1
      obtain ⟨k, rfl⟩ := Int.eq_ofNat_of_zero_le hgn
      rw [Int.toNat_natCast] at hr1
      have hk : k ≤ 100 := by omega
      have hst : ∀ bm : Nat, (([Value.slice (some ⟨bm, 0, none⟩) k k].all Value.oneCell' && Nat.beq 1 1 && Nat.ble (o + 1) cs.length) = true) := fun bm => by
        have h1 : Nat.ble (o + 1) cs.length = true := by simp; omega
        show ((true && true && Nat.ble (o + 1) cs.length) = true)
        rw [h1]; rfl
      repeat'(first|(apply kA;exact rfl;intro bn)|(apply Go.Hb.kK;(iterate 4 exact rfl);intro bs)|refine kv' ?_|apply jJ|refine jE' ?_|refine jp' ?_|(apply jc;kernel_rfl)|refine kg' ?_|refine kG' ?_|refine kB' fun _=>?_|refine kA' fun _=>?_|refine kK' fun _=>?_|refine kU' ?_|(apply LR.ev; (· apply Ev.load (v := .slice none 0 0); (· exact rfl); (· refine fun w' hw' => own_cell (hw'.holds (.own b (.cells cs.toArray E (0, 0))) ?_) hz; (repeat (first | exact mH _ _ | apply mT)); done)); (· exact rfl))|(apply LR.call; (· exact rfl); (intro w1 h1; have h3 : St w F [rX bc br a c s bn [Value.int .i64 0] 3, .own bs (.cells [Value.pointer (some ⟨bn, 0, none⟩)].toArray 114 (0, 0)), .own b (.cells cs.toArray E (0, 0))] w1 := St.join (x := rC bc br a c s.1 s.2) (front (front (St.join (x := codB bc none (some ⟨br, 0, none⟩) s.2) (front (front h1 3 rfl rfl) 3 rfl rfl) rfl rfl) 2 rfl rfl) 1 rfl rfl) rfl rfl; refine (p87r bc br a c s bn [Value.int .i64 0] 3 bs [0] w1 (h3.holds _ (mH _ _)) (h3.rd_of_blk memZ) (St.apart2 (x := .own bs (.cells _ 114 (0, 0))) h3 (.inr subZ) rfl bs rfl) (by simp) hB hm (by simp)).mono ?_; rintro v w2 ⟨a2, c2, rfl, st⟩; rw [hrd] at st; refine LR.back (((St.did h3 (Sel.head _ _ _) rfl st (rX_dep _ _ _ _ _ _ _ _)).part (rC_dep _ _ _ _ _ _) (Asrt.dep_own _ _)).part (Asrt.dep_own _ _) (rrA_dep _ _ _ _ _ _)) ?_; clear st h3 h1))|(apply LR.makeSlice (m := k); (· exact rfl); (· exact rfl); (· omega); (· omega); (· exact rfl); (· exact rfl); (intro bm))|(apply kS; (· exact rfl); (· exact rfl); (· (repeat (first | exact sH _ _ _ | apply sT))); (· exact hst _))|(apply LR.ev; (· apply Ev.load (v := .slice (some ⟨bm, 0, none⟩) k k); (· exact rfl); (· refine fun w' hw' => own_cell (hw'.holds (.own b (.cells (splice cs o [.slice (some ⟨bm, 0, none⟩) k k]).toArray E (0, 0))) ?_) (splice_at ho); (repeat (first | exact mH _ _ | apply mT)); done)); (· exact rfl))|((first|refine kR' ?_ ?_|refine kQ' ?_ ?_);all_goals(intro hc;try simp only[hcs]at hc;try(exfalso;first|contradiction|omega))))
      apply CW.loop [9, 48, 49, 50, 51, 52, 53, 54, 55, 56, 57, 58, 59] (fun t : Lst => t.i ≤ k) (fun t => [(48, Value.int .i64 (t.i : Int))])
        (fun t => St w F [.own bm (.cells ((rdL getE t.i (l1, 0)).1.flatMap Ent.cells ++ (List.replicate (k - t.i) [Value.int .i64 0, .int .i64 0, .int .i64 0, .int .i64 0, .int .i64 0, .int .i64 0]).flatten).toArray 77 (0, 0)), codB bc none (some ⟨br, 0, none⟩) (rdL getE t.i (l1, 0)).2.2, rrA 142 [.bool true] br t.a t.c (rdL getE t.i (l1, 0)).2.1, .own b (.cells (splice cs o [.slice (some ⟨bm, 0, none⟩) k k]).toArray E (0, 0))]) (fun t => k - t.i)
      · exact fun w' hw' => ⟨⟨0, a2, c2⟩, Nat.zero_le _, ⟨rfl, trivial⟩, hw'.sub (L' := [.own bm (.cells (List.replicate k [Value.int .i64 0, .int .i64 0, .int .i64 0, .int .i64 0, .int .i64 0, .int .i64 0]).flatten.toArray 77 (0, 0)), codB bc none (some ⟨br, 0, none⟩) 0, rrA 142 [.bool true] br a2 c2 l1, .own b (.cells (splice cs o [.slice (some ⟨bm, 0, none⟩) k k]).toArray E (0, 0))]) subZ⟩
      rintro ⟨i, a1, c1⟩ g hi
      simp only at hi ⊢
      have hlen := rdL_len getE i (l1, 0)
      have hrl := Go.Hb.rows_len Ent.cells_len (rdL getE i (l1, 0)).1
      rw [hlen] at hrl
      have hbyt := rdL_byt (fun s => getE_byt) i (l1, 0) hgb
      have hle := rdL_le getE_le i (l1, 0)
      by_cases hlt : i < k
      · have hel : rdN (six (0 + (i : Int).toNat * 6)) ((rdL getE i (l1, 0)).1.flatMap Ent.cells ++ (List.replicate (k - i) [Value.int .i64 0, .int .i64 0, .int .i64 0, .int .i64 0, .int .i64 0, .int .i64 0]).flatten) (rdL getE i (l1, 0)).2 = ((rdL getE (i + 1) (l1, 0)).1.flatMap Ent.cells ++ (List.replicate (k - (i + 1)) [Value.int .i64 0, .int .i64 0, .int .i64 0, .int .i64 0, .int .i64 0, .int .i64 0]).flatten, (rdL getE (i + 1) (l1, 0)).2) := by
          rw [rep_succ hlt]
          refine (rd_ent _ _ _ (by rw [hrl]; simp)).trans ?_
          rw [rdL, List.flatMap_append]
          simp [Ent.cells]
        have hcl : ((rdL getE i (l1, 0)).1.flatMap Ent.cells ++ (List.replicate (k - i) [Value.int .i64 0, .int .i64 0, .int .i64 0, .int .i64 0, .int .i64 0, .int .i64 0]).flatten).length = k * 6 := by
          rw [List.length_append, hrl, rep_len6]
          show i * 6 + (k - i) * 6 = k * 6
          omega
        obtain ⟨⟨X1, s1⟩, hX1⟩ : ∃ r, rdL getE i (l1, 0) = r := ⟨_, rfl⟩
        rw [hX1] at hel hcl hbyt hle
        rw [hX1]
        simp only at hel hcl hbyt hle ⊢
        repeat'(first|refine kv' ?_|apply jJ|refine jE' ?_|refine jp' ?_|(apply jc;kernel_rfl)|refine kg' ?_|refine kG' ?_|refine kB' fun _=>?_|refine kA' fun _=>?_|refine kK' fun _=>?_|refine kU' ?_|(apply idxX;(iterate 2 exact rfl);(iterate 2(first|omega|(dsimp only;omega)));exact rfl)|(apply LR.ev; (· apply Ev.load (v := .slice (some ⟨bm, 0, none⟩) k k); (· exact rfl); (· refine fun w' hw' => own_cell (hw'.holds (.own b (.cells (splice cs o [.slice (some ⟨bm, 0, none⟩) k k]).toArray E (0, 0))) ?_) (splice_at ho); (repeat (first | exact mH _ _ | apply mT)); done)); (· exact rfl))|((first|refine kR' ?_ ?_|refine kQ' ?_ ?_);all_goals(intro hc;try simp only[hcs]at hc;try(exfalso;first|contradiction|omega))))
        apply LR.call_val (g := 81) (cap := [])
        · exact rfl
        · exact rfl
        intro w1 h1
        have h2 : St w F [rC bc br a1 c1 s1.1 s1.2, .own bm (.cells (X1.flatMap Ent.cells ++ (List.replicate (k - i) [Value.int .i64 0, .int .i64 0, .int .i64 0, .int .i64 0, .int .i64 0, .int .i64 0]).flatten).toArray 77 (0, 0)), .own b (.cells (splice cs o [.slice (some ⟨bm, 0, none⟩) k k]).toArray E (0, 0))] w1 := St.join (x := codB bc none (some ⟨br, 0, none⟩) s1.2) (front (front (front h1 1 rfl rfl) 2 rfl rfl) 1 rfl rfl) rfl rfl
        have h3 : St w F [rX bc br a1 c1 s1 bm (X1.flatMap Ent.cells ++ (List.replicate (k - i) [Value.int .i64 0, .int .i64 0, .int .i64 0, .int .i64 0, .int .i64 0, .int .i64 0]).flatten) 77, .own b (.cells (splice cs o [.slice (some ⟨bm, 0, none⟩) k k]).toArray E (0, 0))] w1 := St.join h2 rfl rfl
        refine CallsTo.mono (show CallsTo Tryz.prog 81 [.pointer (some ⟨bc, 0, none⟩), .pointer (some ⟨bm, 0 + (i : Int).toNat * 6, none⟩)] w1 _ from p94r bc br a1 c1 s1 bm _ 77 (0 + (i : Int).toNat * 6) w1 (h3.holds _ (mH _ _)) (by rw [hcl, Int.toNat_natCast]; omega) hbyt (by omega)) ?_
        rintro v w2 ⟨a3, c3, rfl, st⟩
        rw [hel] at st
        refine LR.back (front (((St.did h3 (Sel.head _ _ _) rfl st (rX_dep _ _ _ _ _ _ _ _)).part (rC_dep _ _ _ _ _ _) (Asrt.dep_own _ _)).part (Asrt.dep_own _ _) (rrA_dep _ _ _ _ _ _)) 2 rfl rfl) ?_
        clear st h3 h2 h1
        repeat'(first|refine kv' ?_|apply jJ|refine jE' ?_|refine jp' ?_|(apply jc;kernel_rfl)|refine kg' ?_|refine kG' ?_|refine kB' fun _=>?_|refine kA' fun _=>?_|refine kK' fun _=>?_|refine kU' ?_|(apply addX;(iterate 2 exact rfl);(iterate 2(first|omega|(dsimp only;omega)));exact rfl)|((first|refine kR' ?_ ?_|refine kQ' ?_ ?_);all_goals(intro hc;try simp only[hcs]at hc;try(exfalso;first|contradiction|omega))))
        refine At.again (⟨i + 1, a3, c3⟩ : Lst) (by show i + 1 ≤ _; omega) ?_ ⟨rfl, trivial⟩ (fun w' hw' => hw') (by show k - (i + 1) < k - i; omega)
        (repeat (first | exact Out.refl _ _ | exact Out.mix | (apply Out.upd; (· exact rfl)) | (apply Out.updL; (· exact rfl)) | (apply Out.mixs; (· exact rfl))))
      · have hie : i = k := by omega
        subst hie
        repeat'(first|refine kv' ?_|apply jJ|refine jE' ?_|refine jp' ?_|(apply jc;kernel_rfl)|refine kg' ?_|refine kG' ?_|refine kB' fun _=>?_|refine kA' fun _=>?_|refine kK' fun _=>?_|refine kU' ?_|((first|refine kR' ?_ ?_|refine kQ' ?_ ?_);all_goals(intro hc;try simp only[hcs]at hc;try(exfalso;first|contradiction|omega))))
        apply end0
        · exact rfl
        intro w' hS
        rw [hr1] at hS hlen
        rw [Nat.sub_self, List.replicate_zero, List.flatten_nil, List.append_nil] at hS
        refine ⟨rfl, a1, c1, _, _, lst_fin hF hS rfl, Asrt.dep_own _ _, rfl, splice_len1 ho, fun _ => ⟨some ⟨bm, 0, none⟩, i, by rw [hlen], by simp, fun w2 h2 => own_rd h2⟩⟩
  · rw [if_pos he] at hr1
    subst hr1
    repeat'(first|(apply kA;exact rfl;intro bn)|(apply Go.Hb.kK;(iterate 4 exact rfl);intro bs)|refine kv' ?_|apply jJ|refine jE' ?_|refine jp' ?_|(apply jc;kernel_rfl)|refine kg' ?_|refine kG' ?_|refine kB' fun _=>?_|refine kA' fun _=>?_|refine kK' fun _=>?_|refine kU' ?_|(apply LR.ev; (· apply Ev.load (v := .slice none 0 0); (· exact rfl); (· refine fun w' hw' => own_cell (hw'.holds (.own b (.cells cs.toArray E (0, 0))) ?_) hz; (repeat (first | exact mH _ _ | apply mT)); done)); (· exact rfl))|(apply LR.call; (· exact rfl); (intro w1 h1; have h3 : St w F [rX bc br a c s bn [Value.int .i64 0] 3, .own bs (.cells [Value.pointer (some ⟨bn, 0, none⟩)].toArray 114 (0, 0)), .own b (.cells cs.toArray E (0, 0))] w1 := St.join (x := rC bc br a c s.1 s.2) (front (front (St.join (x := codB bc none (some ⟨br, 0, none⟩) s.2) (front (front h1 3 rfl rfl) 3 rfl rfl) rfl rfl) 2 rfl rfl) 1 rfl rfl) rfl rfl; refine (p87r bc br a c s bn [Value.int .i64 0] 3 bs [0] w1 (h3.holds _ (mH _ _)) (h3.rd_of_blk memZ) (St.apart2 (x := .own bs (.cells _ 114 (0, 0))) h3 (.inr subZ) rfl bs rfl) (by simp) hB hm (by simp)).mono ?_; rintro v w2 ⟨a2, c2, rfl, st⟩; rw [hrd] at st; refine LR.back (((St.did h3 (Sel.head _ _ _) rfl st (rX_dep _ _ _ _ _ _ _ _)).part (rC_dep _ _ _ _ _ _) (Asrt.dep_own _ _)).part (Asrt.dep_own _ _) (rrA_dep _ _ _ _ _ _)) ?_; clear st h3 h1))|((first|refine kR' ?_ ?_|refine kQ' ?_ ?_);all_goals(intro hc;try simp only[hcs]at hc;try(exfalso;first|contradiction|omega))))
    apply ret0
    · exact rfl
    intro w' hS
    exact ⟨rfl, lst_none hF (s' := (l1, e1)) (a' := a2) (c' := c2) (cs' := cs) (hS.sub subZ) rfl he⟩
end Go.Proofs.YtkolmkdbjagfcaaGreat

namespace Go.Proofs.YtkolmkdbjagfcaaGreat
open Go.Hb
attribute [local irreducible] LR CW At Ev thn blk finK noG again CallsTo DW QL dnext TW DP
set_option maxRecDepth 100000

def msgR (s : RS) : Msg × RS :=
  if s.2 ≠ 0 then (zeroMsg, s)
  else if (octs 512 s.1).2.1 ≠ 0 then (zeroMsg, ((octs 512 s.1).2.2, (octs 512 s.1).2.1))
  else ((unpack (octs 512 s.1).1).1, ((octs 512 s.1).2.2, (unpack (octs 512 s.1).1).2))
set_option maxHeartbeats 8000000 in
theorem p90r (bc br : Nat) (a : Option Addr) (c : Nat) (s : RS) (b : Nat) (cs : List Value) (E : Nat) (o : Nat) (w : World) (h : (rX bc br a c s b cs E).holds w) (ho : o + 13 ≤ cs.length) (hB : Byt s.1) (hm : s.1.length ≤ 140737488355328) :
    CallsTo Tryz.prog 77 [.pointer (some ⟨bc, 0, none⟩), .pointer (some ⟨b, o, none⟩)] w fun v w' => v = .tuple #[] ∧ LstP bc br a c s b cs E (msgR s).2
      (fun cs' X => ∃ ma mc, cs' = splice cs o ((msgR s).1.cells ma mc) ∧ (ma = none → mc = 0) ∧ (∀ w2, X.holds w2 → Rd w2 ma (bv (msgR s).1.body)) ∧ X = osl (.slice ma (msgR s).1.body.length mc) 5 1 (msgR s).1.body.length (bv (msgR s).1.body)) w w' := by
  have hS0 := St.one h (both_live h) (rX_dep _ _ _ _ _ _ _ _)
  generalize hF : (rX bc br a c s b cs E).foot = F at hS0
  have hS1 : St w F [codB bc none (some ⟨br, 0, none⟩) s.2, rrA 142 [.bool true] br a c s.1, .own b (.cells cs.toArray E (0, 0))] w := (hS0.part (rC_dep _ _ _ _ _ _) (Asrt.dep_own _ _)).part (Asrt.dep_own _ _) (rrA_dep _ _ _ _ _ _)
  obtain ⟨r0, hr0⟩ : ∃ r, msgR s = r := ⟨_, rfl⟩
  have hr1 := hr0
  rw [hr0]
  unfold msgR at hr1
  obtain ⟨l, e⟩ := s
  simp only at hr1 hS1 hB hm
  refine go_in (n := 65) hS1 Tryz.func77 rfl rfl ?_
  by_cases he : e = 0
  · subst he
    rw [if_neg (by simp)] at hr1
    have hof := @octs_facts 512 l
    obtain ⟨⟨ob, oe, orr⟩, hoc⟩ : ∃ r, octs 512 l = r := ⟨_, rfl⟩
    rw [hoc] at hr1 hof
    simp only at hr1 hof
    by_cases ho1 : oe = 0
    · subst ho1
      rw [if_neg (by simp)] at hr1
      have hof := hof rfl
      have hob : Byt ob := fun x hx => hB x (hof.2 x hx)
      obtain ⟨⟨m, e2⟩, hu⟩ : ∃ r, unpack ob = r := ⟨_, rfl⟩
      rw [hu] at hr1
      simp only at hr1
      subst hr1
      have hst : ∀ (ma : Option Addr) (mc : Nat), (((m.cells ma mc).all Value.oneCell' && Nat.beq (m.cells ma mc).length 13 && Nat.ble (o + (m.cells ma mc).length) cs.length) = true) := fun ma mc => by
        have h1 : Nat.ble (o + 13) cs.length = true := by simpa using ho
        show ((true && true && Nat.ble (o + 13) cs.length) = true)
        rw [h1]; rfl
      repeat'(first|refine kv' ?_|apply jJ|refine jE' ?_|refine jp' ?_|(apply jc;kernel_rfl)|refine kg' ?_|refine kG' ?_|refine kB' fun _=>?_|refine kA' fun _=>?_|refine kK' fun _=>?_|refine kU' ?_|(apply LR.call; (· exact rfl); (intro w1 h1; refine CallsTo.mono (show CallsTo Tryz.prog 109 [.pointer (some ⟨br, 0, none⟩), .int .i64 512] w1 _ from c67 br a c l 512 w1 (h1.holds (rrA 142 [.bool true] br a c l) memZ) hB hm) ?_; rw [hoc]; rintro v w2 ⟨a1, c1, a2, c2, hv, st⟩; replace hv : v = .tuple [.slice a2 ob.length c2, .int .i64 0].toArray := hv; subst hv; have h5 : St w F [rrA 142 [.bool true] br a1 c1 orr, osl (.slice a2 ob.length c2) 5 1 ob.length (bv ob), codB bc none (some ⟨br, 0, none⟩) 0, .own b (.cells cs.toArray E (0, 0))] w2 := (front (St.did h1 selZ rfl (St.step (a := rrA 142 [.bool true] br a c l) (St.join st rfl rfl) rfl) (both_dep (rrA_dep _ _ _ _ _ _) (osl.dep _ _ _ _ _))) 1 rfl rfl).part (rrA_dep _ _ _ _ _ _) (osl.dep _ _ _ _ _); refine LR.back h5 ?_; clear st h1 h5))|(apply LR.call; (· exact rfl); (intro w1 h1; refine CallsTo.mono (show CallsTo Tryz.prog 110 [.slice a2 ob.length c2] w1 _ from d23 a2 c2 ob w1 (h1.rd_of_own memZ) (fun e => (ownsRow_some (h1.holds (osl (.slice a2 ob.length c2) 5 1 ob.length (bv ob)) memZ) e).2) (by omega) hob) ?_; rw [hu]; rintro v w2 ⟨a3, c3, hv, hn⟩; replace hv : v = .tuple [m.val a3 c3, .int .i64 e2].toArray := hv; subst hv; replace hn : NewSl w1 w2 (.slice a3 m.body.length c3) 5 1 m.body.length (bv m.body) := hn; refine LR.back (h1.newSl hn) ?_; clear hn h1))|(apply kS (vs := m.cells a3 c3); (· exact rfl); (· exact rfl); (· (repeat (first | exact sH _ _ _ | apply sT))); (· exact hst _ _))|((first|refine kR' ?_ ?_|refine kQ' ?_ ?_);all_goals(intro hc;try simp only[hcs]at hc;try(exfalso;first|contradiction|omega))))
      apply end0
      · exact rfl
      intro w' hS
      have h1 : St w F [osl (.slice a3 m.body.length c3) 5 1 m.body.length (bv m.body), codB bc none (some ⟨br, 0, none⟩) e2, rrA 142 [.bool true] br a1 c1 orr, .own b (.cells (splice cs o (m.cells a3 c3)).toArray E (0, 0))] w' := (front (front (hS.sub (L' := [osl (.slice a3 m.body.length c3) 5 1 m.body.length (bv m.body), rrA 142 [.bool true] br a1 c1 orr, codB bc none (some ⟨br, 0, none⟩) e2, .own b (.cells (splice cs o (m.cells a3 c3)).toArray E (0, 0))]) subZ) 2 rfl rfl) 1 rfl rfl)
      refine ⟨rfl, a1, c1, _, _, lst_fin (s' := (orr, e2)) hF h1 rfl, osl.dep _ _ _ _ _, rfl, ?_, fun _ => ⟨a3, c3, rfl, fun e => (ownsRow_some h1.g0 e).2, fun w2 h2 => ownsRow_rd h2, rfl⟩⟩
      unfold splice
      simp only [List.length_append, List.length_take, List.length_drop]
      show min o cs.length + 13 + (cs.length - (o + 13)) = cs.length
      omega
    · rw [if_pos ho1] at hr1
      subst hr1
      repeat'(first|refine kv' ?_|apply jJ|refine jE' ?_|refine jp' ?_|(apply jc;kernel_rfl)|refine kg' ?_|refine kG' ?_|refine kB' fun _=>?_|refine kA' fun _=>?_|refine kK' fun _=>?_|refine kU' ?_|(apply LR.call; (· exact rfl); (intro w1 h1; refine CallsTo.mono (show CallsTo Tryz.prog 109 [.pointer (some ⟨br, 0, none⟩), .int .i64 512] w1 _ from c67 br a c l 512 w1 (h1.holds (rrA 142 [.bool true] br a c l) memZ) hB hm) ?_; rw [hoc]; rintro v w2 ⟨a1, c1, a2, c2, hv, st⟩; replace hv : v = .tuple [.slice a2 ob.length c2, .int .i64 oe].toArray := hv; subst hv; have h5 : St w F [rrA 142 [.bool true] br a1 c1 orr, osl (.slice a2 ob.length c2) 5 1 ob.length (bv ob), codB bc none (some ⟨br, 0, none⟩) 0, .own b (.cells cs.toArray E (0, 0))] w2 := (front (St.did h1 selZ rfl (St.step (a := rrA 142 [.bool true] br a c l) (St.join st rfl rfl) rfl) (both_dep (rrA_dep _ _ _ _ _ _) (osl.dep _ _ _ _ _))) 1 rfl rfl).part (rrA_dep _ _ _ _ _ _) (osl.dep _ _ _ _ _); refine LR.back h5 ?_; clear st h1 h5))|((first|refine kR' ?_ ?_|refine kQ' ?_ ?_);all_goals(intro hc;try simp only[hcs]at hc;try(exfalso;first|contradiction|omega))))
      apply end0
      · exact rfl
      intro w' hS
      have h1 : St w F [codB bc none (some ⟨br, 0, none⟩) oe, rrA 142 [.bool true] br a1 c1 orr, .own b (.cells cs.toArray E (0, 0))] w' := front (hS.sub (L' := [rrA 142 [.bool true] br a1 c1 orr, codB bc none (some ⟨br, 0, none⟩) oe, .own b (.cells cs.toArray E (0, 0))]) subZ) 1 rfl rfl
      exact ⟨rfl, lst_none hF (s' := (orr, oe)) (a' := a1) (c' := c1) (cs' := cs) h1 rfl ho1⟩
  · rw [if_pos he] at hr1
    subst hr1
    repeat'(first|refine kv' ?_|apply jJ|refine jE' ?_|refine jp' ?_|(apply jc;kernel_rfl)|refine kg' ?_|refine kG' ?_|refine kB' fun _=>?_|refine kA' fun _=>?_|refine kK' fun _=>?_|refine kU' ?_|((first|refine kR' ?_ ?_|refine kQ' ?_ ?_);all_goals(intro hc;try simp only[hcs]at hc;try(exfalso;first|contradiction|omega))))
    apply ret0
    · exact rfl
    intro w' hS
    exact ⟨rfl, lst_none hF (s' := (l, e)) (a' := a) (c' := c) (cs' := cs) hS rfl he⟩
end Go.Proofs.YtkolmkdbjagfcaaGreat

namespace Go.Proofs.YtkolmkdbjagfcaaGreat
open Go.Hb
attribute [local irreducible] LR CW At Ev thn blk finK noG again CallsTo DW QL dnext TW DP
set_option maxRecDepth 100000

def zTkn : Tkn := ⟨0, 0, 0, 0, 0, 0, 0, 0, []⟩
def zCmt : Cmt := ⟨0, 0, 0, 0, []⟩
def zPkt : Pkt := ⟨0, 0, zeroDat, zTkn, 0, 0, 0, zCmt, 0, 0, 0⟩
def zA : PAd := ⟨none, 0, none, 0, none, 0⟩
def gV (s : RS) : Int := (getS s).1
def gT (s : RS) : RS := (getS s).2
def startS (k : Int) (s : RS) : RS := if s.2 = 0 ∧ ¬ (1 ≤ k ∧ k ≤ 5) then (s.1, 4) else s
def parseK (k tt : Int) (u : RS) : Pkt × RS :=
  if k = 1 then (({ zPkt with kind := k, to := tt, d := { zeroDat with rseq := gV u, rrep := gV (gT u), seq := gV (gT (gT u)), sender := gV (gT (gT (gT u))), stamp := gV (gT (gT (gT (gT u)))), msg := (msgR (gT (gT (gT (gT (gT u)))))).1 } } : Pkt), (msgR (gT (gT (gT (gT (gT u)))))).2)
  else if k = 2 then (({ zPkt with kind := k, to := tt, t := { zTkn with r1 := gV u, r2 := gV (gT u), hop := gV (gT (gT u)), seq := gV (gT (gT (gT u))), aru := gV (gT (gT (gT (gT u)))), low := gV (gT (gT (gT (gT (gT u))))), stamp := gV (gT (gT (gT (gT (gT (gT u)))))), idle := gV (gT (gT (gT (gT (gT (gT (gT u))))))), ask := (lstR getS 16 (gT (gT (gT (gT (gT (gT (gT (gT u))))))))).1 } } : Pkt), (lstR getS 16 (gT (gT (gT (gT (gT (gT (gT (gT u))))))))).2)
  else if k = 3 then (({ zPkt with kind := k, to := tt, j1 := gV u, j2 := gV (gT u), j3 := gV (gT (gT u)) } : Pkt), (gT (gT (gT u))))
  else if k = 4 then (({ zPkt with kind := k, to := tt, c := { zCmt with r1 := gV u, r2 := gV (gT u), mem := gV (gT (gT u)), hop := gV (gT (gT (gT u))), ents := (lstR getE 8 (gT (gT (gT (gT u))))).1 } } : Pkt), (lstR getE 8 (gT (gT (gT (gT u))))).2)
  else if k = 5 then (({ zPkt with kind := k, to := tt, b1 := gV u, b2 := gV (gT u), b3 := gV (gT (gT u)) } : Pkt), (gT (gT (gT u))))
  else (({ zPkt with kind := k, to := tt } : Pkt), u)
def parseP (s : RS) : Pkt × RS := parseK (gV s) (gV (startS (gV s) (gT s))) (gT (startS (gV s) (gT s)))
theorem rd_cons {cs : List Value} {o : Nat} {os : List Nat} {s : RS} (h : cs[o]? = some (.int .i64 0)) : rdN (o :: os) cs s = rdN os (cs.set o (.int .i64 (gV s))) (gT s) := by
  unfold gV gT
  by_cases he : s.2 = 0
  · rw [rdN, if_neg (by simp [he])]
  · rw [rdN_err _ _ _ he, getS_err he]
    simp only
    have e : cs.set o (.int .i64 0) = cs := by
      apply List.ext_getElem?
      intro i
      rw [List.getElem?_set]
      split
      · rename_i hi
        subst hi
        rw [h]
        have := (List.getElem?_eq_some_iff.1 h).1
        rw [if_pos this]
      · rfl
    rw [e, rdN_err _ _ _ he]
structure PktM (w : World) (p : Pkt) (A : PAd) : Prop where
  hd : Rd w A.da (bv p.d.msg.body)
  hdz : A.da = none → A.dc = 0
  ht : Rd w A.ta (iv p.t.ask)
  htz : A.ta = none → A.tc = 0
  hc : Rd w A.ca (p.c.ents.flatMap Ent.cells)
  hcz : A.ca = none → A.cc = 0
def BodX (X : Asrt) (p : Pkt) (A : PAd) : Prop := p.d.msg.body ≠ [] → X = osl (.slice A.da p.d.msg.body.length A.dc) 5 1 p.d.msg.body.length (bv p.d.msg.body)
theorem rX_cell {bc br : Nat} {a : Option Addr} {c : Nat} {s : RS} {b : Nat} {cs : List Value} {E j : Nat} {v : Value} {w : World} (h : (rX bc br a c s b cs E).holds w) (hj : cs[j]? = some v) : w.cell? ⟨b, j, none⟩ = some v := own_cell h.2.1 hj
theorem rX_e {bc br : Nat} {a : Option Addr} {c : Nat} {s : RS} {b : Nat} {cs : List Value} {E : Nat} {w : World} (h : (rX bc br a c s b cs E).holds w) : w.cell? ⟨bc, 2, none⟩ = some (.int .i64 s.2) := cell_own h.1.1
theorem lst_end {w w' : World} {F : Nat → Prop} {bc br : Nat} {a a' : Option Addr} {c c' : Nat} {s s' : RS} {b : Nat} {cs cs' : List Value} {E : Nat} {good : List Value → Asrt → Prop} {R : List Asrt} (hF : (rX bc br a c s b cs E).foot = F) (hS : St w F (rX bc br a' c' s' b cs' E :: R) w') (hl : cs'.length = cs.length) (hg : s'.2 = 0 → good cs' (osl (.slice none 0 0) 3 1 0 (iv []))) : LstP bc br a c s b cs E s' good w w' := by
  subst hF
  exact ⟨a', c', cs', _, (St.join (front (hS.nilsl 3 1) 1 rfl rfl) rfl rfl).step rfl, osl.dep _ _ _ _ _, rfl, hl, hg⟩
theorem lst_end2 {w w' : World} {F : Nat → Prop} {bc br : Nat} {a a' : Option Addr} {c c' : Nat} {s s' : RS} {b : Nat} {cs cs' : List Value} {E : Nat} {good : List Value → Asrt → Prop} {X : Asrt} {R : List Asrt} (hF : (rX bc br a c s b cs E).foot = F) (hS : St w F (both (rX bc br a' c' s' b cs' E) X :: R) w') (hd : X.dep) (hx : X.excl = true) (hl : cs'.length = cs.length) (hg : s'.2 = 0 → good cs' X) : LstP bc br a c s b cs E s' good w w' := by
  subst hF
  exact ⟨a', c', cs', X, hS.step (by rfl), hd, hx, hl, hg⟩
set_option maxHeartbeats 16000000 in
theorem p55r (bc br : Nat) (a : Option Addr) (c : Nat) (s : RS) (bp : Nat) (w : World) (h : (rX bc br a c s bp (zPkt.cells zA) 42).holds w) (hB : Byt s.1) (hm : s.1.length ≤ 140737488355328) :
    CallsTo Tryz.prog 26 [.pointer (some ⟨bc, 0, none⟩), .pointer (some ⟨bp, 0, none⟩)] w fun v w' => v = .tuple #[] ∧ LstP bc br a c s bp (zPkt.cells zA) 42 (parseP s).2
      (fun cs' X => ∃ A, cs' = (parseP s).1.cells A ∧ (∀ w2, X.holds w2 → PktM w2 (parseP s).1 A) ∧ BodX X (parseP s).1 A) w w' := by
  have hS0 := St.one h (both_live h) (rX_dep _ _ _ _ _ _ _ _)
  generalize hF : (rX bc br a c s bp (zPkt.cells zA) 42).foot = F at hS0
  have hB0 : Byt s.1 ∧ s.1.length ≤ 281474976710656 := ⟨hB, by omega⟩
  have BB : ∀ (os : List Nat) (cs : List Value) {x : RS}, Byt x.1 ∧ x.1.length ≤ 140737488355328 → Byt (rdN os cs x).2.1 ∧ (rdN os cs x).2.1.length ≤ 140737488355328 := fun os cs x hx => ⟨rdN_byt os cs x hx.1, Nat.le_trans (rdN_le os cs x) hx.2⟩
  have W : ∀ {x : RS}, Byt x.1 ∧ x.1.length ≤ 140737488355328 → Byt x.1 ∧ x.1.length ≤ 281474976710656 := fun hx => ⟨hx.1, by omega⟩
  obtain ⟨r0, hr0⟩ : ∃ r, parseP s = r := ⟨_, rfl⟩
  have hr1 := hr0
  rw [hr0]
  unfold parseP at hr1
  obtain ⟨k, hk⟩ : ∃ k, gV s = k := ⟨_, rfl⟩
  obtain ⟨⟨l0, e0⟩, hs0⟩ : ∃ r, gT s = r := ⟨_, rfl⟩
  have q0 : rdN [0] (zPkt.cells zA) s = ((({ zPkt with kind := k } : Pkt).cells zA), (l0, e0)) := (rd_cons rfl).trans (by rw [hk, hs0]; rfl)
  have b0 := BB [0] (zPkt.cells zA) ⟨hB, hm⟩
  rw [q0] at b0
  rw [hk, hs0] at hr1
  refine go_in (n := 158) hS0 Tryz.func26 rfl rfl ?_
  by_cases hbad : e0 = 0 ∧ ¬ (1 ≤ k ∧ k ≤ 5)
  · obtain ⟨he, hkk⟩ := hbad
    subst he
    have e1 : startS k (l0, 0) = (l0, 4) := by unfold startS; rw [if_pos ⟨rfl, hkk⟩]
    have e2 : getS (l0, 4) = (0, (l0, 4)) := getS_err (by simp)
    rw [e1] at hr1
    unfold gV gT parseK at hr1
    rw [e2, if_neg (by omega), if_neg (by omega), if_neg (by omega), if_neg (by omega), if_neg (by omega)] at hr1
    subst hr1
    repeat'(first|(apply Go.Hb.kK;(iterate 4 exact rfl);intro bs)|refine kv' ?_|apply jJ|refine jE' ?_|refine jp' ?_|(apply jc;kernel_rfl)|refine kg' ?_|refine kG' ?_|refine kB' fun _=>?_|refine kA' fun _=>?_|refine kK' fun _=>?_|refine kU' ?_|(apply LR.call; (· exact rfl); (intro w1 h1; first | (refine (p87r bc br a c s bp (zPkt.cells zA) 42 bs [0] w1 (h1.holds (rX bc br _ _ s bp (zPkt.cells zA) 42) memZ) (h1.rd_of_blk memZ) (St.apart2 (x := .own bs (.cells _ 114 (0, 0))) h1 (.inl subZ) rfl bs rfl) (fun o ho => (show ∀ o ∈ ([0] : List Nat), o < 40 by decide) o ho) hB0.1 hB0.2 (by simp)).mono ?_; rintro v w2 ⟨a2, c2, rfl, st⟩; rw [q0] at st; refine LR.back (St.did h1 selZ rfl st (rX_dep _ _ _ _ _ _ _ _)) ?_; clear st h1)))|(apply LR.ev; (· apply Ev.load (v := .int .i64 0); (· exact rfl); (· intro w' hw'; apply rX_e (br := br) (s := (l0, 0)) (b := bp) (cs := (({ zPkt with kind := k } : Pkt).cells zA)) (E := 42); apply hw'.holds; (repeat (first | exact mH _ _ | apply mT)); done)); (· exact rfl))|(apply LR.ev; (· apply Ev.load (v := .int .i64 k); (· exact rfl); (· intro w' hw'; apply rX_cell (br := br) (s := (l0, 0)) (b := bp) (cs := (({ zPkt with kind := k } : Pkt).cells zA)) (E := 42) (j := 0); (· apply hw'.holds; (repeat (first | exact mH _ _ | apply mT)); done); (· exact rfl))); (· exact rfl))|(apply kq; (· exact rfl); (· intro w1 h1; exact CallsTo.q (p88 k 1 5 w1) h1))|((first|refine kR' ?_ ?_|refine kQ' ?_ ?_);all_goals(intro hc;try simp only[hcs]at hc;try(exfalso;first|contradiction|omega))))
    refine LR.sub (D := St w F [codB bc none (some ⟨br, 0, none⟩) 0, rrA 142 [.bool true] br a2 c2 l0, .own bp (.cells (({ zPkt with kind := k } : Pkt).cells zA).toArray 42 (0, 0))]) (fun w' hw' => ((hw'.sub (L' := [rX bc br a2 c2 (l0, 0) bp (({ zPkt with kind := k } : Pkt).cells zA) 42]) subZ).part (rC_dep _ _ _ _ _ _) (Asrt.dep_own _ _)).part (Asrt.dep_own _ _) (rrA_dep _ _ _ _ _ _)) ?_
    repeat'(first|(apply Go.Hb.kK;(iterate 4 exact rfl);intro bs2)|refine kv' ?_|apply jJ|refine jE' ?_|refine jp' ?_|(apply jc;kernel_rfl)|refine kg' ?_|refine kG' ?_|refine kB' fun _=>?_|refine kA' fun _=>?_|refine kK' fun _=>?_|refine kU' ?_|((first|refine kR' ?_ ?_|refine kQ' ?_ ?_);all_goals(intro hc;try simp only[hcs]at hc;try(exfalso;first|contradiction|omega))))
    apply LR.call
    · exact rfl
    intro w1 h1
    have h3 : St w F [rX bc br a2 c2 (l0, 4) bp (({ zPkt with kind := k } : Pkt).cells zA) 42, .own bs2 (.cells [Value.pointer (some ⟨bp, 1, none⟩)].toArray 114 (0, 0))] w1 := front (St.join (x := rC bc br a2 c2 l0 4) (front (front (St.join (x := codB bc none (some ⟨br, 0, none⟩) 4) (front (front h1 2 rfl rfl) 2 rfl rfl) rfl rfl) 2 rfl rfl) 1 rfl rfl) rfl rfl) 0 rfl rfl
    refine (p87r bc br a2 c2 (l0, 4) bp (({ zPkt with kind := k } : Pkt).cells zA) 42 bs2 [1] w1 (h3.holds _ (mH _ _)) (h3.rd_of_blk memZ) (St.apart2 (x := .own bs2 (.cells _ 114 (0, 0))) h3 (.inr subZ) rfl bs2 rfl) (fun o ho => (show ∀ o ∈ ([1] : List Nat), o < 40 by decide) o ho) (W b0).1 (W b0).2 (by simp)).mono ?_
    rintro v w2 ⟨a3, c3, rfl, st⟩
    rw [rdN_err _ _ _ (by simp)] at st
    refine LR.back (St.did h3 (Sel.head _ _ _) rfl st (rX_dep _ _ _ _ _ _ _ _)) ?_
    clear st h3 h1
    repeat'(first|refine kv' ?_|apply jJ|refine jE' ?_|refine jp' ?_|(apply jc;kernel_rfl)|refine kg' ?_|refine kG' ?_|refine kB' fun _=>?_|refine kA' fun _=>?_|refine kK' fun _=>?_|refine kU' ?_|(apply LR.ev; (· apply Ev.load (v := .int .i64 k); (· exact rfl); (· intro w' hw'; apply rX_cell (br := br) (s := (l0, 4)) (b := bp) (cs := (({ zPkt with kind := k } : Pkt).cells zA)) (E := 42) (j := 0); (· apply hw'.holds; (repeat (first | exact mH _ _ | apply mT)); done); (· exact rfl))); (· exact rfl))|((first|refine kR' ?_ ?_|refine kQ' ?_ ?_);all_goals(intro hc;try simp only[hcs]at hc;try(exfalso;first|contradiction|omega))))
    apply end0
    · exact rfl
    intro w' hS
    exact ⟨rfl, lst_end hF hS rfl (fun h0 => absurd h0 (by simp))⟩
  · have e1 : startS k (l0, e0) = (l0, e0) := by unfold startS; rw [if_neg hbad]
    rw [e1] at hr1
    obtain ⟨tt, htt⟩ : ∃ k, gV (l0, e0) = k := ⟨_, rfl⟩
    obtain ⟨u, hu⟩ : ∃ r, gT (l0, e0) = r := ⟨_, rfl⟩
    rw [htt, hu] at hr1
    have q1 : rdN [1] (({ zPkt with kind := k } : Pkt).cells zA) (l0, e0) = ((({ zPkt with kind := k, to := tt } : Pkt).cells zA), u) := (rd_cons rfl).trans (by rw [htt, hu]; rfl)
    have b1 := BB [1] (({ zPkt with kind := k } : Pkt).cells zA) b0
    rw [q1] at b1
    unfold parseK at hr1
    by_cases hk1 : k = 1
    · rw [if_pos hk1] at hr1
      subst hr1
      have q2 : rdN [2, 3] (({ zPkt with kind := k, to := tt } : Pkt).cells zA) u = ((({ zPkt with kind := k, to := tt, d := { zeroDat with rseq := gV u, rrep := gV (gT u) } } : Pkt).cells zA), (gT (gT u))) := (rd_cons rfl).trans ((rd_cons rfl).trans (rfl))
      have b2 := BB [2, 3] (({ zPkt with kind := k, to := tt } : Pkt).cells zA) b1
      rw [q2] at b2
      have q3 : rdN [4, 5, 6] (({ zPkt with kind := k, to := tt, d := { zeroDat with rseq := gV u, rrep := gV (gT u) } } : Pkt).cells zA) (gT (gT u)) = ((({ zPkt with kind := k, to := tt, d := { zeroDat with rseq := gV u, rrep := gV (gT u), seq := gV (gT (gT u)), sender := gV (gT (gT (gT u))), stamp := gV (gT (gT (gT (gT u)))) } } : Pkt).cells zA), (gT (gT (gT (gT (gT u)))))) := (rd_cons rfl).trans ((rd_cons rfl).trans ((rd_cons rfl).trans (rfl)))
      have b3 := BB [4, 5, 6] (({ zPkt with kind := k, to := tt, d := { zeroDat with rseq := gV u, rrep := gV (gT u) } } : Pkt).cells zA) b2
      rw [q3] at b3
      repeat'(first|(apply CW.reg_held (St w F []))|(apply Go.Hb.kK;(iterate 4 exact rfl);intro bs)|refine kv' ?_|apply jJ|refine jE' ?_|refine jp' ?_|(apply jc;kernel_rfl)|refine kg' ?_|refine kG' ?_|refine kB' fun _=>?_|refine kA' fun _=>?_|refine kK' fun _=>?_|refine kU' ?_|(apply LR.ev; (· apply Ev.load (v := .int .i64 e0); (· exact rfl); (· intro w' hw'; apply rX_e (br := br) (s := (l0, e0)) (b := bp) (cs := (({ zPkt with kind := k } : Pkt).cells zA)) (E := 42); apply hw'.holds; (repeat (first | exact mH _ _ | apply mT)); done)); (· exact rfl))|(apply LR.ev; (· apply Ev.load (v := .int .i64 k); (· exact rfl); (· intro w' hw'; apply rX_cell (br := br) (s := (l0, e0)) (b := bp) (cs := (({ zPkt with kind := k } : Pkt).cells zA)) (E := 42) (j := 0); (· apply hw'.holds; (repeat (first | exact mH _ _ | apply mT)); done); (· exact rfl))); (· exact rfl))|(apply LR.ev; (· apply Ev.load (v := .int .i64 k); (· exact rfl); (· intro w' hw'; apply rX_cell (br := br) (s := u) (b := bp) (cs := (({ zPkt with kind := k, to := tt } : Pkt).cells zA)) (E := 42) (j := 0); (· apply hw'.holds; (repeat (first | exact mH _ _ | apply mT)); done); (· exact rfl))); (· exact rfl))|(apply kq; (· exact rfl); (· intro w1 h1; exact CallsTo.q (p88 k 1 5 w1) h1))|(apply LR.call; (· exact rfl); (intro w1 h1; first | (refine (p87r bc br _ _ s bp (zPkt.cells zA) 42 bs [0] w1 (h1.holds (rX bc br _ _ s bp (zPkt.cells zA) 42) memZ) (h1.rd_of_blk memZ) (St.apart2 (x := .own bs (.cells _ 114 (0, 0))) h1 (.inl subZ) rfl bs rfl) (fun o ho => (show ∀ o ∈ ([0] : List Nat), o < 40 by decide) o ho) hB0.1 hB0.2 (by simp)).mono ?_; rintro v w2 ⟨_, _, rfl, st⟩; rw [q0] at st; refine LR.back (St.did h1 selZ rfl st (rX_dep _ _ _ _ _ _ _ _)) ?_; clear st h1) | (refine (p87r bc br _ _ (l0, e0) bp (({ zPkt with kind := k } : Pkt).cells zA) 42 bs [1] w1 (h1.holds (rX bc br _ _ (l0, e0) bp (({ zPkt with kind := k } : Pkt).cells zA) 42) memZ) (h1.rd_of_blk memZ) (St.apart2 (x := .own bs (.cells _ 114 (0, 0))) h1 (.inl subZ) rfl bs rfl) (fun o ho => (show ∀ o ∈ ([1] : List Nat), o < 40 by decide) o ho) (W b0).1 (W b0).2 (by simp)).mono ?_; rintro v w2 ⟨_, _, rfl, st⟩; rw [q1] at st; refine LR.back (St.did h1 selZ rfl st (rX_dep _ _ _ _ _ _ _ _)) ?_; clear st h1) | (refine (p89r bc br _ _ u bp (({ zPkt with kind := k, to := tt } : Pkt).cells zA) 42 2 w1 (h1.holds (rX bc br _ _ u bp (({ zPkt with kind := k, to := tt } : Pkt).cells zA) 42) memZ) (by show 2 + 1 < 40; decide) (W b1).1 (W b1).2).mono ?_; rintro v w2 ⟨_, _, rfl, st⟩; rw [q2] at st; refine LR.back (St.did h1 selZ rfl st (rX_dep _ _ _ _ _ _ _ _)) ?_; clear st h1)))|((first|refine kR' ?_ ?_|refine kQ' ?_ ?_);all_goals(intro hc;try simp only[hcs]at hc;try(exfalso;first|contradiction|omega))))
      all_goals
        all_goals (
          apply DW.quiet [0, 1, 2, 3, 4, 5, 6, 7, 8, 9]
          · decide +kernel
          · first | exact fun _ h => h | exact fun _ h => St.sub h subZ
          repeat'(first|refine yv' ?_|refine uv' ?_|refine un' ?_|(refine us' ?_ ?_;all_goals(intro hc;try simp only[hcs]at hc;try(exfalso;first|contradiction|omega)))|apply QL.nil)
          all_goals (show DW _ _ _ _ _ _ _ _))
        all_goals (
          apply DW.loud 10
          · exact rfl
          · decide +kernel
          repeat'(first|(apply Go.Hb.kK;(iterate 4 exact rfl);intro bs)|refine kg' ?_|refine kG' ?_|apply kM|refine kv' ?_|refine kK' fun _=>?_|refine kU' ?_|refine kB' fun _=>?_|refine kA' fun _=>?_|(apply LR.call; (· exact rfl); (intro w1 h1; first | (refine (p87r bc br _ _ (gT (gT u)) bp (({ zPkt with kind := k, to := tt, d := { zeroDat with rseq := gV u, rrep := gV (gT u) } } : Pkt).cells zA) 42 bs [4, 5, 6] w1 (h1.holds (rX bc br _ _ (gT (gT u)) bp (({ zPkt with kind := k, to := tt, d := { zeroDat with rseq := gV u, rrep := gV (gT u) } } : Pkt).cells zA) 42) memZ) (h1.rd_of_blk memZ) (St.apart2 (x := .own bs (.cells _ 114 (0, 0))) h1 (.inl subZ) rfl bs rfl) (fun o ho => (show ∀ o ∈ ([4, 5, 6] : List Nat), o < 40 by decide) o ho) (W b2).1 (W b2).2 (by simp)).mono ?_; rintro v w2 ⟨_, _, rfl, st⟩; rw [q3] at st; refine LR.back (St.did h1 selZ rfl st (rX_dep _ _ _ _ _ _ _ _)) ?_; clear st h1))))
          all_goals (refine At.stage_same (fun _ h => St.sub h subZ) ?_))
        all_goals (
          apply DW.loud 11
          · exact rfl
          · decide +kernel
          repeat'(first|(apply Go.Hb.kK;(iterate 4 exact rfl);intro bs)|refine kg' ?_|refine kG' ?_|apply kM|refine kv' ?_|refine kK' fun _=>?_|refine kU' ?_|refine kB' fun _=>?_|refine kA' fun _=>?_|(apply LR.call; (· exact rfl); (intro w1 h1; first | (refine (p87r bc br _ _ (gT (gT u)) bp (({ zPkt with kind := k, to := tt, d := { zeroDat with rseq := gV u, rrep := gV (gT u) } } : Pkt).cells zA) 42 bs [4, 5, 6] w1 (h1.holds (rX bc br _ _ (gT (gT u)) bp (({ zPkt with kind := k, to := tt, d := { zeroDat with rseq := gV u, rrep := gV (gT u) } } : Pkt).cells zA) 42) memZ) (h1.rd_of_blk memZ) (St.apart2 (x := .own bs (.cells _ 114 (0, 0))) h1 (.inl subZ) rfl bs rfl) (fun o ho => (show ∀ o ∈ ([4, 5, 6] : List Nat), o < 40 by decide) o ho) (W b2).1 (W b2).2 (by simp)).mono ?_; rintro v w2 ⟨_, _, rfl, st⟩; rw [q3] at st; refine LR.back (St.did h1 selZ rfl st (rX_dep _ _ _ _ _ _ _ _)) ?_; clear st h1))))
          all_goals (refine At.stage_same (fun _ h => St.sub h subZ) ?_))
        all_goals (first | (apply DW.done_thn; (· decide +kernel)) | (apply DW.done; (· decide +kernel)))
        repeat'(first|refine kv' ?_|apply jJ|refine jE' ?_|refine jp' ?_|(apply jc;kernel_rfl)|refine kg' ?_|refine kG' ?_|refine kB' fun _=>?_|refine kA' fun _=>?_|refine kK' fun _=>?_|refine kU' ?_|(apply LR.call; (· exact rfl); (intro w1 h1; first | (refine (p90r bc br _ _ (gT (gT (gT (gT (gT u))))) bp (({ zPkt with kind := k, to := tt, d := { zeroDat with rseq := gV u, rrep := gV (gT u), seq := gV (gT (gT u)), sender := gV (gT (gT (gT u))), stamp := gV (gT (gT (gT (gT u)))) } } : Pkt).cells zA) 42 7 w1 (h1.holds (rX bc br _ _ (gT (gT (gT (gT (gT u))))) bp (({ zPkt with kind := k, to := tt, d := { zeroDat with rseq := gV u, rrep := gV (gT u), seq := gV (gT (gT u)), sender := gV (gT (gT (gT u))), stamp := gV (gT (gT (gT (gT u)))) } } : Pkt).cells zA) 42) memZ) (by show 7 + 13 ≤ 40; decide) b3.1 b3.2).mono ?_; rintro v w2 ⟨rfl, a5, c5, cs5, X, st, hXd, hXe, hl5, hg5⟩; refine LR.back (St.did h1 selZ rfl st (both_dep (rX_dep _ _ _ _ _ _ _ _) hXd)) ?_; clear st h1)))|((first|refine kR' ?_ ?_|refine kQ' ?_ ?_);all_goals(intro hc;try simp only[hcs]at hc;try(exfalso;first|contradiction|omega))))
        apply end0
        · exact rfl
        intro w' hS
        refine ⟨rfl, lst_end2 hF (hS.sub (L' := [both (rX bc br a5 c5 (msgR (gT (gT (gT (gT (gT u)))))).2 bp cs5 42) X]) subZ) hXd hXe hl5 (fun h0 => ?_)⟩
        obtain ⟨sa, sc, hcs, hz, hX, hXb⟩ := hg5 h0
        exact ⟨{ zA with da := sa, dc := sc }, hcs, fun w2 h2 => ⟨hX w2 h2, hz, Rd.nil _ _, fun _ => rfl, Rd.nil _ _, fun _ => rfl⟩, fun _ => hXb⟩
    by_cases hk2 : k = 2
    · rw [if_neg hk1, if_pos hk2] at hr1
      subst hr1
      have q2 : rdN [20, 21] (({ zPkt with kind := k, to := tt } : Pkt).cells zA) u = ((({ zPkt with kind := k, to := tt, t := { zTkn with r1 := gV u, r2 := gV (gT u) } } : Pkt).cells zA), (gT (gT u))) := (rd_cons rfl).trans ((rd_cons rfl).trans (rfl))
      have b2 := BB [20, 21] (({ zPkt with kind := k, to := tt } : Pkt).cells zA) b1
      rw [q2] at b2
      have q3 : rdN [22, 23, 24, 25, 26, 27] (({ zPkt with kind := k, to := tt, t := { zTkn with r1 := gV u, r2 := gV (gT u) } } : Pkt).cells zA) (gT (gT u)) = ((({ zPkt with kind := k, to := tt, t := { zTkn with r1 := gV u, r2 := gV (gT u), hop := gV (gT (gT u)), seq := gV (gT (gT (gT u))), aru := gV (gT (gT (gT (gT u)))), low := gV (gT (gT (gT (gT (gT u))))), stamp := gV (gT (gT (gT (gT (gT (gT u)))))), idle := gV (gT (gT (gT (gT (gT (gT (gT u))))))) } } : Pkt).cells zA), (gT (gT (gT (gT (gT (gT (gT (gT u))))))))) := (rd_cons rfl).trans ((rd_cons rfl).trans ((rd_cons rfl).trans ((rd_cons rfl).trans ((rd_cons rfl).trans ((rd_cons rfl).trans (rfl))))))
      have b3 := BB [22, 23, 24, 25, 26, 27] (({ zPkt with kind := k, to := tt, t := { zTkn with r1 := gV u, r2 := gV (gT u) } } : Pkt).cells zA) b2
      rw [q3] at b3
      repeat'(first|(apply CW.reg_held (St w F []))|(apply Go.Hb.kK;(iterate 4 exact rfl);intro bs)|refine kv' ?_|apply jJ|refine jE' ?_|refine jp' ?_|(apply jc;kernel_rfl)|refine kg' ?_|refine kG' ?_|refine kB' fun _=>?_|refine kA' fun _=>?_|refine kK' fun _=>?_|refine kU' ?_|(apply LR.ev; (· apply Ev.load (v := .int .i64 e0); (· exact rfl); (· intro w' hw'; apply rX_e (br := br) (s := (l0, e0)) (b := bp) (cs := (({ zPkt with kind := k } : Pkt).cells zA)) (E := 42); apply hw'.holds; (repeat (first | exact mH _ _ | apply mT)); done)); (· exact rfl))|(apply LR.ev; (· apply Ev.load (v := .int .i64 k); (· exact rfl); (· intro w' hw'; apply rX_cell (br := br) (s := (l0, e0)) (b := bp) (cs := (({ zPkt with kind := k } : Pkt).cells zA)) (E := 42) (j := 0); (· apply hw'.holds; (repeat (first | exact mH _ _ | apply mT)); done); (· exact rfl))); (· exact rfl))|(apply LR.ev; (· apply Ev.load (v := .int .i64 k); (· exact rfl); (· intro w' hw'; apply rX_cell (br := br) (s := u) (b := bp) (cs := (({ zPkt with kind := k, to := tt } : Pkt).cells zA)) (E := 42) (j := 0); (· apply hw'.holds; (repeat (first | exact mH _ _ | apply mT)); done); (· exact rfl))); (· exact rfl))|(apply kq; (· exact rfl); (· intro w1 h1; exact CallsTo.q (p88 k 1 5 w1) h1))|(apply LR.call; (· exact rfl); (intro w1 h1; first | (refine (p87r bc br _ _ s bp (zPkt.cells zA) 42 bs [0] w1 (h1.holds (rX bc br _ _ s bp (zPkt.cells zA) 42) memZ) (h1.rd_of_blk memZ) (St.apart2 (x := .own bs (.cells _ 114 (0, 0))) h1 (.inl subZ) rfl bs rfl) (fun o ho => (show ∀ o ∈ ([0] : List Nat), o < 40 by decide) o ho) hB0.1 hB0.2 (by simp)).mono ?_; rintro v w2 ⟨_, _, rfl, st⟩; rw [q0] at st; refine LR.back (St.did h1 selZ rfl st (rX_dep _ _ _ _ _ _ _ _)) ?_; clear st h1) | (refine (p87r bc br _ _ (l0, e0) bp (({ zPkt with kind := k } : Pkt).cells zA) 42 bs [1] w1 (h1.holds (rX bc br _ _ (l0, e0) bp (({ zPkt with kind := k } : Pkt).cells zA) 42) memZ) (h1.rd_of_blk memZ) (St.apart2 (x := .own bs (.cells _ 114 (0, 0))) h1 (.inl subZ) rfl bs rfl) (fun o ho => (show ∀ o ∈ ([1] : List Nat), o < 40 by decide) o ho) (W b0).1 (W b0).2 (by simp)).mono ?_; rintro v w2 ⟨_, _, rfl, st⟩; rw [q1] at st; refine LR.back (St.did h1 selZ rfl st (rX_dep _ _ _ _ _ _ _ _)) ?_; clear st h1) | (refine (p89r bc br _ _ u bp (({ zPkt with kind := k, to := tt } : Pkt).cells zA) 42 20 w1 (h1.holds (rX bc br _ _ u bp (({ zPkt with kind := k, to := tt } : Pkt).cells zA) 42) memZ) (by show 20 + 1 < 40; decide) (W b1).1 (W b1).2).mono ?_; rintro v w2 ⟨_, _, rfl, st⟩; rw [q2] at st; refine LR.back (St.did h1 selZ rfl st (rX_dep _ _ _ _ _ _ _ _)) ?_; clear st h1)))|((first|refine kR' ?_ ?_|refine kQ' ?_ ?_);all_goals(intro hc;try simp only[hcs]at hc;try(exfalso;first|contradiction|omega))))
      all_goals
        all_goals (
          apply DW.quiet [0, 1, 2, 3, 4, 5, 6, 7, 8, 9, 10, 11, 12, 13, 14, 15, 16, 17, 18]
          · decide +kernel
          · first | exact fun _ h => h | exact fun _ h => St.sub h subZ
          repeat'(first|refine yv' ?_|refine uv' ?_|refine un' ?_|(refine us' ?_ ?_;all_goals(intro hc;try simp only[hcs]at hc;try(exfalso;first|contradiction|omega)))|apply QL.nil)
          all_goals (show DW _ _ _ _ _ _ _ _))
        all_goals (
          apply DW.loud 19
          · exact rfl
          · decide +kernel
          repeat'(first|(apply Go.Hb.kK;(iterate 4 exact rfl);intro bs)|refine kg' ?_|refine kG' ?_|apply kM|refine kv' ?_|refine kK' fun _=>?_|refine kU' ?_|refine kB' fun _=>?_|refine kA' fun _=>?_|(apply LR.call; (· exact rfl); (intro w1 h1; first | (refine (p87r bc br _ _ (gT (gT u)) bp (({ zPkt with kind := k, to := tt, t := { zTkn with r1 := gV u, r2 := gV (gT u) } } : Pkt).cells zA) 42 bs [22, 23, 24, 25, 26, 27] w1 (h1.holds (rX bc br _ _ (gT (gT u)) bp (({ zPkt with kind := k, to := tt, t := { zTkn with r1 := gV u, r2 := gV (gT u) } } : Pkt).cells zA) 42) memZ) (h1.rd_of_blk memZ) (St.apart2 (x := .own bs (.cells _ 114 (0, 0))) h1 (.inl subZ) rfl bs rfl) (fun o ho => (show ∀ o ∈ ([22, 23, 24, 25, 26, 27] : List Nat), o < 40 by decide) o ho) (W b2).1 (W b2).2 (by simp)).mono ?_; rintro v w2 ⟨_, _, rfl, st⟩; rw [q3] at st; refine LR.back (St.did h1 selZ rfl st (rX_dep _ _ _ _ _ _ _ _)) ?_; clear st h1))))
          all_goals (refine At.stage_same (fun _ h => St.sub h subZ) ?_))
        all_goals (
          apply DW.loud 20
          · exact rfl
          · decide +kernel
          repeat'(first|(apply Go.Hb.kK;(iterate 4 exact rfl);intro bs)|refine kg' ?_|refine kG' ?_|apply kM|refine kv' ?_|refine kK' fun _=>?_|refine kU' ?_|refine kB' fun _=>?_|refine kA' fun _=>?_|(apply LR.call; (· exact rfl); (intro w1 h1; first | (refine (p87r bc br _ _ (gT (gT u)) bp (({ zPkt with kind := k, to := tt, t := { zTkn with r1 := gV u, r2 := gV (gT u) } } : Pkt).cells zA) 42 bs [22, 23, 24, 25, 26, 27] w1 (h1.holds (rX bc br _ _ (gT (gT u)) bp (({ zPkt with kind := k, to := tt, t := { zTkn with r1 := gV u, r2 := gV (gT u) } } : Pkt).cells zA) 42) memZ) (h1.rd_of_blk memZ) (St.apart2 (x := .own bs (.cells _ 114 (0, 0))) h1 (.inl subZ) rfl bs rfl) (fun o ho => (show ∀ o ∈ ([22, 23, 24, 25, 26, 27] : List Nat), o < 40 by decide) o ho) (W b2).1 (W b2).2 (by simp)).mono ?_; rintro v w2 ⟨_, _, rfl, st⟩; rw [q3] at st; refine LR.back (St.did h1 selZ rfl st (rX_dep _ _ _ _ _ _ _ _)) ?_; clear st h1))))
          all_goals (refine At.stage_same (fun _ h => St.sub h subZ) ?_))
        all_goals (first | (apply DW.done_thn; (· decide +kernel)) | (apply DW.done; (· decide +kernel)))
        repeat'(first|refine kv' ?_|apply jJ|refine jE' ?_|refine jp' ?_|(apply jc;kernel_rfl)|refine kg' ?_|refine kG' ?_|refine kB' fun _=>?_|refine kA' fun _=>?_|refine kK' fun _=>?_|refine kU' ?_|(apply LR.call; (· exact rfl); (intro w1 h1; first | (refine (p91r bc br _ _ (gT (gT (gT (gT (gT (gT (gT (gT u)))))))) bp (({ zPkt with kind := k, to := tt, t := { zTkn with r1 := gV u, r2 := gV (gT u), hop := gV (gT (gT u)), seq := gV (gT (gT (gT u))), aru := gV (gT (gT (gT (gT u)))), low := gV (gT (gT (gT (gT (gT u))))), stamp := gV (gT (gT (gT (gT (gT (gT u)))))), idle := gV (gT (gT (gT (gT (gT (gT (gT u))))))) } } : Pkt).cells zA) 42 28 16 w1 (h1.holds (rX bc br _ _ (gT (gT (gT (gT (gT (gT (gT (gT u)))))))) bp (({ zPkt with kind := k, to := tt, t := { zTkn with r1 := gV u, r2 := gV (gT u), hop := gV (gT (gT u)), seq := gV (gT (gT (gT u))), aru := gV (gT (gT (gT (gT u)))), low := gV (gT (gT (gT (gT (gT u))))), stamp := gV (gT (gT (gT (gT (gT (gT u)))))), idle := gV (gT (gT (gT (gT (gT (gT (gT u))))))) } } : Pkt).cells zA) 42) memZ) (by show 28 < 40; decide) rfl (W b3).1 (W b3).2 (by omega)).mono ?_; rintro v w2 ⟨rfl, a5, c5, cs5, X, st, hXd, hXe, hl5, hg5⟩; refine LR.back (St.did h1 selZ rfl st (both_dep (rX_dep _ _ _ _ _ _ _ _) hXd)) ?_; clear st h1)))|((first|refine kR' ?_ ?_|refine kQ' ?_ ?_);all_goals(intro hc;try simp only[hcs]at hc;try(exfalso;first|contradiction|omega))))
        apply end0
        · exact rfl
        intro w' hS
        refine ⟨rfl, lst_end2 hF (hS.sub (L' := [both (rX bc br a5 c5 (lstR getS 16 (gT (gT (gT (gT (gT (gT (gT (gT u))))))))).2 bp cs5 42) X]) subZ) hXd hXe hl5 (fun h0 => ?_)⟩
        obtain ⟨sa, sc, hcs, hz, hX⟩ := hg5 h0
        exact ⟨{ zA with ta := sa, tc := sc }, hcs, fun w2 h2 => ⟨Rd.nil _ _, fun _ => rfl, (by have := hX w2 h2; rw [← iv_flat] at this; exact this), hz, Rd.nil _ _, fun _ => rfl⟩, fun h => absurd rfl h⟩
    by_cases hk3 : k = 3
    · rw [if_neg hk1, if_neg hk2, if_pos hk3] at hr1
      subst hr1
      have q2 : rdN [29, 30, 31] (({ zPkt with kind := k, to := tt } : Pkt).cells zA) u = ((({ zPkt with kind := k, to := tt, j1 := gV u, j2 := gV (gT u), j3 := gV (gT (gT u)) } : Pkt).cells zA), (gT (gT (gT u)))) := (rd_cons rfl).trans ((rd_cons rfl).trans ((rd_cons rfl).trans (rfl)))
      have b2 := BB [29, 30, 31] (({ zPkt with kind := k, to := tt } : Pkt).cells zA) b1
      rw [q2] at b2
      repeat'(first|(apply CW.reg_held (St w F []))|(apply Go.Hb.kK;(iterate 4 exact rfl);intro bs)|refine kv' ?_|apply jJ|refine jE' ?_|refine jp' ?_|(apply jc;kernel_rfl)|refine kg' ?_|refine kG' ?_|refine kB' fun _=>?_|refine kA' fun _=>?_|refine kK' fun _=>?_|refine kU' ?_|(apply LR.ev; (· apply Ev.load (v := .int .i64 e0); (· exact rfl); (· intro w' hw'; apply rX_e (br := br) (s := (l0, e0)) (b := bp) (cs := (({ zPkt with kind := k } : Pkt).cells zA)) (E := 42); apply hw'.holds; (repeat (first | exact mH _ _ | apply mT)); done)); (· exact rfl))|(apply LR.ev; (· apply Ev.load (v := .int .i64 k); (· exact rfl); (· intro w' hw'; apply rX_cell (br := br) (s := (l0, e0)) (b := bp) (cs := (({ zPkt with kind := k } : Pkt).cells zA)) (E := 42) (j := 0); (· apply hw'.holds; (repeat (first | exact mH _ _ | apply mT)); done); (· exact rfl))); (· exact rfl))|(apply LR.ev; (· apply Ev.load (v := .int .i64 k); (· exact rfl); (· intro w' hw'; apply rX_cell (br := br) (s := u) (b := bp) (cs := (({ zPkt with kind := k, to := tt } : Pkt).cells zA)) (E := 42) (j := 0); (· apply hw'.holds; (repeat (first | exact mH _ _ | apply mT)); done); (· exact rfl))); (· exact rfl))|(apply kq; (· exact rfl); (· intro w1 h1; exact CallsTo.q (p88 k 1 5 w1) h1))|(apply LR.call; (· exact rfl); (intro w1 h1; first | (refine (p87r bc br _ _ s bp (zPkt.cells zA) 42 bs [0] w1 (h1.holds (rX bc br _ _ s bp (zPkt.cells zA) 42) memZ) (h1.rd_of_blk memZ) (St.apart2 (x := .own bs (.cells _ 114 (0, 0))) h1 (.inl subZ) rfl bs rfl) (fun o ho => (show ∀ o ∈ ([0] : List Nat), o < 40 by decide) o ho) hB0.1 hB0.2 (by simp)).mono ?_; rintro v w2 ⟨_, _, rfl, st⟩; rw [q0] at st; refine LR.back (St.did h1 selZ rfl st (rX_dep _ _ _ _ _ _ _ _)) ?_; clear st h1) | (refine (p87r bc br _ _ (l0, e0) bp (({ zPkt with kind := k } : Pkt).cells zA) 42 bs [1] w1 (h1.holds (rX bc br _ _ (l0, e0) bp (({ zPkt with kind := k } : Pkt).cells zA) 42) memZ) (h1.rd_of_blk memZ) (St.apart2 (x := .own bs (.cells _ 114 (0, 0))) h1 (.inl subZ) rfl bs rfl) (fun o ho => (show ∀ o ∈ ([1] : List Nat), o < 40 by decide) o ho) (W b0).1 (W b0).2 (by simp)).mono ?_; rintro v w2 ⟨_, _, rfl, st⟩; rw [q1] at st; refine LR.back (St.did h1 selZ rfl st (rX_dep _ _ _ _ _ _ _ _)) ?_; clear st h1)))|((first|refine kR' ?_ ?_|refine kQ' ?_ ?_);all_goals(intro hc;try simp only[hcs]at hc;try(exfalso;first|contradiction|omega))))
      all_goals
        all_goals (
          apply DW.quiet [0, 1, 2, 3, 4, 5, 6, 7, 8, 9, 10, 11, 12]
          · decide +kernel
          · first | exact fun _ h => h | exact fun _ h => St.sub h subZ
          repeat'(first|refine yv' ?_|refine uv' ?_|refine un' ?_|(refine us' ?_ ?_;all_goals(intro hc;try simp only[hcs]at hc;try(exfalso;first|contradiction|omega)))|apply QL.nil)
          all_goals (show DW _ _ _ _ _ _ _ _))
        all_goals (
          apply DW.loud 13
          · exact rfl
          · decide +kernel
          repeat'(first|(apply Go.Hb.kK;(iterate 4 exact rfl);intro bs)|refine kg' ?_|refine kG' ?_|apply kM|refine kv' ?_|refine kK' fun _=>?_|refine kU' ?_|refine kB' fun _=>?_|refine kA' fun _=>?_|(apply LR.call; (· exact rfl); (intro w1 h1; first | (refine (p87r bc br _ _ u bp (({ zPkt with kind := k, to := tt } : Pkt).cells zA) 42 bs [29, 30, 31] w1 (h1.holds (rX bc br _ _ u bp (({ zPkt with kind := k, to := tt } : Pkt).cells zA) 42) memZ) (h1.rd_of_blk memZ) (St.apart2 (x := .own bs (.cells _ 114 (0, 0))) h1 (.inl subZ) rfl bs rfl) (fun o ho => (show ∀ o ∈ ([29, 30, 31] : List Nat), o < 40 by decide) o ho) (W b1).1 (W b1).2 (by simp)).mono ?_; rintro v w2 ⟨_, _, rfl, st⟩; rw [q2] at st; refine LR.back (St.did h1 selZ rfl st (rX_dep _ _ _ _ _ _ _ _)) ?_; clear st h1))))
          all_goals (refine At.stage_same (fun _ h => St.sub h subZ) ?_))
        all_goals (
          apply DW.loud 14
          · exact rfl
          · decide +kernel
          repeat'(first|(apply Go.Hb.kK;(iterate 4 exact rfl);intro bs)|refine kg' ?_|refine kG' ?_|apply kM|refine kv' ?_|refine kK' fun _=>?_|refine kU' ?_|refine kB' fun _=>?_|refine kA' fun _=>?_|(apply LR.call; (· exact rfl); (intro w1 h1; first | (refine (p87r bc br _ _ u bp (({ zPkt with kind := k, to := tt } : Pkt).cells zA) 42 bs [29, 30, 31] w1 (h1.holds (rX bc br _ _ u bp (({ zPkt with kind := k, to := tt } : Pkt).cells zA) 42) memZ) (h1.rd_of_blk memZ) (St.apart2 (x := .own bs (.cells _ 114 (0, 0))) h1 (.inl subZ) rfl bs rfl) (fun o ho => (show ∀ o ∈ ([29, 30, 31] : List Nat), o < 40 by decide) o ho) (W b1).1 (W b1).2 (by simp)).mono ?_; rintro v w2 ⟨_, _, rfl, st⟩; rw [q2] at st; refine LR.back (St.did h1 selZ rfl st (rX_dep _ _ _ _ _ _ _ _)) ?_; clear st h1))))
          all_goals (refine At.stage_same (fun _ h => St.sub h subZ) ?_))
        all_goals (first | (apply DW.done_thn; (· decide +kernel)) | (apply DW.done; (· decide +kernel)))
        repeat'(first|refine kv' ?_|apply jJ|refine jE' ?_|refine jp' ?_|(apply jc;kernel_rfl)|refine kg' ?_|refine kG' ?_|refine kB' fun _=>?_|refine kA' fun _=>?_|refine kK' fun _=>?_|refine kU' ?_|((first|refine kR' ?_ ?_|refine kQ' ?_ ?_);all_goals(intro hc;try simp only[hcs]at hc;try(exfalso;first|contradiction|omega))))
        apply end0
        · exact rfl
        intro w' hS
        exact ⟨rfl, lst_end hF (hS.sub (L' := [rX bc br _ _ (gT (gT (gT u))) bp (({ zPkt with kind := k, to := tt, j1 := gV u, j2 := gV (gT u), j3 := gV (gT (gT u)) } : Pkt).cells zA) 42]) subZ) rfl (fun h0 => ⟨zA, rfl, fun w2 h2 => ⟨Rd.nil _ _, fun _ => rfl, Rd.nil _ _, fun _ => rfl, Rd.nil _ _, fun _ => rfl⟩, fun h => absurd rfl h⟩)⟩
    by_cases hk4 : k = 4
    · rw [if_neg hk1, if_neg hk2, if_neg hk3, if_pos hk4] at hr1
      subst hr1
      have q2 : rdN [32, 33] (({ zPkt with kind := k, to := tt } : Pkt).cells zA) u = ((({ zPkt with kind := k, to := tt, c := { zCmt with r1 := gV u, r2 := gV (gT u) } } : Pkt).cells zA), (gT (gT u))) := (rd_cons rfl).trans ((rd_cons rfl).trans (rfl))
      have b2 := BB [32, 33] (({ zPkt with kind := k, to := tt } : Pkt).cells zA) b1
      rw [q2] at b2
      have q3 : rdN [34, 35] (({ zPkt with kind := k, to := tt, c := { zCmt with r1 := gV u, r2 := gV (gT u) } } : Pkt).cells zA) (gT (gT u)) = ((({ zPkt with kind := k, to := tt, c := { zCmt with r1 := gV u, r2 := gV (gT u), mem := gV (gT (gT u)), hop := gV (gT (gT (gT u))) } } : Pkt).cells zA), (gT (gT (gT (gT u))))) := (rd_cons rfl).trans ((rd_cons rfl).trans (rfl))
      have b3 := BB [34, 35] (({ zPkt with kind := k, to := tt, c := { zCmt with r1 := gV u, r2 := gV (gT u) } } : Pkt).cells zA) b2
      rw [q3] at b3
      repeat'(first|(apply CW.reg_held (St w F []))|(apply Go.Hb.kK;(iterate 4 exact rfl);intro bs)|refine kv' ?_|apply jJ|refine jE' ?_|refine jp' ?_|(apply jc;kernel_rfl)|refine kg' ?_|refine kG' ?_|refine kB' fun _=>?_|refine kA' fun _=>?_|refine kK' fun _=>?_|refine kU' ?_|(apply LR.ev; (· apply Ev.load (v := .int .i64 e0); (· exact rfl); (· intro w' hw'; apply rX_e (br := br) (s := (l0, e0)) (b := bp) (cs := (({ zPkt with kind := k } : Pkt).cells zA)) (E := 42); apply hw'.holds; (repeat (first | exact mH _ _ | apply mT)); done)); (· exact rfl))|(apply LR.ev; (· apply Ev.load (v := .int .i64 k); (· exact rfl); (· intro w' hw'; apply rX_cell (br := br) (s := (l0, e0)) (b := bp) (cs := (({ zPkt with kind := k } : Pkt).cells zA)) (E := 42) (j := 0); (· apply hw'.holds; (repeat (first | exact mH _ _ | apply mT)); done); (· exact rfl))); (· exact rfl))|(apply LR.ev; (· apply Ev.load (v := .int .i64 k); (· exact rfl); (· intro w' hw'; apply rX_cell (br := br) (s := u) (b := bp) (cs := (({ zPkt with kind := k, to := tt } : Pkt).cells zA)) (E := 42) (j := 0); (· apply hw'.holds; (repeat (first | exact mH _ _ | apply mT)); done); (· exact rfl))); (· exact rfl))|(apply kq; (· exact rfl); (· intro w1 h1; exact CallsTo.q (p88 k 1 5 w1) h1))|(apply LR.call; (· exact rfl); (intro w1 h1; first | (refine (p87r bc br _ _ s bp (zPkt.cells zA) 42 bs [0] w1 (h1.holds (rX bc br _ _ s bp (zPkt.cells zA) 42) memZ) (h1.rd_of_blk memZ) (St.apart2 (x := .own bs (.cells _ 114 (0, 0))) h1 (.inl subZ) rfl bs rfl) (fun o ho => (show ∀ o ∈ ([0] : List Nat), o < 40 by decide) o ho) hB0.1 hB0.2 (by simp)).mono ?_; rintro v w2 ⟨_, _, rfl, st⟩; rw [q0] at st; refine LR.back (St.did h1 selZ rfl st (rX_dep _ _ _ _ _ _ _ _)) ?_; clear st h1) | (refine (p87r bc br _ _ (l0, e0) bp (({ zPkt with kind := k } : Pkt).cells zA) 42 bs [1] w1 (h1.holds (rX bc br _ _ (l0, e0) bp (({ zPkt with kind := k } : Pkt).cells zA) 42) memZ) (h1.rd_of_blk memZ) (St.apart2 (x := .own bs (.cells _ 114 (0, 0))) h1 (.inl subZ) rfl bs rfl) (fun o ho => (show ∀ o ∈ ([1] : List Nat), o < 40 by decide) o ho) (W b0).1 (W b0).2 (by simp)).mono ?_; rintro v w2 ⟨_, _, rfl, st⟩; rw [q1] at st; refine LR.back (St.did h1 selZ rfl st (rX_dep _ _ _ _ _ _ _ _)) ?_; clear st h1) | (refine (p89r bc br _ _ u bp (({ zPkt with kind := k, to := tt } : Pkt).cells zA) 42 32 w1 (h1.holds (rX bc br _ _ u bp (({ zPkt with kind := k, to := tt } : Pkt).cells zA) 42) memZ) (by show 32 + 1 < 40; decide) (W b1).1 (W b1).2).mono ?_; rintro v w2 ⟨_, _, rfl, st⟩; rw [q2] at st; refine LR.back (St.did h1 selZ rfl st (rX_dep _ _ _ _ _ _ _ _)) ?_; clear st h1)))|((first|refine kR' ?_ ?_|refine kQ' ?_ ?_);all_goals(intro hc;try simp only[hcs]at hc;try(exfalso;first|contradiction|omega))))
      all_goals
        all_goals (
          apply DW.quiet [0, 1, 2, 3, 4, 5, 6]
          · decide +kernel
          · first | exact fun _ h => h | exact fun _ h => St.sub h subZ
          repeat'(first|refine yv' ?_|refine uv' ?_|refine un' ?_|(refine us' ?_ ?_;all_goals(intro hc;try simp only[hcs]at hc;try(exfalso;first|contradiction|omega)))|apply QL.nil)
          all_goals (show DW _ _ _ _ _ _ _ _))
        all_goals (
          apply DW.loud 7
          · exact rfl
          · decide +kernel
          repeat'(first|(apply Go.Hb.kK;(iterate 4 exact rfl);intro bs)|refine kg' ?_|refine kG' ?_|apply kM|refine kv' ?_|refine kK' fun _=>?_|refine kU' ?_|refine kB' fun _=>?_|refine kA' fun _=>?_|(apply LR.call; (· exact rfl); (intro w1 h1; first | (refine (p87r bc br _ _ (gT (gT u)) bp (({ zPkt with kind := k, to := tt, c := { zCmt with r1 := gV u, r2 := gV (gT u) } } : Pkt).cells zA) 42 bs [34, 35] w1 (h1.holds (rX bc br _ _ (gT (gT u)) bp (({ zPkt with kind := k, to := tt, c := { zCmt with r1 := gV u, r2 := gV (gT u) } } : Pkt).cells zA) 42) memZ) (h1.rd_of_blk memZ) (St.apart2 (x := .own bs (.cells _ 114 (0, 0))) h1 (.inl subZ) rfl bs rfl) (fun o ho => (show ∀ o ∈ ([34, 35] : List Nat), o < 40 by decide) o ho) (W b2).1 (W b2).2 (by simp)).mono ?_; rintro v w2 ⟨_, _, rfl, st⟩; rw [q3] at st; refine LR.back (St.did h1 selZ rfl st (rX_dep _ _ _ _ _ _ _ _)) ?_; clear st h1))))
          all_goals (refine At.stage_same (fun _ h => St.sub h subZ) ?_))
        all_goals (
          apply DW.loud 8
          · exact rfl
          · decide +kernel
          repeat'(first|(apply Go.Hb.kK;(iterate 4 exact rfl);intro bs)|refine kg' ?_|refine kG' ?_|apply kM|refine kv' ?_|refine kK' fun _=>?_|refine kU' ?_|refine kB' fun _=>?_|refine kA' fun _=>?_|(apply LR.call; (· exact rfl); (intro w1 h1; first | (refine (p87r bc br _ _ (gT (gT u)) bp (({ zPkt with kind := k, to := tt, c := { zCmt with r1 := gV u, r2 := gV (gT u) } } : Pkt).cells zA) 42 bs [34, 35] w1 (h1.holds (rX bc br _ _ (gT (gT u)) bp (({ zPkt with kind := k, to := tt, c := { zCmt with r1 := gV u, r2 := gV (gT u) } } : Pkt).cells zA) 42) memZ) (h1.rd_of_blk memZ) (St.apart2 (x := .own bs (.cells _ 114 (0, 0))) h1 (.inl subZ) rfl bs rfl) (fun o ho => (show ∀ o ∈ ([34, 35] : List Nat), o < 40 by decide) o ho) (W b2).1 (W b2).2 (by simp)).mono ?_; rintro v w2 ⟨_, _, rfl, st⟩; rw [q3] at st; refine LR.back (St.did h1 selZ rfl st (rX_dep _ _ _ _ _ _ _ _)) ?_; clear st h1))))
          all_goals (refine At.stage_same (fun _ h => St.sub h subZ) ?_))
        all_goals (first | (apply DW.done_thn; (· decide +kernel)) | (apply DW.done; (· decide +kernel)))
        repeat'(first|refine kv' ?_|apply jJ|refine jE' ?_|refine jp' ?_|(apply jc;kernel_rfl)|refine kg' ?_|refine kG' ?_|refine kB' fun _=>?_|refine kA' fun _=>?_|refine kK' fun _=>?_|refine kU' ?_|(apply LR.call; (· exact rfl); (intro w1 h1; first | (refine (p93r bc br _ _ (gT (gT (gT (gT u)))) bp (({ zPkt with kind := k, to := tt, c := { zCmt with r1 := gV u, r2 := gV (gT u), mem := gV (gT (gT u)), hop := gV (gT (gT (gT u))) } } : Pkt).cells zA) 42 36 8 w1 (h1.holds (rX bc br _ _ (gT (gT (gT (gT u)))) bp (({ zPkt with kind := k, to := tt, c := { zCmt with r1 := gV u, r2 := gV (gT u), mem := gV (gT (gT u)), hop := gV (gT (gT (gT u))) } } : Pkt).cells zA) 42) memZ) (by show 36 < 40; decide) rfl (W b3).1 (W b3).2 (by omega)).mono ?_; rintro v w2 ⟨rfl, a5, c5, cs5, X, st, hXd, hXe, hl5, hg5⟩; refine LR.back (St.did h1 selZ rfl st (both_dep (rX_dep _ _ _ _ _ _ _ _) hXd)) ?_; clear st h1)))|((first|refine kR' ?_ ?_|refine kQ' ?_ ?_);all_goals(intro hc;try simp only[hcs]at hc;try(exfalso;first|contradiction|omega))))
        apply end0
        · exact rfl
        intro w' hS
        refine ⟨rfl, lst_end2 hF (hS.sub (L' := [both (rX bc br a5 c5 (lstR getE 8 (gT (gT (gT (gT u))))).2 bp cs5 42) X]) subZ) hXd hXe hl5 (fun h0 => ?_)⟩
        obtain ⟨sa, sc, hcs, hz, hX⟩ := hg5 h0
        exact ⟨{ zA with ca := sa, cc := sc }, hcs, fun w2 h2 => ⟨Rd.nil _ _, fun _ => rfl, Rd.nil _ _, fun _ => rfl, hX w2 h2, hz⟩, fun h => absurd rfl h⟩
    by_cases hk5 : k = 5
    · rw [if_neg hk1, if_neg hk2, if_neg hk3, if_neg hk4, if_pos hk5] at hr1
      subst hr1
      have q2 : rdN [37, 38] (({ zPkt with kind := k, to := tt } : Pkt).cells zA) u = ((({ zPkt with kind := k, to := tt, b1 := gV u, b2 := gV (gT u) } : Pkt).cells zA), (gT (gT u))) := (rd_cons rfl).trans ((rd_cons rfl).trans (rfl))
      have b2 := BB [37, 38] (({ zPkt with kind := k, to := tt } : Pkt).cells zA) b1
      rw [q2] at b2
      have q3 : rdN [39] (({ zPkt with kind := k, to := tt, b1 := gV u, b2 := gV (gT u) } : Pkt).cells zA) (gT (gT u)) = ((({ zPkt with kind := k, to := tt, b1 := gV u, b2 := gV (gT u), b3 := gV (gT (gT u)) } : Pkt).cells zA), (gT (gT (gT u)))) := (rd_cons rfl).trans (rfl)
      have b3 := BB [39] (({ zPkt with kind := k, to := tt, b1 := gV u, b2 := gV (gT u) } : Pkt).cells zA) b2
      rw [q3] at b3
      repeat'(first|(apply CW.reg_held (St w F []))|(apply Go.Hb.kK;(iterate 4 exact rfl);intro bs)|refine kv' ?_|apply jJ|refine jE' ?_|refine jp' ?_|(apply jc;kernel_rfl)|refine kg' ?_|refine kG' ?_|refine kB' fun _=>?_|refine kA' fun _=>?_|refine kK' fun _=>?_|refine kU' ?_|(apply LR.ev; (· apply Ev.load (v := .int .i64 e0); (· exact rfl); (· intro w' hw'; apply rX_e (br := br) (s := (l0, e0)) (b := bp) (cs := (({ zPkt with kind := k } : Pkt).cells zA)) (E := 42); apply hw'.holds; (repeat (first | exact mH _ _ | apply mT)); done)); (· exact rfl))|(apply LR.ev; (· apply Ev.load (v := .int .i64 k); (· exact rfl); (· intro w' hw'; apply rX_cell (br := br) (s := (l0, e0)) (b := bp) (cs := (({ zPkt with kind := k } : Pkt).cells zA)) (E := 42) (j := 0); (· apply hw'.holds; (repeat (first | exact mH _ _ | apply mT)); done); (· exact rfl))); (· exact rfl))|(apply LR.ev; (· apply Ev.load (v := .int .i64 k); (· exact rfl); (· intro w' hw'; apply rX_cell (br := br) (s := u) (b := bp) (cs := (({ zPkt with kind := k, to := tt } : Pkt).cells zA)) (E := 42) (j := 0); (· apply hw'.holds; (repeat (first | exact mH _ _ | apply mT)); done); (· exact rfl))); (· exact rfl))|(apply kq; (· exact rfl); (· intro w1 h1; exact CallsTo.q (p88 k 1 5 w1) h1))|(apply LR.call; (· exact rfl); (intro w1 h1; first | (refine (p87r bc br _ _ s bp (zPkt.cells zA) 42 bs [0] w1 (h1.holds (rX bc br _ _ s bp (zPkt.cells zA) 42) memZ) (h1.rd_of_blk memZ) (St.apart2 (x := .own bs (.cells _ 114 (0, 0))) h1 (.inl subZ) rfl bs rfl) (fun o ho => (show ∀ o ∈ ([0] : List Nat), o < 40 by decide) o ho) hB0.1 hB0.2 (by simp)).mono ?_; rintro v w2 ⟨_, _, rfl, st⟩; rw [q0] at st; refine LR.back (St.did h1 selZ rfl st (rX_dep _ _ _ _ _ _ _ _)) ?_; clear st h1) | (refine (p87r bc br _ _ (l0, e0) bp (({ zPkt with kind := k } : Pkt).cells zA) 42 bs [1] w1 (h1.holds (rX bc br _ _ (l0, e0) bp (({ zPkt with kind := k } : Pkt).cells zA) 42) memZ) (h1.rd_of_blk memZ) (St.apart2 (x := .own bs (.cells _ 114 (0, 0))) h1 (.inl subZ) rfl bs rfl) (fun o ho => (show ∀ o ∈ ([1] : List Nat), o < 40 by decide) o ho) (W b0).1 (W b0).2 (by simp)).mono ?_; rintro v w2 ⟨_, _, rfl, st⟩; rw [q1] at st; refine LR.back (St.did h1 selZ rfl st (rX_dep _ _ _ _ _ _ _ _)) ?_; clear st h1) | (refine (p89r bc br _ _ u bp (({ zPkt with kind := k, to := tt } : Pkt).cells zA) 42 37 w1 (h1.holds (rX bc br _ _ u bp (({ zPkt with kind := k, to := tt } : Pkt).cells zA) 42) memZ) (by show 37 + 1 < 40; decide) (W b1).1 (W b1).2).mono ?_; rintro v w2 ⟨_, _, rfl, st⟩; rw [q2] at st; refine LR.back (St.did h1 selZ rfl st (rX_dep _ _ _ _ _ _ _ _)) ?_; clear st h1) | (refine (p87r bc br _ _ (gT (gT u)) bp (({ zPkt with kind := k, to := tt, b1 := gV u, b2 := gV (gT u) } : Pkt).cells zA) 42 bs [39] w1 (h1.holds (rX bc br _ _ (gT (gT u)) bp (({ zPkt with kind := k, to := tt, b1 := gV u, b2 := gV (gT u) } : Pkt).cells zA) 42) memZ) (h1.rd_of_blk memZ) (St.apart2 (x := .own bs (.cells _ 114 (0, 0))) h1 (.inl subZ) rfl bs rfl) (fun o ho => (show ∀ o ∈ ([39] : List Nat), o < 40 by decide) o ho) (W b2).1 (W b2).2 (by simp)).mono ?_; rintro v w2 ⟨_, _, rfl, st⟩; rw [q3] at st; refine LR.back (St.did h1 selZ rfl st (rX_dep _ _ _ _ _ _ _ _)) ?_; clear st h1)))|((first|refine kR' ?_ ?_|refine kQ' ?_ ?_);all_goals(intro hc;try simp only[hcs]at hc;try(exfalso;first|contradiction|omega))))
      all_goals
        apply end0
        · exact rfl
        intro w' hS
        exact ⟨rfl, lst_end hF (hS.sub (L' := [rX bc br _ _ (gT (gT (gT u))) bp (({ zPkt with kind := k, to := tt, b1 := gV u, b2 := gV (gT u), b3 := gV (gT (gT u)) } : Pkt).cells zA) 42]) subZ) rfl (fun h0 => ⟨zA, rfl, fun w2 h2 => ⟨Rd.nil _ _, fun _ => rfl, Rd.nil _ _, fun _ => rfl, Rd.nil _ _, fun _ => rfl⟩, fun h => absurd rfl h⟩)⟩
    have he : e0 ≠ 0 := by omega
    have e2 : getS (l0, e0) = (0, (l0, e0)) := getS_err he
    have hu2 : u = (l0, e0) := by rw [← hu]; unfold gT; rw [e2]
    rw [if_neg hk1, if_neg hk2, if_neg hk3, if_neg hk4, if_neg hk5] at hr1
    subst hr1
    repeat'(first|(apply CW.reg_held (St w F []))|(apply Go.Hb.kK;(iterate 4 exact rfl);intro bs)|refine kv' ?_|apply jJ|refine jE' ?_|refine jp' ?_|(apply jc;kernel_rfl)|refine kg' ?_|refine kG' ?_|refine kB' fun _=>?_|refine kA' fun _=>?_|refine kK' fun _=>?_|refine kU' ?_|(apply LR.ev; (· apply Ev.load (v := .int .i64 e0); (· exact rfl); (· intro w' hw'; apply rX_e (br := br) (s := (l0, e0)) (b := bp) (cs := (({ zPkt with kind := k } : Pkt).cells zA)) (E := 42); apply hw'.holds; (repeat (first | exact mH _ _ | apply mT)); done)); (· exact rfl))|(apply LR.ev; (· apply Ev.load (v := .int .i64 k); (· exact rfl); (· intro w' hw'; apply rX_cell (br := br) (s := (l0, e0)) (b := bp) (cs := (({ zPkt with kind := k } : Pkt).cells zA)) (E := 42) (j := 0); (· apply hw'.holds; (repeat (first | exact mH _ _ | apply mT)); done); (· exact rfl))); (· exact rfl))|(apply LR.ev; (· apply Ev.load (v := .int .i64 k); (· exact rfl); (· intro w' hw'; apply rX_cell (br := br) (s := u) (b := bp) (cs := (({ zPkt with kind := k, to := tt } : Pkt).cells zA)) (E := 42) (j := 0); (· apply hw'.holds; (repeat (first | exact mH _ _ | apply mT)); done); (· exact rfl))); (· exact rfl))|(apply kq; (· exact rfl); (· intro w1 h1; exact CallsTo.q (p88 k 1 5 w1) h1))|(apply LR.call; (· exact rfl); (intro w1 h1; first | (refine (p87r bc br _ _ s bp (zPkt.cells zA) 42 bs [0] w1 (h1.holds (rX bc br _ _ s bp (zPkt.cells zA) 42) memZ) (h1.rd_of_blk memZ) (St.apart2 (x := .own bs (.cells _ 114 (0, 0))) h1 (.inl subZ) rfl bs rfl) (fun o ho => (show ∀ o ∈ ([0] : List Nat), o < 40 by decide) o ho) hB0.1 hB0.2 (by simp)).mono ?_; rintro v w2 ⟨_, _, rfl, st⟩; rw [q0] at st; refine LR.back (St.did h1 selZ rfl st (rX_dep _ _ _ _ _ _ _ _)) ?_; clear st h1) | (refine (p87r bc br _ _ (l0, e0) bp (({ zPkt with kind := k } : Pkt).cells zA) 42 bs [1] w1 (h1.holds (rX bc br _ _ (l0, e0) bp (({ zPkt with kind := k } : Pkt).cells zA) 42) memZ) (h1.rd_of_blk memZ) (St.apart2 (x := .own bs (.cells _ 114 (0, 0))) h1 (.inl subZ) rfl bs rfl) (fun o ho => (show ∀ o ∈ ([1] : List Nat), o < 40 by decide) o ho) (W b0).1 (W b0).2 (by simp)).mono ?_; rintro v w2 ⟨_, _, rfl, st⟩; rw [q1] at st; refine LR.back (St.did h1 selZ rfl st (rX_dep _ _ _ _ _ _ _ _)) ?_; clear st h1)))|((first|refine kR' ?_ ?_|refine kQ' ?_ ?_);all_goals(intro hc;try simp only[hcs]at hc;try(exfalso;first|contradiction|omega))))
    all_goals
      apply end0
      · exact rfl
      intro w' hS
      exact ⟨rfl, lst_end hF (hS.sub (L' := [rX bc br _ _ u bp (({ zPkt with kind := k, to := tt } : Pkt).cells zA) 42]) subZ) rfl (fun h0 => absurd h0 (by rw [hu2]; exact he))⟩
end Go.Proofs.YtkolmkdbjagfcaaGreat

namespace Go.Proofs.YtkolmkdbjagfcaaGreat
open Go.Hb
attribute [local irreducible] LR CW At Ev thn blk finK noG again CallsTo DW QL dnext TW DP
set_option maxRecDepth 100000

theorem decF_err : ∀ k i acc l, (decF k i acc l).2.2 ≠ 0 → (decF k i acc l).1 = 0
  | 0, i, acc, l => by simp [decF]
  | k + 1, i, acc, [] => by simp [decF]
  | k + 1, i, acc, x :: r => by
    unfold decF
    split
    · split
      · simp
      · simp
    · exact decF_err k _ _ r
theorem dec_err {l : List Int} (h : (dec l).2.2 ≠ 0) : (dec l).1 = 0 := decF_err 8 0 0 l h
theorem gV_bd (s : RS) : 0 ≤ gV s ∧ gV s ≤ 9007199254740991 := by
  unfold gV getS
  split
  · omega
  · have h := (decF_bound 8 0 0 s.1).2
    simp only
    by_cases h0 : (dec s.1).2.2 = 0
    · have := (h h0).2
      unfold dec at h0 ⊢
      omega
    · have : (dec s.1).1 = 0 := dec_err h0
      rw [this]; omega
theorem gT_byt {s : RS} (h : Byt s.1) : Byt (gT s).1 := getS_byt h
theorem gT_le (s : RS) : (gT s).1.length ≤ s.1.length := getS_le s
theorem lstR_len {α : Type} (f : RS → α × RS) {most : Int} (hm : 0 ≤ most) (s : RS) : ((lstR f most s).1.length : Int) ≤ most := by
  unfold lstR
  have := getS_nn s
  split
  · exact hm
  · split
    · exact hm
    · rw [rdL_len]; omega
theorem msgR_body {s : RS} (h : Byt s.1) : Byt (msgR s).1.body ∧ (msgR s).1.body.length ≤ s.1.length := by
  unfold msgR
  split
  · exact ⟨fun x hx => by simp [zeroMsg] at hx, Nat.zero_le _⟩
  · split
    · exact ⟨fun x hx => by simp [zeroMsg] at hx, Nat.zero_le _⟩
    · rename_i h1 h2
      have h3 := octs_facts (most := 512) (l := s.1) (by simpa using h2)
      have h4 := unpack_body (octs 512 s.1).1
      exact ⟨fun x hx => h x (h3.2 x (h4.2 x hx)), Nat.le_trans h4.1 (Nat.le_of_lt h3.1)⟩
theorem parse_facts {s : RS} (hB : Byt s.1) : Byt (parseP s).1.d.msg.body ∧ (parseP s).1.d.msg.body.length ≤ s.1.length ∧ (parseP s).1.t.ask.length ≤ 16 ∧ (parseP s).1.c.ents.length ≤ 8 ∧ PktI (parseP s).1 := by
  unfold parseP
  generalize gV s = k
  have hs : Byt (gT (startS k (gT s))).1 ∧ (gT (startS k (gT s))).1.length ≤ s.1.length := by
    have h1 : Byt (startS k (gT s)).1 ∧ (startS k (gT s)).1.length ≤ s.1.length := by
      unfold startS
      split
      · exact ⟨gT_byt hB, gT_le s⟩
      · exact ⟨gT_byt hB, gT_le s⟩
    exact ⟨gT_byt h1.1, Nat.le_trans (gT_le _) h1.2⟩
  generalize gV (startS k (gT s)) = tt
  generalize gT (startS k (gT s)) = u at hs
  have z : Byt (zPkt.d.msg.body) ∧ zPkt.d.msg.body.length ≤ s.1.length ∧ zPkt.t.ask.length ≤ 16 ∧ zPkt.c.ents.length ≤ 8 := ⟨fun x hx => by simp [zPkt, zeroDat, zeroMsg] at hx, Nat.zero_le _, Nat.zero_le _, Nat.zero_le _⟩
  have z2 : (-9223372036854775808 ≤ zPkt.c.mem ∧ zPkt.c.mem ≤ 9223372036854775807) := by decide
  have z3 : (-9223372036854775808 ≤ zPkt.j2 ∧ zPkt.j2 ≤ 9223372036854775807) := by decide
  have m5 := @msgR_body (gT (gT (gT (gT (gT u))))) (gT_byt (gT_byt (gT_byt (gT_byt (gT_byt hs.1)))))
  have l5 : (gT (gT (gT (gT (gT u))))).1.length ≤ u.1.length := Nat.le_trans (gT_le _) (Nat.le_trans (gT_le _) (Nat.le_trans (gT_le _) (Nat.le_trans (gT_le _) (gT_le _))))
  have n1 := lstR_len getS (most := 16) (by decide) (gT (gT (gT (gT (gT (gT (gT (gT u))))))))
  have n2 := lstR_len getE (most := 8) (by decide) (gT (gT (gT (gT u))))
  have v1 := gV_bd (gT u)
  have v2 := gV_bd (gT (gT u))
  unfold parseK
  repeat' split
  · exact ⟨m5.1, by have := m5.2; have := hs.2; simp only; omega, z.2.2.1, z.2.2.2, z2, z3⟩
  · exact ⟨z.1, z.2.1, by simp only; omega, z.2.2.2, z2, z3⟩
  · exact ⟨z.1, z.2.1, z.2.2.1, z.2.2.2, z2, by simp only; omega⟩
  · exact ⟨z.1, z.2.1, z.2.2.1, by simp only; omega, by simp only; omega, z3⟩
  · exact ⟨z.1, z.2.1, z.2.2.1, z.2.2.2, z2, z3⟩
  · exact ⟨z.1, z.2.1, z.2.2.1, z.2.2.2, z2, z3⟩
def unpackP (l : List Int) : Pkt × Int :=
  if 512 < l.length then (zPkt, 5)
  else if (openL l).2 ≠ 0 then (zPkt, (openL l).2)
  else if (parseP ((openL l).1, 0)).2.2 ≠ 0 then (zPkt, (parseP ((openL l).1, 0)).2.2)
  else if 0 < (parseP ((openL l).1, 0)).2.1.length ∨ chkP (parseP ((openL l).1, 0)).1 = false then (zPkt, 4)
  else ((parseP ((openL l).1, 0)).1, 0)
theorem zPktM (w : World) : PktM w zPkt zA := ⟨Rd.nil _ _, fun _ => rfl, Rd.nil _ _, fun _ => rfl, Rd.nil _ _, fun _ => rfl⟩
def UnpP (r : Pkt × Int) (v : Value) (w w' : World) : Prop := ∃ A X, v = .tuple [r.1.val A, .int .i64 r.2].toArray ∧ New1 X w w' ∧ X.dep ∧ X.excl = true ∧ ∀ w2, X.holds w2 → PktM w2 r.1 A
theorem unp_zero {w w' : World} {L : List Asrt} (e : Int) (hS : St w NoF L w') : UnpP (zPkt, e) (.tuple [zPkt.val zA, .int .i64 e].toArray) w w' :=
  ⟨zA, _, rfl, (hS.nilsl 3 1).new1 rfl, osl.dep _ _ _ _ _, rfl, fun w2 _ => zPktM w2⟩
def UnpQ (r : Pkt × Int) (v : Value) (w w' : World) : Prop := ∃ A X, v = .tuple [r.1.val A, .int .i64 r.2].toArray ∧ New1 X w w' ∧ X.dep ∧ X.excl = true ∧ (∀ w2, X.holds w2 → PktM w2 r.1 A) ∧ BodX X r.1 A
theorem unq_zero {w w' : World} {L : List Asrt} (e : Int) (hS : St w NoF L w') : UnpQ (zPkt, e) (.tuple [zPkt.val zA, .int .i64 e].toArray) w w' :=
  ⟨zA, _, rfl, (hS.nilsl 3 1).new1 rfl, osl.dep _ _ _ _ _, rfl, fun w2 _ => zPktM w2, fun h => absurd rfl h⟩
theorem UnpQ.toP {r : Pkt × Int} {v : Value} {w w' : World} (h : UnpQ r v w w') : UnpP r v w w' := by
  obtain ⟨A, X, h1, h2, h3, h4, h5, _⟩ := h
  exact ⟨A, X, h1, h2, h3, h4, h5⟩
theorem PktM.toR {w : World} {p : Pkt} {A : PAd} (h : PktM w p A) (hb : Byt p.d.msg.body) (h1 : p.d.msg.body.length ≤ 140737488351232) (h2 : p.t.ask.length ≤ 16) (h3 : p.c.ents.length ≤ 8) : PktR w p A :=
  ⟨h.hd, h.hdz, hb, h1, h.ht, h.htz, by omega, h.hc, h.hcz, by omega⟩
theorem open_byt {l : List Int} (hb : Byt l) : Byt (openL l).1 ∧ (openL l).1.length ≤ l.length := by
  unfold openL
  repeat' split
  · exact ⟨fun x hx => by simp at hx, Nat.zero_le _⟩
  · exact ⟨fun x hx => hb x (List.mem_of_mem_take hx), by simp only [List.length_take]; omega⟩
  · exact ⟨fun x hx => by simp at hx, Nat.zero_le _⟩
set_option maxHeartbeats 16000000 in
theorem p32q (a : Option Addr) (c : Nat) (l : List Int) (w : World) (hr : Rd w a (bv l)) (hb : Byt l) (hz : a = none → c = 0) (hcap : l.length ≤ c) (hm : l.length ≤ 140737488355000) :
    CallsTo Tryz.prog 15 [.slice a l.length c] w fun v w' => UnpQ (unpackP l) v w w' := by
  refine go_in (n := 59) (St.rd1 hr) Tryz.func15 rfl rfl ?_
  obtain ⟨r0, hr0⟩ : ∃ r, unpackP l = r := ⟨_, rfl⟩
  have hr1 := hr0
  rw [hr0]
  unfold unpackP at hr1
  by_cases h5 : 512 < l.length
  · rw [if_pos h5] at hr1
    subst hr1
    repeat'(first|(apply kA;exact rfl;intro b2)|refine kv' ?_|apply jJ|refine jE' ?_|refine jp' ?_|(apply jc;kernel_rfl)|refine kg' ?_|refine kG' ?_|refine kB' fun _=>?_|refine kA' fun _=>?_|refine kK' fun _=>?_|refine kU' ?_|((first|refine kR' ?_ ?_|refine kQ' ?_ ?_);all_goals(intro hc;try simp only[hcs]at hc;try(exfalso;first|contradiction|omega))))
    (apply ret2c; (· exact rfl); (· exact inferInstance); (· exact rfl); (· (repeat (first | exact List.Mem.head _ | apply List.Mem.tail))); (· exact rfl); intro w' hS)
    exact unq_zero 5 hS
  rw [if_neg h5] at hr1
  have hob := open_byt hb
  obtain ⟨⟨ol, oe⟩, hol⟩ : ∃ r, openL l = r := ⟨_, rfl⟩
  rw [hol] at hr1 hob
  simp only at hr1 hob
  by_cases ho : oe ≠ 0
  · rw [if_pos ho] at hr1
    subst hr1
    repeat'(first|(apply kA;exact rfl;intro b2)|refine kv' ?_|apply jJ|refine jE' ?_|refine jp' ?_|(apply jc;kernel_rfl)|refine kg' ?_|refine kG' ?_|refine kB' fun _=>?_|refine kA' fun _=>?_|refine kK' fun _=>?_|refine kU' ?_|(apply LR.call; (· exact rfl); (intro w1 h1; refine (p65 a c l w1 (h1.rd_of (a := a) (xs := bv l) memZ) hb hz hcap hm).mono ?_; rw [hol]; rintro v w2 ⟨a1, c1, hv, hn⟩; replace hv : v = .tuple [.slice a1 ol.length c1, .int .i64 oe].toArray := hv; subst hv; refine LR.back (h1.newSl hn) ?_; clear hn h1))|((first|refine kR' ?_ ?_|refine kQ' ?_ ?_);all_goals(intro hc;try simp only[hcs]at hc;try(exfalso;first|contradiction|omega))))
    (apply ret2c; (· exact rfl); (· exact inferInstance); (· exact rfl); (· (repeat (first | exact List.Mem.head _ | apply List.Mem.tail))); (· exact rfl); intro w' hS)
    exact unq_zero oe hS
  rw [if_neg ho] at hr1
  have ho2 : oe = 0 := by omega
  subst ho2
  have hpf := @parse_facts (ol, 0) hob.1
  obtain ⟨⟨p, l2, e2⟩, hp⟩ : ∃ r, parseP (ol, 0) = r := ⟨_, rfl⟩
  rw [hp] at hr1 hpf
  simp only at hr1 hpf
  obtain ⟨hpb, hpl, hpa, hpe, hpi⟩ := hpf
  repeat'(first|(apply kA;exact rfl;intro b2)|refine kv' ?_|apply jJ|refine jE' ?_|refine jp' ?_|(apply jc;kernel_rfl)|refine kg' ?_|refine kG' ?_|refine kB' fun _=>?_|refine kA' fun _=>?_|refine kK' fun _=>?_|refine kU' ?_|((first|refine kR' ?_ ?_|refine kQ' ?_ ?_);all_goals(intro hc;try simp only[hcs]at hc;try(exfalso;first|contradiction|omega))))
  apply LR.call
  · exact rfl
  intro w1 h1
  refine (p65 a c l w1 (h1.rd_of (a := a) (xs := bv l) memZ) hb hz hcap hm).mono ?_
  rw [hol]
  rintro v w2 ⟨a1, c1, hv, hn⟩
  replace hv : v = .tuple [.slice a1 ol.length c1, .int .i64 0].toArray := hv
  subst hv
  replace hn : NewSl w1 w2 (.slice a1 ol.length c1) 5 1 ol.length (bv ol) := hn
  refine LR.back (h1.newSl hn) ?_
  clear hn h1
  repeat'(first|(apply kA;exact rfl;intro bp)|(apply kB;(iterate 2 exact rfl);intro bc)|refine kv' ?_|apply jJ|refine jE' ?_|refine jp' ?_|(apply jc;kernel_rfl)|refine kg' ?_|refine kG' ?_|refine kB' fun _=>?_|refine kA' fun _=>?_|refine kK' fun _=>?_|refine kU' ?_|(apply LR.call; (· exact rfl); (intro w1 h1; refine CallsTo.mono (show CallsTo Tryz.prog 58 [.slice a1 ol.length c1] w1 _ from c65 a1 c1 ol w1 (h1.rd_of_own memZ) (fun e => (ownsRow_some (h1.holds (osl (.slice a1 ol.length c1) 5 1 ol.length (bv ol)) memZ) e).2) (by omega)) ?_; rintro v w2 ⟨br, a3, c3, rfl, hn⟩; refine LR.back (h1.got hn (rrA_dep _ _ _ _ _ _)) ?_; clear hn h1))|((first|refine kR' ?_ ?_|refine kQ' ?_ ?_);all_goals(intro hc;try simp only[hcs]at hc;try(exfalso;first|contradiction|omega))))
  apply LR.call
  · exact rfl
  intro w1 h1
  have h2 : St w NoF [rC bc br a3 c3 ol 0, .own bp (.cells (zPkt.cells zA).toArray 42 (0, 0)), osl (.slice a1 ol.length c1) 5 1 ol.length (bv ol), .own b2 (.cells (zPkt.cells zA).toArray 42 (0, 0)), rdA a (bv l)] w1 := St.join (x := codB bc none (some ⟨br, 0, none⟩) 0) h1 rfl rfl
  have h3 : St w NoF [rX bc br a3 c3 (ol, 0) bp (zPkt.cells zA) 42, osl (.slice a1 ol.length c1) 5 1 ol.length (bv ol), .own b2 (.cells (zPkt.cells zA).toArray 42 (0, 0)), rdA a (bv l)] w1 := St.join h2 rfl rfl
  refine CallsTo.mono (show CallsTo Tryz.prog 26 [.pointer (some ⟨bc, 0, none⟩), .pointer (some ⟨bp, 0, none⟩)] w1 _ from p55r bc br a3 c3 (ol, 0) bp w1 (h3.holds _ (mH _ _)) hob.1 (by have := hob.2; simp only; omega)) ?_
  rw [hp]
  rintro v w2 ⟨rfl, a4, c4, cs4, X, st, hXd, hXe, hl4, hg4⟩
  have h5 : St w NoF [codB bc none (some ⟨br, 0, none⟩) e2, rrA 142 [.bool true] br a4 c4 l2, .own bp (.cells cs4.toArray 42 (0, 0)), X, osl (.slice a1 ol.length c1) 5 1 ol.length (bv ol), .own b2 (.cells (zPkt.cells zA).toArray 42 (0, 0)), rdA a (bv l)] w2 := (((St.did h3 (Sel.head _ _ _) rfl st (both_dep (rX_dep _ _ _ _ _ _ _ _) hXd)).part (rX_dep _ _ _ _ _ _ _ _) hXd).part (rC_dep _ _ _ _ _ _) (Asrt.dep_own _ _)).part (Asrt.dep_own _ _) (rrA_dep _ _ _ _ _ _)
  refine LR.back h5 ?_
  clear h5 h3 h2 h1 st
  by_cases he : e2 = 0
  · subst he
    rw [if_neg (by simp)] at hr1
    obtain ⟨A, hcs, hX, hXb⟩ := hg4 rfl
    replace hcs : cs4 = p.cells A := hcs
    replace hX : ∀ w2, X.holds w2 → PktM w2 p A := hX
    subst hcs
    by_cases hll : 0 < l2.length
    · rw [if_pos (.inl hll)] at hr1
      subst hr1
      have hck : chkP p = chkP p := rfl
      repeat'(first|(apply CW.reg_sink 6 (St w NoF [codB bc none (some ⟨br, 0, none⟩) 4]); (· exact rfl); (· decide +kernel))|refine kv' ?_|apply jJ|refine jE' ?_|refine jp' ?_|(apply jc;kernel_rfl)|refine kg' ?_|refine kG' ?_|refine kB' fun _=>?_|refine kA' fun _=>?_|refine kK' fun _=>?_|refine kU' ?_|(apply kq; (· exact rfl); (· intro w1 h1; first | exact CallsTo.q (show CallsTo Tryz.prog 59 [.pointer (some ⟨br, 0, none⟩)] w1 _ from c68 br a4 c4 l2 w1 (h1.holds (rrA 142 [.bool true] br a4 c4 l2) memZ)) h1 | (have hq := CallsTo.q (p31 p A w1 ((hX w1 (h1.holds X memZ)).toR hpb (by omega) hpa hpe) hpi) h1; rw [hck] at hq; exact hq)))|((first|refine kR' ?_ ?_|refine kQ' ?_ ?_);all_goals(intro hc;try simp only[hcs]at hc;try(exfalso;first|contradiction|omega))))
      all_goals
        all_goals (
          apply DW.quiet [0, 1, 2, 3, 4]
          · decide +kernel
          · first | exact fun _ h => h | exact fun _ h => St.sub h subZ
          repeat'(first|refine yv' ?_|refine uv' ?_|refine un' ?_|(refine us' ?_ ?_;all_goals(intro hc;try simp only[hcs]at hc;try(exfalso;first|contradiction|omega)))|apply QL.nil)
          all_goals (show DW _ _ _ _ _ _ _ _))
        all_goals (
          apply DW.loud 5
          · exact rfl
          · decide +kernel
          repeat'(first|refine kg' ?_|refine kG' ?_|apply kM|refine kv' ?_|refine kK' fun _=>?_|refine kU' ?_|refine kB' fun _=>?_|refine kA' fun _=>?_|(apply addX;(iterate 2 exact rfl);(iterate 2(first|omega|(dsimp only;omega)));exact rfl))
          all_goals (refine At.stage_same (fun _ h => St.sub h subZ) ?_))
        all_goals (apply DW.done; (· decide +kernel))
        all_goals apply At.sink
        repeat'(first|refine kv' ?_|apply jJ|refine jE' ?_|refine jp' ?_|(apply jc;kernel_rfl)|refine kg' ?_|refine kG' ?_|refine kB' fun _=>?_|refine kA' fun _=>?_|refine kK' fun _=>?_|refine kU' ?_|((first|refine kR' ?_ ?_|refine kQ' ?_ ?_);all_goals(intro hc;try simp only[hcs]at hc;try(exfalso;first|contradiction|omega))))
        (apply ret2c; (· exact rfl); (· exact inferInstance); (· exact rfl); (· (repeat (first | exact List.Mem.head _ | apply List.Mem.tail))); (· exact rfl); intro w' hS)
        exact unq_zero 4 hS
    cases hck : chkP p
    · rw [if_pos (.inr hck)] at hr1
      subst hr1
      repeat'(first|(apply CW.reg_sink 6 (St w NoF [codB bc none (some ⟨br, 0, none⟩) 4]); (· exact rfl); (· decide +kernel))|refine kv' ?_|apply jJ|refine jE' ?_|refine jp' ?_|(apply jc;kernel_rfl)|refine kg' ?_|refine kG' ?_|refine kB' fun _=>?_|refine kA' fun _=>?_|refine kK' fun _=>?_|refine kU' ?_|(apply kq; (· exact rfl); (· intro w1 h1; first | exact CallsTo.q (show CallsTo Tryz.prog 59 [.pointer (some ⟨br, 0, none⟩)] w1 _ from c68 br a4 c4 l2 w1 (h1.holds (rrA 142 [.bool true] br a4 c4 l2) memZ)) h1 | (have hq := CallsTo.q (p31 p A w1 ((hX w1 (h1.holds X memZ)).toR hpb (by omega) hpa hpe) hpi) h1; rw [hck] at hq; exact hq)))|((first|refine kR' ?_ ?_|refine kQ' ?_ ?_);all_goals(intro hc;try simp only[hcs]at hc;try(exfalso;first|contradiction|omega))))
      all_goals
        all_goals (
          apply DW.quiet [0, 1, 2, 3, 4]
          · decide +kernel
          · first | exact fun _ h => h | exact fun _ h => St.sub h subZ
          repeat'(first|refine yv' ?_|refine uv' ?_|refine un' ?_|(refine us' ?_ ?_;all_goals(intro hc;try simp only[hcs]at hc;try(exfalso;first|contradiction|omega)))|apply QL.nil)
          all_goals (show DW _ _ _ _ _ _ _ _))
        all_goals (
          apply DW.loud 5
          · exact rfl
          · decide +kernel
          repeat'(first|refine kg' ?_|refine kG' ?_|apply kM|refine kv' ?_|refine kK' fun _=>?_|refine kU' ?_|refine kB' fun _=>?_|refine kA' fun _=>?_|(apply addX;(iterate 2 exact rfl);(iterate 2(first|omega|(dsimp only;omega)));exact rfl))
          all_goals (refine At.stage_same (fun _ h => St.sub h subZ) ?_))
        all_goals (apply DW.done; (· decide +kernel))
        all_goals apply At.sink
        repeat'(first|refine kv' ?_|apply jJ|refine jE' ?_|refine jp' ?_|(apply jc;kernel_rfl)|refine kg' ?_|refine kG' ?_|refine kB' fun _=>?_|refine kA' fun _=>?_|refine kK' fun _=>?_|refine kU' ?_|((first|refine kR' ?_ ?_|refine kQ' ?_ ?_);all_goals(intro hc;try simp only[hcs]at hc;try(exfalso;first|contradiction|omega))))
        (apply ret2c; (· exact rfl); (· exact inferInstance); (· exact rfl); (· (repeat (first | exact List.Mem.head _ | apply List.Mem.tail))); (· exact rfl); intro w' hS)
        exact unq_zero 4 hS
    · rw [if_neg (by rw [hck]; simpa using hll)] at hr1
      subst hr1
      repeat'(first|refine kv' ?_|apply jJ|refine jE' ?_|refine jp' ?_|(apply jc;kernel_rfl)|refine kg' ?_|refine kG' ?_|refine kB' fun _=>?_|refine kA' fun _=>?_|refine kK' fun _=>?_|refine kU' ?_|(apply kq; (· exact rfl); (· intro w1 h1; first | exact CallsTo.q (show CallsTo Tryz.prog 59 [.pointer (some ⟨br, 0, none⟩)] w1 _ from c68 br a4 c4 l2 w1 (h1.holds (rrA 142 [.bool true] br a4 c4 l2) memZ)) h1 | (have hq := CallsTo.q (p31 p A w1 ((hX w1 (h1.holds X memZ)).toR hpb (by omega) hpa hpe) hpi) h1; rw [hck] at hq; exact hq)))|((first|refine kR' ?_ ?_|refine kQ' ?_ ?_);all_goals(intro hc;try simp only[hcs]at hc;try(exfalso;first|contradiction|omega))))
      (apply ret2c; (· exact rfl); (· exact inferInstance); (· exact rfl); (· (repeat (first | exact List.Mem.head _ | apply List.Mem.tail))); (· exact rfl); intro w' hS)
      exact ⟨A, X, rfl, (front hS 3 rfl rfl).new1 hXe, hXd, hXe, hX, hXb⟩
  · rw [if_pos he] at hr1
    subst hr1
    repeat'(first|(apply CW.reg_sink 6 (St w NoF [codB bc none (some ⟨br, 0, none⟩) e2]); (· exact rfl); (· decide +kernel))|refine kv' ?_|apply jJ|refine jE' ?_|refine jp' ?_|(apply jc;kernel_rfl)|refine kg' ?_|refine kG' ?_|refine kB' fun _=>?_|refine kA' fun _=>?_|refine kK' fun _=>?_|refine kU' ?_|((first|refine kR' ?_ ?_|refine kQ' ?_ ?_);all_goals(intro hc;try simp only[hcs]at hc;try(exfalso;first|contradiction|omega))))
    all_goals
      all_goals (
        apply DW.quiet [0, 1, 2, 3, 4]
        · decide +kernel
        · first | exact fun _ h => h | exact fun _ h => St.sub h subZ
        repeat'(first|refine yv' ?_|refine uv' ?_|refine un' ?_|(refine us' ?_ ?_;all_goals(intro hc;try simp only[hcs]at hc;try(exfalso;first|contradiction|omega)))|apply QL.nil)
        all_goals (show DW _ _ _ _ _ _ _ _))
      all_goals (
        apply DW.loud 5
        · exact rfl
        · decide +kernel
        repeat'(first|refine kg' ?_|refine kG' ?_|apply kM|refine kv' ?_|refine kK' fun _=>?_|refine kU' ?_|refine kB' fun _=>?_|refine kA' fun _=>?_|(apply addX;(iterate 2 exact rfl);(iterate 2(first|omega|(dsimp only;omega)));exact rfl))
        all_goals (refine At.stage_same (fun _ h => St.sub h subZ) ?_))
      all_goals (apply DW.done; (· decide +kernel))
      all_goals apply At.sink
      repeat'(first|refine kv' ?_|apply jJ|refine jE' ?_|refine jp' ?_|(apply jc;kernel_rfl)|refine kg' ?_|refine kG' ?_|refine kB' fun _=>?_|refine kA' fun _=>?_|refine kK' fun _=>?_|refine kU' ?_|((first|refine kR' ?_ ?_|refine kQ' ?_ ?_);all_goals(intro hc;try simp only[hcs]at hc;try(exfalso;first|contradiction|omega))))
      (apply ret2c; (· exact rfl); (· exact inferInstance); (· exact rfl); (· (repeat (first | exact List.Mem.head _ | apply List.Mem.tail))); (· exact rfl); intro w' hS)
      exact unq_zero e2 hS
theorem p32 (a : Option Addr) (c : Nat) (l : List Int) (w : World) (hr : Rd w a (bv l)) (hb : Byt l) (hz : a = none → c = 0) (hcap : l.length ≤ c) (hm : l.length ≤ 140737488355000) :
    CallsTo Tryz.prog 15 [.slice a l.length c] w fun v w' => UnpP (unpackP l) v w w' := (p32q a c l w hr hb hz hcap hm).mono fun _ _ h => h.toP
end Go.Proofs.YtkolmkdbjagfcaaGreat

namespace Go.Proofs.YtkolmkdbjagfcaaGreat
open Go.Hb
set_option maxRecDepth 100000

theorem encs_cons (x : Int) (xs : List Int) : encs (x :: xs) = enc x.toNat ++ encs xs := rfl
theorem encs_nil : encs [] = [] := rfl
theorem getS_enc {x : Int} {r : List Int} (h : okN x) : getS (enc x.toNat ++ r, 0) = (x, (r, 0)) := by
  unfold okN at h
  have hd := dec_enc x.toNat (by omega) r
  unfold getS
  simp only
  rw [if_neg (by simp), hd]
  simp only [List.drop_left]
  rw [show ((x.toNat : Nat) : Int) = x by omega]
theorem gV_enc {x : Int} {r : List Int} (h : okN x) : gV (enc x.toNat ++ r, 0) = x := by unfold gV; rw [getS_enc h]
theorem gT_enc {x : Int} {r : List Int} (h : okN x) : gT (enc x.toNat ++ r, 0) = (r, 0) := by unfold gT; rw [getS_enc h]
theorem rdL_cons {α : Type} (f : RS → α × RS) : ∀ (k : Nat) (s : RS), rdL f (k + 1) s = ((f s).1 :: (rdL f k (f s).2).1, (rdL f k (f s).2).2)
  | 0, s => rfl
  | k + 1, s => by
    have ih := rdL_cons f k s
    rw [rdL, ih]
    rfl
theorem getE_enc {e : Ent} {r : List Int} (h : ∀ x ∈ e.nums, okN x) : getE (encs e.nums ++ r, 0) = (e, (r, 0)) := by
  obtain ⟨a, b, c, d, e, f⟩ := e
  have h1 : okN a := h a (by simp [Ent.nums])
  have h2 : okN b := h b (by simp [Ent.nums])
  have h3 : okN c := h c (by simp [Ent.nums])
  have h4 : okN d := h d (by simp [Ent.nums])
  have h5 : okN e := h e (by simp [Ent.nums])
  have h6 : okN f := h f (by simp [Ent.nums])
  unfold getE
  simp only [Ent.nums, encs_cons, encs_nil, List.append_assoc, List.nil_append, getS_enc h1, getS_enc h2, getS_enc h3, getS_enc h4, getS_enc h5, getS_enc h6]
theorem rdL_code {α : Type} {f : RS → α × RS} {code : α → List Int} {P : α → Prop} (hf : ∀ x r, P x → f (code x ++ r, 0) = (x, (r, 0))) : ∀ (l : List α) (r : List Int), (∀ x ∈ l, P x) → rdL f l.length (l.flatMap code ++ r, 0) = (l, (r, 0))
  | [], r, _ => rfl
  | x :: l, r, h => by
    rw [List.length_cons, rdL_cons, List.flatMap_cons, List.append_assoc, hf x _ (h x (by simp))]
    simp only
    rw [rdL_code hf l r fun y hy => h y (by simp [hy])]
theorem lstR_code {α : Type} {f : RS → α × RS} {code : α → List Int} {P : α → Prop} (hf : ∀ x r, P x → f (code x ++ r, 0) = (x, (r, 0))) {most : Int} {l : List α} (r : List Int) (h : ∀ x ∈ l, P x) (hl : (l.length : Int) ≤ most) (hm : most ≤ 100) : lstR f most (enc l.length ++ (l.flatMap code ++ r), 0) = (l, (r, 0)) := by
  have hg : getS (enc l.length ++ (l.flatMap code ++ r), 0) = ((l.length : Int), (l.flatMap code ++ r, 0)) := by
    have := @getS_enc (l.length : Int) (l.flatMap code ++ r) (by unfold okN; omega)
    rw [Int.toNat_natCast] at this
    exact this
  unfold lstR
  rw [hg]
  simp only
  rw [if_neg (by simp), if_neg (by omega), Int.toNat_natCast]
  exact rdL_code hf l r h
theorem msgR_code {m : Msg} (h : check m = 0) (r : List Int) : msgR (enc (bytesM m).length ++ (bytesM m ++ r), 0) = (m, (r, 0)) := by
  have h1 := bytesM_len m
  have h2 := (check_ok h).1
  have h3 : octs 512 (enc (bytesM m).length ++ (bytesM m ++ r)) = (bytesM m, 0, r) := by
    rw [← List.append_assoc]
    exact octs_enc (by omega) (by omega)
  unfold msgR
  simp only
  rw [if_neg (by simp), h3]
  simp only
  rw [if_neg (by simp), unpack_bytes h]
theorem encs_flat (l : List Int) : encs l = l.flatMap fun x => encs [x] := by
  induction l with
  | nil => rfl
  | cons x l ih => rw [List.flatMap_cons, ← ih]; rw [encs_cons, encs_cons, encs_nil, List.append_nil]
theorem encs_ents : ∀ (l : List Ent), encs (l.flatMap Ent.nums) = l.flatMap fun e => encs e.nums
  | [] => rfl
  | e :: l => by rw [List.flatMap_cons, List.flatMap_cons, encs_app, encs_ents l]
theorem int1 : ∀ (x : Int) (r : List Int), okN x → getS (encs [x] ++ r, 0) = (x, (r, 0)) := fun x r h => by
  rw [encs_cons, encs_nil, List.append_nil]
  exact getS_enc h
theorem data_zero {d : Dat} (h : dataS d = false) : d = zeroDat := by
  obtain ⟨a, b, c, e, f, ⟨x1, x2, x3, x4, x5, x6, x7, x8, x9, x10, x11, x12, x13⟩⟩ := d
  simp only [dataS, Bool.or_eq_false_iff, Bool.not_eq_false', decide_eq_true_eq, decide_eq_false_iff_not, List.cons.injEq, and_true] at h
  have hb : x13 = [] := List.eq_nil_of_length_eq_zero (by omega)
  simp only [zeroDat, zeroMsg]
  simp_all
theorem tok_zero {t : Tkn} (h : tokS t = false) : t = zTkn := by
  obtain ⟨a, b, c, e, f, g, i, j, k⟩ := t
  simp only [tokS, Bool.or_eq_false_iff, Bool.not_eq_false', decide_eq_true_eq, decide_eq_false_iff_not, List.cons.injEq, and_true] at h
  have hb : k = [] := List.eq_nil_of_length_eq_zero (by omega)
  simp only [zTkn]
  simp_all
theorem shape_of {p : Pkt} {a b c d e : Bool} (h : shapeB p = [a, b, c, d, e]) : dataS p.d = a ∧ tokS p.t = b ∧ joinS p = c ∧ comS p.c = d ∧ beaS p = e := by
  simpa [shapeB] using h
theorem join_zero {p : Pkt} (h : joinS p = false) : p.j1 = 0 ∧ p.j2 = 0 ∧ p.j3 = 0 := by
  simpa [joinS] using h
theorem bea_zero {p : Pkt} (h : beaS p = false) : p.b1 = 0 ∧ p.b2 = 0 ∧ p.b3 = 0 := by
  simpa [beaS] using h
theorem com_zero {x : Cmt} (h : comS x = false) : x = zCmt := by
  obtain ⟨a, b, c, d, e⟩ := x
  simp only [comS, Bool.or_eq_false_iff, Bool.not_eq_false', decide_eq_true_eq, decide_eq_false_iff_not, List.cons.injEq, and_true] at h
  have hb : e = [] := List.eq_nil_of_length_eq_zero (by omega)
  simp only [zCmt]
  simp_all
theorem parse_body {p : Pkt} (h : chkP p = true) : parseP (bodyP p, 0) = (p, ([], 0)) := by
  obtain ⟨hm, hs⟩ := chk_may h
  obtain ⟨ok1, ok2, hr, hn⟩ := may_num hm
  have e0 : (bodyP p, (0 : Int)) = (enc p.kind.toNat ++ (enc p.to.toNat ++ (encs (numsP p) ++ tailP p)), 0) := by
    unfold bodyP
    simp only [encs_cons, encs_nil, List.append_assoc, List.nil_append]
  unfold parseP
  rw [e0, gV_enc ok1, gT_enc ok1]
  have e1 : startS p.kind (enc p.to.toNat ++ (encs (numsP p) ++ tailP p), 0) = (enc p.to.toNat ++ (encs (numsP p) ++ tailP p), 0) := by
    unfold startS
    rw [if_neg (by simp only; omega)]
  rw [e1, gV_enc ok2, gT_enc ok2]
  unfold numsP at hn ⊢
  unfold tailP parseK
  rcases may_kinds hm with hk | hk | hk | hk | hk
  · simp only [hk] at hn hs ⊢
    simp only [reduceIte, List.mem_cons, List.not_mem_nil, or_false, forall_eq_or_imp, forall_eq] at hn ⊢
    obtain ⟨n1, n2, n3, n4, n5⟩ := hn
    obtain ⟨z1, z2, z3, z4, z5⟩ := shape_of (show shapeB p = [true, false, false, false, false] from hs)
    have hc := may_msg hm hk
    have em := msgR_code hc []
    rw [List.append_nil] at em
    have y2 := tok_zero z2
    have y3 := join_zero z3
    have y4 := com_zero z4
    have y5 := bea_zero z5
    simp only [encs_cons, encs_nil, List.append_assoc, List.nil_append, gV_enc n1, gV_enc n2, gV_enc n3, gV_enc n4, gV_enc n5, gT_enc n1, gT_enc n2, gT_enc n3, gT_enc n4, gT_enc n5, em]
    obtain ⟨kind, to, d, t, j1, j2, j3, c, b1, b2, b3⟩ := p
    simp only at *
    simp_all [zPkt]
  · simp only [hk] at hn hs ⊢
    simp (config := { decide := true }) only [reduceIte, List.mem_cons, List.not_mem_nil, or_false, forall_eq_or_imp, forall_eq] at hn ⊢
    obtain ⟨n1, n2, n3, n4, n5, n6, n7, n8⟩ := hn
    obtain ⟨z1, z2, z3, z4, z5⟩ := shape_of (show shapeB p = [false, true, false, false, false] from hs)
    have hc := may_ask hm hk
    have em := lstR_code (most := 16) (P := okN) int1 [] hc.2 (by omega) (by decide)
    rw [List.append_nil, ← encs_flat] at em
    have y1 := data_zero z1
    have y3 := join_zero z3
    have y4 := com_zero z4
    have y5 := bea_zero z5
    simp only [encs_cons, encs_nil, List.append_assoc, List.nil_append, gV_enc n1, gT_enc n1, gV_enc n2, gT_enc n2, gV_enc n3, gT_enc n3, gV_enc n4, gT_enc n4, gV_enc n5, gT_enc n5, gV_enc n6, gT_enc n6, gV_enc n7, gT_enc n7, gV_enc n8, gT_enc n8, em]
    obtain ⟨kind, to, d, t, j1, j2, j3, c, b1, b2, b3⟩ := p
    simp only at *
    simp_all [zPkt]
  · simp only [hk] at hn hs ⊢
    simp (config := { decide := true }) only [reduceIte, List.mem_cons, List.not_mem_nil, or_false, forall_eq_or_imp, forall_eq] at hn ⊢
    obtain ⟨n1, n2, n3⟩ := hn
    obtain ⟨z1, z2, z3, z4, z5⟩ := shape_of (show shapeB p = [false, false, true, false, false] from hs)
    have y1 := data_zero z1
    have y2 := tok_zero z2
    have y4 := com_zero z4
    have y5 := bea_zero z5
    simp only [encs_cons, encs_nil, List.append_assoc, List.nil_append, gV_enc n1, gT_enc n1, gV_enc n2, gT_enc n2, gV_enc n3, gT_enc n3]
    obtain ⟨kind, to, d, t, j1, j2, j3, c, b1, b2, b3⟩ := p
    simp only at *
    simp_all [zPkt]
  · simp only [hk] at hn hs ⊢
    simp (config := { decide := true }) only [reduceIte, List.mem_cons, List.not_mem_nil, or_false, forall_eq_or_imp, forall_eq] at hn ⊢
    obtain ⟨n1, n2, n3, n4⟩ := hn
    obtain ⟨z1, z2, z3, z4, z5⟩ := shape_of (show shapeB p = [false, false, false, true, false] from hs)
    have hc := may_ents hm hk
    have em := lstR_code (most := 8) (code := fun e : Ent => encs e.nums) (P := fun e : Ent => ∀ x ∈ e.nums, okN x) (l := p.c.ents) (fun e r h => getE_enc h) [] hc.2 (by omega) (by decide)
    rw [List.append_nil, ← encs_ents] at em
    have y1 := data_zero z1
    have y2 := tok_zero z2
    have y3 := join_zero z3
    have y5 := bea_zero z5
    simp only [encs_cons, encs_nil, List.append_assoc, List.nil_append, gV_enc n1, gT_enc n1, gV_enc n2, gT_enc n2, gV_enc n3, gT_enc n3, gV_enc n4, gT_enc n4, em]
    obtain ⟨kind, to, d, t, j1, j2, j3, c, b1, b2, b3⟩ := p
    simp only at *
    simp_all [zPkt]
  · simp only [hk] at hn hs ⊢
    simp (config := { decide := true }) only [reduceIte, List.mem_cons, List.not_mem_nil, or_false, forall_eq_or_imp, forall_eq] at hn ⊢
    obtain ⟨n1, n2, n3⟩ := hn
    obtain ⟨z1, z2, z3, z4, z5⟩ := shape_of (show shapeB p = [false, false, false, false, true] from hs)
    have y1 := data_zero z1
    have y2 := tok_zero z2
    have y3 := join_zero z3
    have y4 := com_zero z4
    simp only [encs_cons, encs_nil, List.append_assoc, List.nil_append, gV_enc n1, gT_enc n1, gV_enc n2, gT_enc n2, gV_enc n3, gT_enc n3]
    obtain ⟨kind, to, d, t, j1, j2, j3, c, b1, b2, b3⟩ := p
    simp only at *
    simp_all [zPkt]
end Go.Proofs.YtkolmkdbjagfcaaGreat

namespace Go.Proofs.YtkolmkdbjagfcaaGreat
open Go.Hb
set_option maxRecDepth 100000

theorem encs_len8 : ∀ (xs : List Int), (∀ x ∈ xs, okN x) → (encs xs).length ≤ 8 * xs.length
  | [], _ => by simp [encs_nil]
  | x :: xs, h => by
    rw [encs_cons, List.length_append, List.length_cons]
    have h1 := h x (by simp)
    have h2 : (enc x.toNat).length ≤ 8 := enc_len8 (by unfold okN at h1; omega)
    have h3 := encs_len8 xs fun y hy => h y (by simp [hy])
    omega
theorem body_508 {p : Pkt} (h : mayP p = true) : (bodyP p).length ≤ 508 := by
  obtain ⟨ok1, ok2, hr, hn⟩ := may_num h
  unfold bodyP
  simp only [List.length_append]
  have h1 := encs_len8 [p.kind, p.to] (fun x hx => by simp only [List.mem_cons, List.not_mem_nil, or_false] at hx; rcases hx with rfl | rfl; (· exact ok1); (· exact ok2))
  have h2 := encs_len8 (numsP p) hn
  simp only [List.length_cons, List.length_nil] at h1
  rcases may_kinds h with k | k | k | k | k
  · have h3 : (numsP p).length = 5 := by unfold numsP; simp [k]
    have h4 : (tailP p).length ≤ 290 := by
      unfold tailP
      rw [if_pos k, List.length_append]
      have h4 := bytesM_len p.d.msg
      have h5 := (check_ok (may_msg h k)).1
      have h6 : (enc (bytesM p.d.msg).length).length ≤ 2 := enc_len2 (by omega)
      omega
    omega
  · have h3 : (numsP p).length = 8 := by unfold numsP; simp [k]
    have h4 : (tailP p).length ≤ 140 := by
      unfold tailP
      rw [if_neg (by omega), if_pos k, List.length_append]
      have h4 := may_ask h k
      have h5 := encs_len8 p.t.ask h4.2
      have h6 : (enc p.t.ask.length).length ≤ 2 := enc_len2 (by omega)
      omega
    omega
  · have h3 : (numsP p).length = 3 := by unfold numsP; simp [k]
    have h4 : (tailP p).length = 0 := by unfold tailP; simp [k]
    omega
  · have h3 : (numsP p).length = 4 := by unfold numsP; simp [k]
    have h4 : (tailP p).length ≤ 390 := by
      unfold tailP
      rw [if_neg (by omega), if_neg (by omega), if_pos k, List.length_append]
      have h4 := may_ents h k
      have h5 := encs_len8 (p.c.ents.flatMap Ent.nums) (fun x hx => by
        obtain ⟨e, he, hx⟩ := List.mem_flatMap.1 hx
        exact h4.2 e he x hx)
      rw [encsF_len] at h5
      have h6 : (enc p.c.ents.length).length ≤ 2 := enc_len2 (by omega)
      omega
    omega
  · have h3 : (numsP p).length = 3 := by unfold numsP; simp [k]
    have h4 : (tailP p).length = 0 := by unfold tailP; simp [k]
    omega
theorem unpack_pack {p : Pkt} (h : chkP p = true) : unpackP (sealL (bodyP p)) = (p, 0) ∧ (sealL (bodyP p)).length ≤ 512 := by
  have hl := body_508 (chk_may h).1
  refine ⟨?_, by rw [sealL_len]; omega⟩
  unfold unpackP
  rw [if_neg (by rw [sealL_len]; omega), open_seal]
  simp only
  rw [if_neg (by simp), parse_body h]
  simp only
  rw [if_neg (by simp), if_neg (by simp [h])]
theorem getS_canon {s : RS} (hB : Byt s.1) (h : (getS s).2.2 = 0) : s.2 = 0 ∧ s.1 = enc (getS s).1.toNat ++ (getS s).2.1 := by
  by_cases he : s.2 = 0
  · refine ⟨he, ?_⟩
    rw [getS_ok he] at h ⊢
    simp only at h ⊢
    obtain ⟨r, h1, h2, h3⟩ := dec_canon hB h
    rw [h2, Int.toNat_natCast]
    generalize (dec s.1).1 = n at h1 h2
    rw [h1, List.drop_left]
  · rw [getS_err he] at h
    exact absurd h he
theorem gT_canon {s : RS} (hB : Byt s.1) (h : (gT s).2 = 0) : s.2 = 0 ∧ s.1 = enc (gV s).toNat ++ (gT s).1 := getS_canon hB h
theorem getE_canon {s : RS} (hB : Byt s.1) (h : (getE s).2.2 = 0) : s.2 = 0 ∧ s.1 = encs (getE s).1.nums ++ (getE s).2.1 := by
  have b1 := gT_byt hB
  have b2 := gT_byt b1
  have b3 := gT_byt b2
  have b4 := gT_byt b3
  have b5 := gT_byt b4
  have c6 := gT_canon b5 (show (gT (gT (gT (gT (gT (gT s)))))).2 = 0 from h)
  have c5 := gT_canon b4 c6.1
  have c4 := gT_canon b3 c5.1
  have c3 := gT_canon b2 c4.1
  have c2 := gT_canon b1 c3.1
  have c1 := gT_canon hB c2.1
  refine ⟨c1.1, ?_⟩
  show s.1 = encs [gV s, gV (gT s), gV (gT (gT s)), gV (gT (gT (gT s))), gV (gT (gT (gT (gT s)))), gV (gT (gT (gT (gT (gT s)))))] ++ (gT (gT (gT (gT (gT (gT s)))))).1
  simp only [encs_cons, encs_nil, List.append_assoc, List.nil_append]
  rw [← c6.2, ← c5.2, ← c4.2, ← c3.2, ← c2.2, ← c1.2]
theorem rdL_canon {α : Type} {f : RS → α × RS} {code : α → List Int} (hb : ∀ s, Byt s.1 → Byt (f s).2.1) (hf : ∀ s, Byt s.1 → (f s).2.2 = 0 → s.2 = 0 ∧ s.1 = code (f s).1 ++ (f s).2.1) : ∀ (k : Nat) (s : RS), Byt s.1 → (rdL f k s).2.2 = 0 → s.2 = 0 ∧ s.1 = (rdL f k s).1.flatMap code ++ (rdL f k s).2.1
  | 0, s, _, h => ⟨h, rfl⟩
  | k + 1, s, hB, h => by
    rw [rdL_cons] at h ⊢
    simp only at h ⊢
    have ih := rdL_canon hb hf k (f s).2 (hb s hB) h
    have h1 := hf s hB ih.1
    refine ⟨h1.1, ?_⟩
    rw [List.flatMap_cons, List.append_assoc, ← ih.2, ← h1.2]
theorem lstR_canon {α : Type} {f : RS → α × RS} {code : α → List Int} {most : Int} (hb : ∀ s, Byt s.1 → Byt (f s).2.1) (hf : ∀ s, Byt s.1 → (f s).2.2 = 0 → s.2 = 0 ∧ s.1 = code (f s).1 ++ (f s).2.1) {s : RS} (hB : Byt s.1) (h : (lstR f most s).2.2 = 0) : s.2 = 0 ∧ s.1 = enc (lstR f most s).1.length ++ ((lstR f most s).1.flatMap code ++ (lstR f most s).2.1) := by
  unfold lstR at h ⊢
  by_cases h1 : (getS s).2.2 ≠ 0
  · rw [if_pos h1] at h
    exact absurd h h1
  rw [if_neg h1] at h ⊢
  have h1 : (getS s).2.2 = 0 := by simpa using h1
  by_cases h2 : most < (getS s).1
  · rw [if_pos h2] at h
    cases h
  rw [if_neg h2] at h ⊢
  have h3 := getS_canon hB h1
  have h4 := rdL_canon hb hf (getS s).1.toNat (getS s).2 (getS_byt hB) h
  refine ⟨h3.1, ?_⟩
  rw [rdL_len, ← h4.2, ← h3.2]
theorem msgR_canon {s : RS} (hB : Byt s.1) (h : (msgR s).2.2 = 0) : s.2 = 0 ∧ s.1 = enc (bytesM (msgR s).1).length ++ (bytesM (msgR s).1 ++ (msgR s).2.1) := by
  unfold msgR at h ⊢
  by_cases h1 : s.2 ≠ 0
  · rw [if_pos h1] at h
    exact absurd h h1
  rw [if_neg h1] at h ⊢
  by_cases h2 : (octs 512 s.1).2.1 ≠ 0
  · rw [if_pos h2] at h
    exact absurd h h2
  rw [if_neg h2] at h ⊢
  have h2 : (octs 512 s.1).2.1 = 0 := by simpa using h2
  have h3 := octs_canon hB h2
  have h4 := octs_facts h2
  have h5 := unpack_canon (l := (octs 512 s.1).1) (fun x hx => hB x (h4.2 x hx)) h
  refine ⟨by simpa using h1, ?_⟩
  simp only
  rw [h5.2, ← List.append_assoc]
  exact h3.1
theorem parse_canon {b : List Int} {p : Pkt} (hB : Byt b) (h : parseP (b, 0) = (p, ([], 0))) (hc : chkP p = true) : bodyP p = b := by
  have hm := (chk_may hc).1
  have hr := (may_num hm).2.2.1
  unfold parseP at h
  obtain ⟨k, hk⟩ : ∃ k, gV (b, 0) = k := ⟨_, rfl⟩
  obtain ⟨s1, hs1⟩ : ∃ r, startS k (gT (b, 0)) = r := ⟨_, rfl⟩
  obtain ⟨tt, htt⟩ : ∃ k, gV s1 = k := ⟨_, rfl⟩
  obtain ⟨u, hu⟩ : ∃ r, gT s1 = r := ⟨_, rfl⟩
  rw [hk, hs1, htt, hu] at h
  have hBg : Byt (gT (b, 0)).1 := gT_byt hB
  have hs : startS k (gT (b, 0)) = gT (b, 0) ∨ (startS k (gT (b, 0))).2 ≠ 0 := by
    unfold startS
    split
    · exact .inr (by simp)
    · exact .inl rfl
  have hBs : Byt s1.1 := by
    rw [← hs1]
    unfold startS
    split <;> exact hBg
  have hBu : Byt u.1 := by rw [← hu]; exact gT_byt hBs
  have head : u.2 = 0 → b = enc k.toNat ++ (enc tt.toNat ++ u.1) := by
    intro h0
    rw [← hu] at h0 ⊢
    have c1 := gT_canon hBs h0
    rw [htt] at c1
    rcases hs with h1 | h1
    · rw [hs1] at h1
      rw [h1] at c1
      have c0 := gT_canon (s := (b, 0)) hB c1.1
      rw [hk] at c0
      rw [h1, ← c1.2]
      exact c0.2
    · rw [hs1] at h1
      exact absurd c1.1 h1
  have hbody : bodyP p = enc p.kind.toNat ++ (enc p.to.toNat ++ (encs (numsP p) ++ tailP p)) := by
    unfold bodyP
    simp only [encs_cons, encs_nil, List.append_assoc, List.nil_append]
  have B1 := gT_byt hBu
  have B2 := gT_byt B1
  have B3 := gT_byt B2
  have B4 := gT_byt B3
  have B5 := gT_byt B4
  have B6 := gT_byt B5
  have B7 := gT_byt B6
  have B8 := gT_byt B7
  unfold parseK at h
  rw [hbody]
  by_cases k1 : k = 1
  · rw [if_pos k1] at h
    obtain ⟨h1, h2⟩ := Prod.mk.inj h
    have m := msgR_canon B5 (by rw [h2])
    rw [h2, List.append_nil] at m
    have c4 := gT_canon B4 m.1
    have c3 := gT_canon B3 c4.1
    have c2 := gT_canon B2 c3.1
    have c1 := gT_canon B1 c2.1
    have c0 := gT_canon hBu c1.1
    rw [head c0.1, c0.2, c1.2, c2.2, c3.2, c4.2, m.2]
    subst h1
    unfold numsP tailP
    simp only [k1, reduceIte, encs_cons, encs_nil, List.append_assoc, List.nil_append]
  rw [if_neg k1] at h
  by_cases k2 : k = 2
  · rw [if_pos k2] at h
    obtain ⟨h1, h2⟩ := Prod.mk.inj h
    have m := lstR_canon (most := 16) (code := fun x => encs [x]) (fun s => getS_byt) (fun s hB h => by (have := getS_canon hB h); rw [encs_cons, encs_nil, List.append_nil]; exact this) B8 (by rw [h2])
    rw [h2, List.append_nil, ← encs_flat] at m
    have c7 := gT_canon B7 m.1
    have c6 := gT_canon B6 c7.1
    have c5 := gT_canon B5 c6.1
    have c4 := gT_canon B4 c5.1
    have c3 := gT_canon B3 c4.1
    have c2 := gT_canon B2 c3.1
    have c1 := gT_canon B1 c2.1
    have c0 := gT_canon hBu c1.1
    rw [head c0.1, c0.2, c1.2, c2.2, c3.2, c4.2, c5.2, c6.2, c7.2, m.2]
    subst h1
    unfold numsP tailP
    simp (config := { decide := true }) only [k2, reduceIte, encs_cons, encs_nil, List.append_assoc, List.nil_append]
  rw [if_neg k2] at h
  by_cases k3 : k = 3
  · rw [if_pos k3] at h
    obtain ⟨h1, h2⟩ := Prod.mk.inj h
    have c2 := gT_canon B2 (by rw [h2])
    have c1 := gT_canon B1 c2.1
    have c0 := gT_canon hBu c1.1
    rw [head c0.1, c0.2, c1.2, c2.2, h2]
    subst h1
    unfold numsP tailP
    simp (config := { decide := true }) only [k3, reduceIte, encs_cons, encs_nil, List.append_assoc, List.nil_append]
  rw [if_neg k3] at h
  by_cases k4 : k = 4
  · rw [if_pos k4] at h
    obtain ⟨h1, h2⟩ := Prod.mk.inj h
    have m := lstR_canon (most := 8) (code := fun e : Ent => encs e.nums) (fun s => getE_byt) (fun s hB h => getE_canon hB h) B4 (by rw [h2])
    rw [h2, List.append_nil, ← encs_ents] at m
    have c3 := gT_canon B3 m.1
    have c2 := gT_canon B2 c3.1
    have c1 := gT_canon B1 c2.1
    have c0 := gT_canon hBu c1.1
    rw [head c0.1, c0.2, c1.2, c2.2, c3.2, m.2]
    subst h1
    unfold numsP tailP
    simp (config := { decide := true }) only [k4, reduceIte, encs_cons, encs_nil, List.append_assoc, List.nil_append]
  rw [if_neg k4] at h
  by_cases k5 : k = 5
  · rw [if_pos k5] at h
    obtain ⟨h1, h2⟩ := Prod.mk.inj h
    have c2 := gT_canon B2 (by rw [h2])
    have c1 := gT_canon B1 c2.1
    have c0 := gT_canon hBu c1.1
    rw [head c0.1, c0.2, c1.2, c2.2, h2]
    subst h1
    unfold numsP tailP
    simp (config := { decide := true }) only [k5, reduceIte, encs_cons, encs_nil, List.append_assoc, List.nil_append]
  · rw [if_neg k5] at h
    obtain ⟨h1, h2⟩ := Prod.mk.inj h
    subst h1
    exfalso
    simp only at hr
    omega
theorem pack_unpack {b : List Int} (hB : Byt b) (h : (unpackP (sealL b)).2 = 0) : packP (unpackP (sealL b)).1 = (sealL b, 0) := by
  unfold unpackP at h ⊢
  by_cases h1 : 512 < (sealL b).length
  · rw [if_pos h1] at h
    cases h
  rw [if_neg h1] at h ⊢
  rw [open_seal] at h ⊢
  simp only at h ⊢
  rw [if_neg (by simp)] at h ⊢
  by_cases h2 : (parseP (b, 0)).2.2 ≠ 0
  · rw [if_pos h2] at h
    exact absurd h h2
  rw [if_neg h2] at h ⊢
  by_cases h3 : 0 < (parseP (b, 0)).2.1.length ∨ chkP (parseP (b, 0)).1 = false
  · rw [if_pos h3] at h
    cases h
  rw [if_neg h3]
  simp only
  have hl : (parseP (b, 0)).2.1 = [] := List.eq_nil_of_length_eq_zero (by omega)
  have he : (parseP (b, 0)).2.2 = 0 := by simpa using h2
  have hc : chkP (parseP (b, 0)).1 = true := by
    cases hx : chkP (parseP (b, 0)).1
    · exact absurd (.inr hx) h3
    · rfl
  have hp : parseP (b, 0) = ((parseP (b, 0)).1, ([], 0)) := Prod.ext rfl (Prod.ext hl he)
  unfold packP
  rw [if_pos hc, parse_canon hB hp hc]
theorem unpack_bad {l : List Int} (h : (unpackP l).2 ≠ 0) : (unpackP l).1 = zPkt := by
  unfold unpackP at h ⊢
  repeat' split
  all_goals first | rfl | (exfalso; simp_all)
end Go.Proofs.YtkolmkdbjagfcaaGreat

namespace Go.Hb
theorem zeroCells_one (z : Value) (m : Nat) : (Builtin.zeroCells [z].toArray m).toList = List.replicate m z := by
  simp [Builtin.zeroCells]
  apply List.ext_getElem
  · simp
  · intro i h1 h2
    simp [Nat.mod_one]
theorem run_clear {P : Program} {w : World} {t E ty : TypeId} {z : Value} {by_ : Nat} (h : SliceOf P t E 1 by_) (hz : ZeroOf P E [z]) (h1 : z.oneCell' = true) {a : Option Addr} {n c j : Nat} {xs : List Value} (hw : ownsAt w E 1 (.slice a n c) n xs) (hj : j ≤ n) :
    ∃ w', (Builtin.clear_ #[t] ty #[.slice (subA a c j 1) (n - j) (c - j)]).run P w = .ok (.tuple #[]) w' ∧ Step (odl (.slice a n c) E 1 n xs) (odl (.slice a n c) E 1 n (xs.take j ++ List.replicate (n - j) z)) w w' := by
  obtain ⟨hl, hr⟩ := hw
  have hl' : xs.length = n := by omega
  by_cases hm : n - j = 0
  · refine ⟨w, ?_, ?_⟩
    · rw [hm]
      cases subA a c j 1 <;> simp [Builtin.clear_, run_underlying h.und]
    · have e : xs.take j ++ List.replicate (n - j) z = xs := by rw [hm, List.take_of_length_le (by omega)]; simp
      rw [e]
      exact ⟨St.refl w _, ⟨hl, hr⟩, fun k hk => .inl hk⟩
  · rcases hr with ⟨he, hn0⟩ | ⟨g, o, cap, cur, he, hg, hnc, hcm, hcs, htake⟩
    · omega
    simp only [Value.slice.injEq] at he
    obtain ⟨rfl, _, rfl⟩ := he
    obtain ⟨v, hv, hvc⟩ := hz.zero
    have hsub : subA (some ⟨g, o, none⟩) c j 1 = some ⟨g, o + j, none⟩ := by
      unfold subA
      rw [if_neg (by omega)]
      simp [addr_add]
    have hst := run_storeCells_at P g (o + j) E (List.replicate (n - j) z) 0 cur w (by simpa using hg) (by simp; omega) (fun u hu => by rw [List.eq_of_mem_replicate hu]; exact h1)
    have e : ∀ (D vs : List Value), D.take (o + j + 0) ++ vs ++ D.drop (o + j + 0 + vs.length) = splice D (o + j) vs := fun _ _ => rfl
    rw [e] at hst
    obtain ⟨m, hm'⟩ : ∃ m, n - j = m + 1 := ⟨n - j - 1, by omega⟩
    have hg' : w.heap[g]? = some (.cells cur.toList.toArray E (0, 0)) := by simpa using hg
    have hsz : cur.toList.length = cur.size := Array.length_toList
    refine ⟨w.setRow g (splice cur.toList (o + j) (List.replicate (n - j) z)).toArray, ?_, Keep.setRow w g _ _ E hg rfl, ⟨by simp; omega, .inr ⟨g, o, c, _, rfl, setRow_heap w g _ _ E (0, 0) hg, hnc, hcm, ?_, ?_⟩⟩, fun k hk => .inl hk⟩
    · rw [hsub]
      have hzc := zeroCells_one z (n - j)
      rw [hm'] at hzc hst ⊢
      simp [Builtin.clear_, run_underlying h.und, hv, hvc, hzc, hst]
    · simp [splice]; omega
    · show ((splice cur.toList (o + j) (List.replicate (n - j) z)).drop o).take (n * 1) = _
      rw [splice_drop (by omega), splice_take (by simp; omega) (by simp; omega), htake]
      unfold splice
      rw [List.drop_eq_nil_of_le (by simp; omega), List.append_nil]
section
variable {P : Program} {f : Frm} {T T' : TypeId} {x : Operand} {w0 : World} {F : Nat → Prop} {L L' : List Asrt}
variable {n' : Nat} {ops rest : List Oper} {Q : Post} {p : String} {af : Array Edge}
theorem LR.clear {E : TypeId} {z : Value} {by_ n c j : Nat} {a : Option Addr} {xs : List Value} [h : SliceOf P T E 1 by_] [hz : ZeroOf P E [z]] (hx : f.ev x = .slice (subA a c j 1) (n - j) (c - j)) (h1 : z.oneCell' = true)
    (hs : Sel L (odl (.slice a n c) E 1 n xs) (odl (.slice a n c) E 1 n (xs.take j ++ List.replicate (n - j) z)) L') (hj : j ≤ n)
    (k : LR false P n' ops rest Q f (St w0 F L')) : LR false P n' ops (⟨none, .call ⟨.builtin .clear, [x].toArray, [T].toArray⟩, T', p, af, none⟩ :: rest) Q f (St w0 F L) := by
  intro w hw b hb
  refine wpList_plain rfl fun K hK => ?_
  obtain ⟨w', hr, st⟩ := run_clear (P := P) (ty := T') h hz h1 (hw.holds _ hs.mem) hj
  have hr' : (execOp f.ev ⟨none, .call ⟨.builtin .clear, [x].toArray, [T].toArray⟩, T', p, af, none⟩).run P w = .ok (.value (.tuple #[])) w' := by
    simp only [execOp, resolve, invoke, builtin, Sem.run_bind, Sem.run_pure, Result.andThen_ok, List.map_toArray, List.map_cons, List.map_nil, hx, hr]
  rw [← hb.eval] at hr'
  simp only [Oper.wp, hr', Oper.upon_value]
  exact hK _ _ (k _ (hw.did hs rfl st (odl.dep _ _ _ _ _)) _ (hb.put_none _))
theorem Ev.field {C : World → Prop} {v : Value} {i : Nat} {fs : Array Field} {fd : Field} {cs : List Value} (hu : P.underlying T = some (.struct fs)) (hf : fs[i]? = some fd) (h : One P fd.type) (hx : f.ev x = .agg cs.toArray) (hc : cs[fd.offset]? = some v) : Ev P C f (.field T x i) T' v := by
  unfold Ev
  intro w _ d p af g
  simp [execOp, hx, Instr.field, run_underlying hu, hf, part, h.agg, asAgg, hc]
theorem LR.mapUpdate {T : TypeId} {x y z : Operand} {v zv : Value} {q : IntKind} {b : Nat} {l : List (Int × Value)} {key : Int} [h : MapOf P T q zv] (hx : f.ev x = .map (some b)) (hy : f.ev y = .int q key) (hz : f.ev z = v)
    (hs : Sel L (.own b (mapObj q l)) (.own b (mapObj q (l ++ [(key, v)]))) L') (hnew : (findI key l 0).isNone = true)
    (k : LR false P n' ops rest Q f (St w0 F L')) : LR false P n' ops (⟨none, .mapUpdate T x y z, T', p, af, none⟩ :: rest) Q f (St w0 F L) := by
  intro w hw a ha
  refine wpList_plain rfl fun K hK => ?_
  obtain ⟨kt, et, ht, hk, _⟩ := h.ex
  have hb : w.heap[b]? = some (.map (ents q 0 l).toArray l.length) := hw.own_at hs.mem
  have hfind : (Instr.findKey kt (.int q key) (ents q 0 l)).run P w = .ok none w := by
    refine MapKept.run_findKey hk ?_
    rw [findNow_ents]
    cases hf : findI key l 0 with
    | none => rfl
    | some r => rw [hf] at hnew; cases hnew
  have hr : (execOp a.eval ⟨none, .mapUpdate T x y z, T', p, af, none⟩).run P w = .ok .skip { w with heap := w.heap.setIfInBounds b (mapObj q (l ++ [(key, v)])) } := by
    rw [ha.eval]
    have e : Obj.map ((ents q 0 l).toArray.push ⟨.int q key, v, l.length⟩) (l.length + 1) = mapObj q (l ++ [(key, v)]) := by
      simp [mapObj, ents_snoc]
    simp only [execOp, hx, hy, hz, Instr.mapUpdate, Sem.run_bind, run_underlying ht, Result.andThen_ok, MapKept.run_getObj_map hb, MapKept.run_checkKey (k := .int q key) hk (by rfl) _ 9999, hfind, MapKept.run_setObj_map _ hb, e, Sem.run_pure]
  simp only [Oper.wp, hr, Oper.upon_skip]
  have hsz : b < w.heap.size := (Array.getElem?_eq_some_iff.1 hb).1
  refine hK _ _ (k _ ?_ _ (ha.put_none undef))
  exact hw.turn hs rfl (Keep.setObj w b _ rfl) (by show (w.heap.setIfInBounds b _)[b]? = _; simp [hsz]) (fun k hk => .inl hk) (Asrt.dep_own _ _)
end
end Go.Hb

namespace Go.Hb
section
variable {P : Program} {C : World → Prop} {f : Frm} {T T' : TypeId} {x : Operand}
theorem Ev.fieldA {i n : Nat} {fs : Array Field} {fd : Field} {cs : List Value} (hu : P.underlying T = some (.struct fs)) (hf : fs[i]? = some fd) (h : Agg P fd.type n) (hx : f.ev x = .agg cs.toArray) : Ev P C f (.field T x i) T' (.agg ((cs.drop fd.offset).take n).toArray) := by
  unfold Ev
  intro w _ d p af g
  simp [execOp, hx, Instr.field, run_underlying hu, hf, part, h.agg, h.size, asAgg]
end
end Go.Hb

namespace Go.Proofs.YtkolmkdbjagfcaaGreat
open Go.Hb
attribute [local irreducible] LR CW At Ev thn blk finK noG again CallsTo DW QL dnext TW DP
set_option maxRecDepth 100000

def joinedP : Pkt := { zPkt with kind := 3, j1 := 2, j2 := 6, j3 := 300 }
def roundP : Pkt := { zPkt with kind := 2, to := 2, t := ⟨4, 1, 7, 9, 8, 3, 20, 2, [9]⟩ }
def rA (b : Nat) : PAd := { zA with ta := some ⟨b, 0, none⟩, tc := 1 }
theorem joined_chk : chkP joinedP = true := by decide
theorem round_chk : chkP roundP = true := by decide
theorem joined_body : bodyP joinedP = [3, 0, 2, 6, 172, 2] := by decide
theorem round_body : bodyP roundP = [2, 2, 4, 1, 7, 9, 8, 3, 20, 2, 1, 9] := by decide
theorem joined_pack : packP joinedP = (sealL [3, 0, 2, 6, 172, 2], 0) := by unfold packP; rw [if_pos joined_chk, joined_body]
theorem round_pack : packP roundP = (sealL [2, 2, 4, 1, 7, 9, 8, 3, 20, 2, 1, 9], 0) := by unfold packP; rw [if_pos round_chk, round_body]
theorem joined_unpack : unpackP (sealL [3, 0, 2, 6, 172, 2]) = (joinedP, 0) := by rw [← joined_body]; exact (unpack_pack joined_chk).1
theorem Rd.pre {w : World} {a : Option Addr} {x y : List Value} (h : Rd w a (x ++ y)) : Rd w a x := fun j v hj => h j v (by rw [List.getElem?_append_left (List.getElem?_eq_some_iff.1 hj).1]; exact hj)
theorem bv_app (x y : List Int) : bv (x ++ y) = bv x ++ bv y := by unfold bv; rw [List.map_append]
theorem seal_pre {w : World} {a : Option Addr} {l : List Int} (h : Rd w a (bv (sealL l))) : Rd w a (bv l) := by
  unfold sealL at h
  rw [bv_app] at h
  exact Rd.pre h
set_option maxHeartbeats 2000000 in
theorem p52 (w : World) : CallsTo Tryz.prog 55 [] w fun v w' => v = joinedP.val zA ∧ Grew w w' := by
  refine go_in (n := 3) (St.refl _ NoF) Tryz.func55 rfl rfl ?_
  repeat'(first|refine kv' ?_|apply jJ|refine jE' ?_|refine jp' ?_|(apply jc;kernel_rfl)|refine kg' ?_|refine kG' ?_|refine kB' fun _=>?_|refine kA' fun _=>?_|refine kK' fun _=>?_|refine kU' ?_|((first|refine kR' ?_ ?_|refine kQ' ?_ ?_);all_goals(intro hc;try simp only[hcs]at hc;try(exfalso;first|contradiction|omega))))
  (apply ret1c; (· exact rfl); (· exact inferInstance); (· exact rfl); (· (repeat (first | exact List.Mem.head _ | apply List.Mem.tail))); (· exact rfl); intro w' hS)
  exact ⟨rfl, hS.toKeep⟩
set_option maxHeartbeats 2000000 in
theorem p53 (w : World) : CallsTo Tryz.prog 56 [] w fun v w' => ∃ b, v = roundP.val (rA b) ∧ New1 (.own b (.cells [Value.int .i64 9].toArray 3 (0, 0))) w w' := by
  refine go_in (n := 5) (St.refl _ NoF) Tryz.func56 rfl rfl ?_
  repeat'(first|(apply Go.Hb.kK;(iterate 4 exact rfl);intro bs)|refine kv' ?_|apply jJ|refine jE' ?_|refine jp' ?_|(apply jc;kernel_rfl)|refine kg' ?_|refine kG' ?_|refine kB' fun _=>?_|refine kA' fun _=>?_|refine kK' fun _=>?_|refine kU' ?_|((first|refine kR' ?_ ?_|refine kQ' ?_ ?_);all_goals(intro hc;try simp only[hcs]at hc;try(exfalso;first|contradiction|omega))))
  (apply ret1c; (· exact rfl); (· exact inferInstance); (· exact rfl); (· (repeat (first | exact List.Mem.head _ | apply List.Mem.tail))); (· exact rfl); intro w' hS)
  exact ⟨bs, rfl, hS.new1 rfl⟩
theorem seal_byt {l : List Int} (h : Byt l) : Byt (sealL l) := by
  unfold sealL
  refine Byt.append h fun x hx => ?_
  simp only [List.mem_cons, List.not_mem_nil, or_false] at hx
  rcases hx with rfl | rfl | rfl | rfl <;> exact byteK_bd _ _
def SJ : List Int := [3, 0, 2, 6, 172, 2]
def SR : List Int := [2, 2, 4, 1, 7, 9, 8, 3, 20, 2, 1, 9]
theorem joinedR (w : World) : PktR w joinedP zA := (PktM.toR (p := joinedP) (A := zA) ⟨Rd.nil _ _, fun _ => rfl, Rd.nil _ _, fun _ => rfl, Rd.nil _ _, fun _ => rfl⟩ (fun x hx => by simp [joinedP, zPkt, zeroDat, zeroMsg] at hx) (by decide) (by decide) (by decide))
theorem roundR {w : World} {b : Nat} (h : (Asrt.own b (.cells [Value.int .i64 9].toArray 3 (0, 0))).holds w) : PktR w roundP (rA b) := (PktM.toR (p := roundP) (A := rA b) ⟨Rd.nil _ _, fun _ => rfl, own_rd h, fun e => (by cases e), Rd.nil _ _, fun _ => rfl⟩ (fun x hx => by simp [roundP, zPkt, zeroDat, zeroMsg] at hx) (by decide) (by decide) (by decide))
theorem packedJ (w : World) : CallsTo Tryz.prog 7 [joinedP.val zA] w fun v w' => ∃ a c, v = .tuple [.slice a (sealL SJ).length c, .int .i64 0].toArray ∧ NewSl w w' (.slice a (sealL SJ).length c) 5 1 (sealL SJ).length (bv (sealL SJ)) := by
  have hq := p30 joinedP zA w (joinedR w) ⟨by decide, by decide⟩
  rw [joined_pack] at hq
  exact hq
theorem packedR {w : World} {b : Nat} (h : (Asrt.own b (.cells [Value.int .i64 9].toArray 3 (0, 0))).holds w) : CallsTo Tryz.prog 7 [roundP.val (rA b)] w fun v w' => ∃ a c, v = .tuple [.slice a (sealL SR).length c, .int .i64 0].toArray ∧ NewSl w w' (.slice a (sealL SR).length c) 5 1 (sealL SR).length (bv (sealL SR)) := by
  have hq := p30 roundP (rA b) w (roundR h) ⟨by decide, by decide⟩
  rw [round_pack] at hq
  exact hq
theorem unpackedJ (a : Option Addr) (c : Nat) (w : World) (h : (osl (.slice a (sealL SJ).length c) 5 1 (sealL SJ).length (bv (sealL SJ))).holds w) : CallsTo Tryz.prog 15 [.slice a (sealL SJ).length c] w fun v w' => UnpP (joinedP, 0) v w w' := by
  have hq := p32 a c (sealL SJ) w (ownsRow_rd h) (seal_byt (by intro x hx; simp only [SJ, List.mem_cons, List.not_mem_nil, or_false] at hx; omega)) (fun e => (ownsRow_some h e).2) (ownsRow_cap h) (by rw [sealL_len]; decide)
  rw [show unpackP (sealL SJ) = (joinedP, 0) from joined_unpack] at hq
  exact hq
set_option maxHeartbeats 16000000 in
theorem p29 (w : World) : CallsTo Tryz.prog 13 [] w fun v w' => v = .bool true ∧ Grew w w' := by
  have lj : (sealL SJ).length = 10 := by rw [sealL_len]; rfl
  have lr : (sealL SR).length = 16 := by rw [sealL_len]; rfl
  refine go_in (n := 59) (St.refl _ NoF) Tryz.func13 rfl rfl ?_
  repeat'(first|(apply Go.Hb.kK;(iterate 4 exact rfl);intro bs)|refine kv' ?_|apply jJ|refine jE' ?_|refine jp' ?_|(apply jc;kernel_rfl)|refine kg' ?_|refine kG' ?_|refine kB' fun _=>?_|refine kA' fun _=>?_|refine kK' fun _=>?_|refine kU' ?_|(apply kq; (· exact rfl); (· intro w1 h1; exact CallsTo.q (p52 w1) h1))|(apply LR.call; (· exact rfl); (intro w1 h1; first | (refine CallsTo.mono (show CallsTo Tryz.prog 7 [joinedP.val zA] w1 _ from packedJ w1) ?_; rintro v w2 ⟨a1, c1, rfl, hn⟩; have ca1 := own_cap (ownsRow_zero hn.own); refine LR.back (h1.newSl hn) ?_; clear hn h1) | (refine CallsTo.mono (show CallsTo Tryz.prog 56 [] w1 _ from p53 w1) ?_; rintro v w2 ⟨br, rfl, hn⟩; refine LR.back (h1.got hn (Asrt.dep_own _ _)) ?_; clear hn h1) | (refine CallsTo.mono (show CallsTo Tryz.prog 7 [roundP.val (rA br)] w1 _ from packedR (h1.holds (.own br (.cells [Value.int .i64 9].toArray 3 (0, 0))) memZ)) ?_; rintro v w2 ⟨a2, c2, rfl, hn⟩; have ca2 := own_cap (ownsRow_zero hn.own); refine LR.back (h1.newSl hn) ?_; clear hn h1) | (refine CallsTo.mono (show CallsTo Tryz.prog 15 [.slice a1 (sealL SJ).length c1] w1 _ from unpackedJ a1 c1 w1 (h1.holds _ memZ)) ?_; rintro v w2 ⟨A, X, rfl, hn, hXd, hXe, hX⟩; refine LR.back (h1.got hn hXd) ?_; clear hn h1)))|(apply LR.ev; (· first | (apply Ev.fieldA Tryz.underlying42; (· exact rfl); (· exact (inferInstance : Agg Tryz.prog 35 3)); (· exact rfl)) | exact Ev.slice_hi0 (a := a1) (c := c1) (j := 6) (subA_own ca1.2.2) rfl (by omega) rfl rfl | exact Ev.slice_hi0 (a := a2) (c := c2) (j := 12) (subA_own ca2.2.2) rfl (by omega) rfl rfl); (· exact rfl))|(apply kq; (· exact rfl); (· intro w1 h1; first | exact CallsTo.q (show CallsTo Tryz.prog 11 [.slice a1 6 c1, .slice (some ⟨bs, 0, none⟩) 6 6] w1 _ from c19 a1 (some ⟨bs, 0, none⟩) c1 6 SJ SJ w1 (seal_pre (h1.rd_of_own memZ)) (h1.rd_of_blk memZ) (by decide)) h1 | exact CallsTo.q (show CallsTo Tryz.prog 11 [.slice a2 12 c2, .slice (some ⟨bs, 0, none⟩) 12 12] w1 _ from c19 a2 (some ⟨bs, 0, none⟩) c2 12 SR SR w1 (seal_pre (h1.rd_of_own memZ)) (h1.rd_of_blk memZ) (by decide)) h1))|((first|refine kR' ?_ ?_|refine kQ' ?_ ?_);all_goals(intro hc;try simp only[hcs]at hc;try(exfalso;first|contradiction|omega))))
  (apply ret1; (· exact rfl); intro w' hS)
  exact ⟨rfl, hS.toKeep⟩
end Go.Proofs.YtkolmkdbjagfcaaGreat

namespace Go.Proofs.YtkolmkdbjagfcaaGreat
open Go.Hb
attribute [local irreducible] LR CW At Ev thn blk finK noG again CallsTo DW QL dnext TW DP
set_option maxRecDepth 100000

theorem unp_facts {l : List Int} (hb : Byt l) : Byt (unpackP l).1.d.msg.body ∧ (unpackP l).1.d.msg.body.length ≤ 140737488351232 ∧ (unpackP l).1.t.ask.length ≤ 16 ∧ (unpackP l).1.c.ents.length ≤ 8 ∧ PktI (unpackP l).1 := by
  have hz : Byt zPkt.d.msg.body ∧ zPkt.d.msg.body.length ≤ 140737488351232 ∧ zPkt.t.ask.length ≤ 16 ∧ zPkt.c.ents.length ≤ 8 ∧ PktI zPkt := ⟨fun x hx => by simp [zPkt, zeroDat, zeroMsg] at hx, by decide, by decide, by decide, ⟨by decide, by decide⟩⟩
  unfold unpackP
  by_cases h1 : 512 < l.length
  · rw [if_pos h1]; exact hz
  rw [if_neg h1]
  have ho := open_byt hb
  have hp := @parse_facts ((openL l).1, 0) ho.1
  repeat' split
  all_goals first | exact hz | exact ⟨hp.1, by have := hp.2.1; have := ho.2; simp only at *; omega, hp.2.2.1, hp.2.2.2.1, hp.2.2.2.2⟩
set_option maxHeartbeats 16000000 in
theorem p7 (a : Option Addr) (c : Nat) (l : List Int) (w : World) (hr : Rd w a (bv l)) (hb : Byt l) (hz : a = none → c = 0) (hm : l.length ≤ 140737488351232) : CallsTo Tryz.prog 22 [.slice a l.length c] w fun v w' => v = .bool true ∧ Grew w w' := by
  refine go_in (n := 58) (St.rd1 hr) Tryz.func22 rfl rfl ?_
  have hsb := seal_byt hb
  have hsl := sealL_len l
  have hf := unp_facts hsb
  have hbad := @unpack_bad (sealL l)
  have hgood := @pack_unpack l hb
  obtain ⟨⟨p, e⟩, hp⟩ : ∃ r, unpackP (sealL l) = r := ⟨_, rfl⟩
  rw [hp] at hf hbad hgood
  simp only at hf hbad hgood
  obtain ⟨hpb, hpl, hpa, hpe, hpi⟩ := hf
  repeat'(first|refine kv' ?_|apply jJ|refine jE' ?_|refine jp' ?_|(apply jc;kernel_rfl)|refine kg' ?_|refine kG' ?_|refine kB' fun _=>?_|refine kA' fun _=>?_|refine kK' fun _=>?_|refine kU' ?_|(apply kq; (· exact rfl); (· intro w1 h1; exact CallsTo.q (p29 w1) h1))|(apply LR.call; (· exact rfl); (intro w1 h1; refine (p34 a c l w1 (h1.rd_of (a := a) (xs := bv l) memZ) hb hz (by omega)).mono ?_; rintro v w2 ⟨a1, c1, rfl, hn⟩; have ca1 := ownsRow_cap hn.own; refine LR.back (h1.newSl hn) ?_; clear hn h1))|((first|refine kR' ?_ ?_|refine kQ' ?_ ?_);all_goals(intro hc;try simp only[hcs]at hc;try(exfalso;first|contradiction|omega))))
  apply LR.call
  · exact rfl
  intro w1 h1
  refine CallsTo.mono (show CallsTo Tryz.prog 15 [.slice a1 (sealL l).length c1] w1 _ from p32 a1 c1 (sealL l) w1 (h1.rd_of_own memZ) hsb (fun e => (ownsRow_some h1.g0 e).2) ca1 (by omega)) ?_
  rw [hp]
  rintro v w2 ⟨A, X, hv, hn, hXd, hXe, hX⟩
  replace hv : v = .tuple [p.val A, .int .i64 e].toArray := hv
  subst hv
  replace hX : ∀ w2, X.holds w2 → PktM w2 p A := hX
  refine LR.back (h1.got hn hXd) ?_
  clear hn h1
  by_cases he : e = 0
  · subst he
    have hpk := hgood rfl
    repeat'(first|refine kv' ?_|apply jJ|refine jE' ?_|refine jp' ?_|(apply jc;kernel_rfl)|refine kg' ?_|refine kG' ?_|refine kB' fun _=>?_|refine kA' fun _=>?_|refine kK' fun _=>?_|refine kU' ?_|(apply LR.call; (· exact rfl); (intro w1 h1; refine CallsTo.mono (show CallsTo Tryz.prog 7 [p.val A] w1 (fun v w' => ∃ a' c', v = .tuple [.slice a' (sealL l).length c', .int .i64 0].toArray ∧ NewSl w1 w' (.slice a' (sealL l).length c') 5 1 (sealL l).length (bv (sealL l))) from by (have hq := p30 p A w1 ((hX w1 (h1.holds X memZ)).toR hpb hpl hpa hpe) hpi); rw [hpk] at hq; exact hq) ?_; rintro v w2 ⟨a2, c2, rfl, hn⟩; refine LR.back (h1.newSl hn) ?_; clear hn h1))|(apply kq; (· exact rfl); (· intro w1 h1; have hq := CallsTo.q (show CallsTo Tryz.prog 11 [.slice a2 (sealL l).length c2, .slice a1 (sealL l).length c1] w1 _ from c19 a2 a1 c2 c1 (sealL l) (sealL l) w1 (ownsRow_rd (h1.holds (osl (.slice a2 (sealL l).length c2) 5 1 (sealL l).length (bv (sealL l))) memZ)) (ownsRow_rd (h1.holds (osl (.slice a1 (sealL l).length c1) 5 1 (sealL l).length (bv (sealL l))) memZ)) (by omega)) h1; rw [decide_eq_true rfl] at hq; exact hq))|((first|refine kR' ?_ ?_|refine kQ' ?_ ?_);all_goals(intro hc;try simp only[hcs]at hc;try(exfalso;first|contradiction|omega))))
    all_goals (
      (apply ret1; (· exact rfl); intro w' hS)
      exact ⟨rfl, hS.toKeep⟩)
  · have hpz := hbad he
    subst hpz
    repeat'(first|refine kv' ?_|apply jJ|refine jE' ?_|refine jp' ?_|(apply jc;kernel_rfl)|refine kg' ?_|refine kG' ?_|refine kB' fun _=>?_|refine kA' fun _=>?_|refine kK' fun _=>?_|refine kU' ?_|((first|refine kR' ?_ ?_|refine kQ' ?_ ?_);all_goals(intro hc;try simp only[hcs]at hc;try(exfalso;first|contradiction|omega))))
    all_goals (
      (apply ret1; (· exact rfl); intro w' hS)
      exact ⟨rfl, hS.toKeep⟩)
end Go.Proofs.YtkolmkdbjagfcaaGreat

namespace Go.Proofs.YtkolmkdbjagfcaaGreat
open Go.Hb
attribute [local irreducible] LR CW At Ev thn blk finK noG again CallsTo
set_option maxRecDepth 100000

def rmay (s r : Int) : Bool := !(decide (s = 0 ∧ r = 0)) && ringB s r
structure Tk where
  r1 : Int
  r2 : Int
  hop : Int
  seq : Int
  aru : Int
  low : Int
  stamp : Int
  idle : Int
  ask : List Int
deriving DecidableEq
def Tk.cells (t : Tk) (a : Option Addr) (c : Nat) : List Value := [.int .i64 t.r1, .int .i64 t.r2, .int .i64 t.hop, .int .i64 t.seq, .int .i64 t.aru, .int .i64 t.low, .int .i64 t.stamp, .int .i64 t.idle, .slice a t.ask.length c]
def Tk.val (t : Tk) (a : Option Addr) (c : Nat) : Value := .agg (t.cells a c).toArray
def Tk.headB (t : Tk) : Bool := rmay t.r1 t.r2 && withinB t.hop 1 9007199254740991 && withinB t.seq 0 9007199254740991 && withinB t.aru 0 t.seq && withinB t.low 0 8 && withinB t.stamp 0 9007199254740991 && withinB t.idle 0 9007199254740991 && decide (t.ask.length ≤ 16)
end Go.Proofs.YtkolmkdbjagfcaaGreat

namespace Go.Proofs.YtkolmkdbjagfcaaGreat
open Go.Hb
attribute [local irreducible] LR CW At Ev thn blk finK noG again CallsTo
set_option maxRecDepth 100000

theorem iv1 (l : List Int) : (iv l).all Value.oneCell' = true := by simp [iv, Value.oneCell']
theorem rd_none0 {w : World} {a : Option Addr} {l : List Int} (hr : Rd w a (iv l)) (h : a = none) : l.length = 0 := by
  subst h
  cases l with
  | nil => rfl
  | cons x t =>
    obtain ⟨ad, he, _⟩ := hr 0 _ rfl
    cases he
theorem t13 (a : Option Addr) (ca : Nat) (l : List Int) (w : World) (hr : Rd w a (iv l)) (hz : a = none → ca = 0) (hm : l.length ≤ 17592186043904) :
    CallsTo Tryz.prog 24 [.slice a l.length ca] w fun v w' => ∃ a' c', v = .slice a' l.length c' ∧ NewSl w w' (.slice a' l.length c') 3 1 l.length (iv l) := by
  refine go_in (n := 8) (St.rd1 hr) Tryz.func24 rfl rfl ?_
  repeat'(first|refine kv' ?_|apply jJ|refine jE' ?_|refine jp' ?_|(apply jc;kernel_rfl)|refine kg' ?_|refine kG' ?_|refine kB' fun _=>?_|refine kA' fun _=>?_|refine kK' fun _=>?_|refine kU' ?_|((first|refine kR' ?_ ?_|refine kQ' ?_ ?_);all_goals(intro hc;try simp only[hcs]at hc;try(exfalso;first|contradiction|omega))))
  refine LR.append_nil (news := iv l) rfl rfl (fun w' hw' => hw'.rd_of (List.Mem.head _)) (fun hx => ⟨rd_none0 hr hx, hz hx⟩) (by simp) (iv1 l) (by omega) (by unfold maxLen; omega) rfl ?_; intro a' c'
  repeat'(first|refine kv' ?_|apply jJ|refine jE' ?_|refine jp' ?_|(apply jc;kernel_rfl)|refine kg' ?_|refine kG' ?_|refine kB' fun _=>?_|refine kA' fun _=>?_|refine kK' fun _=>?_|refine kU' ?_|((first|refine kR' ?_ ?_|refine kQ' ?_ ?_);all_goals(intro hc;try simp only[hcs]at hc;try(exfalso;first|contradiction|omega))))
  (apply ret1; (· exact rfl); intro w' hS)
  exact ⟨_, _, rfl, hS.toNew (List.Mem.head _)⟩
theorem take_succ_eq' {l r : List Int} {i : Nat} (h : i < l.length) (hr : i < r.length) (he : l.take i = r.take i) (hx : l[i] = r[i]) : l.take (i + 1) = r.take (i + 1) := by
  rw [List.take_add_one, List.take_add_one, List.getElem?_eq_getElem h, List.getElem?_eq_getElem hr, he, hx]
theorem t19 (a b : Option Addr) (ca cb : Nat) (la lb : List Int) (w : World) (ha : Rd w a (iv la)) (hb : Rd w b (iv lb)) (hm : la.length ≤ 17592186043904) :
    CallsTo Tryz.prog 69 [.slice a la.length ca, .slice b lb.length cb] w fun v w' => v = .bool (decide (la = lb)) ∧ Grew w w' := by
  refine go_in (n := 26) (St.rd2 ha hb) Tryz.func69 rfl rfl ?_
  repeat'(first|refine kv' ?_|apply jJ|refine jE' ?_|refine jp' ?_|(apply jc;kernel_rfl)|refine kg' ?_|refine kG' ?_|refine kB' fun _=>?_|refine kA' fun _=>?_|refine kK' fun _=>?_|refine kU' ?_|((first|refine kR' ?_ ?_|refine kQ' ?_ ?_);all_goals(intro hc;try simp only[hcs]at hc;try(exfalso;first|contradiction|omega))))
  · (apply ret1; (· exact rfl); intro w' hS)
    refine ⟨congrArg Value.bool ?_, hS.toKeep⟩
    have : la ≠ lb := fun e => by subst e; simp at hc
    simp [this]
  · apply CW.loop [4, 5, 11, 12, 13, 14, 15, 16, 17, 18, 19, 20, 21, 22, 23, 24, 25] (fun i : Nat => i ≤ la.length ∧ la.take i = lb.take i) (fun i : Nat => [(5, Value.int .i64 i)]) (fun i => St w NoF [rdA a (iv la), rdA b (iv lb)]) (fun i => la.length - i)
    · exact fun w' hw' => ⟨0, ⟨by omega, by simp⟩, ⟨rfl, trivial⟩, hw'⟩
    intro i g ⟨hi, heq⟩
    by_cases hlt : i < la.length
    · obtain ⟨ba, oa, rfl⟩ := ha.form (fun e => by have := congrArg List.length e; simp at this; subst this; simp at hlt)
      obtain ⟨bb, ob, rfl⟩ := hb.form (fun e => by have := congrArg List.length e; simp at this; subst this; simp at hc; simp [hc] at hlt)
      have hlb : i < lb.length := by omega
      repeat'(first|refine kv' ?_|apply jJ|refine jE' ?_|refine jp' ?_|(apply jc;kernel_rfl)|refine kg' ?_|refine kG' ?_|refine kB' fun _=>?_|refine kA' fun _=>?_|refine kK' fun _=>?_|refine kU' ?_|(apply idxX;(iterate 2 exact rfl);(iterate 2(first|omega|(dsimp only;omega)));exact rfl)|(apply LR.ev; (· apply Ev.load_rd; (· exact rfl); (· repeat (first | exact mH _ _ | apply mT)); (· exact iv_at (i := i) (by simp) (by omega))); (· exact rfl))|(apply addX;(iterate 2 exact rfl);(iterate 2(first|omega|(dsimp only;omega)));exact rfl)|((first|refine kR' ?_ ?_|refine kQ' ?_ ?_);all_goals(intro hc;try simp only[hcs]at hc;try(exfalso;first|contradiction|omega))))
      · (apply ret1; (· exact rfl); intro w' hS)
        refine ⟨congrArg Value.bool ?_, hS.toKeep⟩
        have : la ≠ lb := fun e => by subst e; simp_all
        simp [this]
      · apply At.again (i + 1) ⟨by omega, take_succ_eq' hlt hlb heq (by simpa using ‹_›)⟩
        · (repeat (first | exact Out.refl _ _ | exact Out.mix | (apply Out.upd; (· exact rfl)) | (apply Out.updL; (· exact rfl)) | (apply Out.mixs; (· exact rfl))))
        · exact ⟨rfl, trivial⟩
        · exact fun w' hw' => hw'
        · omega
    · have hie : i = la.length := by omega
      subst hie
      repeat'(first|refine kv' ?_|apply jJ|refine jE' ?_|refine jp' ?_|(apply jc;kernel_rfl)|refine kg' ?_|refine kG' ?_|refine kB' fun _=>?_|refine kA' fun _=>?_|refine kK' fun _=>?_|refine kU' ?_|((first|refine kR' ?_ ?_|refine kQ' ?_ ?_);all_goals(intro hc;try simp only[hcs]at hc;try(exfalso;first|contradiction|omega))))
      (apply ret1; (· exact rfl); intro w' hS)
      refine ⟨congrArg Value.bool ?_, hS.toKeep⟩
      have hl : la.length = lb.length := by omega
      rw [List.take_length, hl, List.take_length] at heq
      simp [heq]
end Go.Proofs.YtkolmkdbjagfcaaGreat

namespace Go.Proofs.YtkolmkdbjagfcaaGreat
open Go.Hb
attribute [local irreducible] LR CW At Ev thn blk finK noG again CallsTo DW QL dnext TW DP
set_option maxRecDepth 100000

theorem e45 (n : Int) (w : World) : CallsTo Tryz.prog 45 [.int .i64 n] w fun v w' => v = .bool (numB n) ∧ Grew w w' := by
  refine go_in (n := 9) (St.refl _ NoF) Tryz.func45 rfl rfl ?_
  repeat'(first|refine kv' ?_|apply jJ|refine jE' ?_|refine jp' ?_|(apply jc;kernel_rfl)|refine kg' ?_|refine kG' ?_|refine kB' fun _=>?_|refine kA' fun _=>?_|refine kK' fun _=>?_|refine kU' ?_|((first|refine kR' ?_ ?_|refine kQ' ?_ ?_);all_goals(intro hc;try simp only[hcs]at hc;try(exfalso;first|contradiction|omega))))
  all_goals (
    (apply ret1; (· exact rfl); intro w' hS)
    refine ⟨congrArg Value.bool ?_, hS.toKeep⟩
    unfold numB
    simp_all
    try (intros; omega))
theorem e46 (n : Int) (w : World) : CallsTo Tryz.prog 46 [.int .i64 n] w fun v w' => v = .bool (nodeB n) ∧ Grew w w' := by
  refine go_in (n := 9) (St.refl _ NoF) Tryz.func46 rfl rfl ?_
  repeat'(first|refine kv' ?_|apply jJ|refine jE' ?_|refine jp' ?_|(apply jc;kernel_rfl)|refine kg' ?_|refine kG' ?_|refine kB' fun _=>?_|refine kA' fun _=>?_|refine kK' fun _=>?_|refine kU' ?_|((first|refine kR' ?_ ?_|refine kQ' ?_ ?_);all_goals(intro hc;try simp only[hcs]at hc;try(exfalso;first|contradiction|omega))))
  all_goals (
    (apply ret1; (· exact rfl); intro w' hS)
    refine ⟨congrArg Value.bool ?_, hS.toKeep⟩
    unfold nodeB
    simp_all
    try (intros; omega))
theorem e44 (s r : Int) (w : World) : CallsTo Tryz.prog 44 [.agg [.int .i64 s, .int .i64 r].toArray] w fun v w' => v = .bool (liveR s r) ∧ Grew w w' := by
  refine go_in (n := 11) (St.refl _ NoF) Tryz.func44 rfl rfl ?_
  repeat'(first|(apply kB;(iterate 2 exact rfl);intro b1)|refine kv' ?_|apply jJ|refine jE' ?_|refine jp' ?_|(apply jc;kernel_rfl)|refine kg' ?_|refine kG' ?_|refine kB' fun _=>?_|refine kA' fun _=>?_|refine kK' fun _=>?_|refine kU' ?_|(apply kq; (· exact rfl); (· intro w1 h1; exact CallsTo.q (show CallsTo Tryz.prog 89 [.agg [.int .i64 s, .int .i64 r].toArray] w1 _ from c97 s r w1) h1))|((first|refine kR' ?_ ?_|refine kQ' ?_ ?_);all_goals(intro hc;try simp only[hcs]at hc;try(exfalso;first|contradiction|omega))))
  all_goals (
    (apply ret1; (· exact rfl); intro w' hS)
    refine ⟨congrArg Value.bool ?_, hS.toKeep⟩
    unfold liveR
    simp_all)
def sameT (t u : Tkn) : Bool := decide ([t.r1, t.r2] = [u.r1, u.r2]) && decide (t.hop = u.hop) && decide (t.seq = u.seq) && decide (t.aru = u.aru) && decide (t.low = u.low) && decide (t.stamp = u.stamp) && decide (t.idle = u.idle) && decide (t.ask = u.ask)
set_option maxHeartbeats 4000000 in
theorem e53 (t u : Tkn) (a b : Option Addr) (c d : Nat) (w : World) (ha : Rd w a (iv t.ask)) (hb : Rd w b (iv u.ask)) (hm : t.ask.length ≤ 17592186043904) : CallsTo Tryz.prog 53 [t.val a c, u.val b d] w fun v w' => v = .bool (sameT t u) ∧ Grew w w' := by
  refine go_in (n := 59) (St.rd2 ha hb) Tryz.func53 rfl rfl ?_
  repeat'(first|(apply kB;(iterate 2 exact rfl);intro b1)|refine kv' ?_|apply jJ|refine jE' ?_|refine jp' ?_|(apply jc;kernel_rfl)|refine kg' ?_|refine kG' ?_|refine kB' fun _=>?_|refine kA' fun _=>?_|refine kK' fun _=>?_|refine kU' ?_|(apply kq; (· exact rfl); (· intro w1 h1; exact CallsTo.q (show CallsTo Tryz.prog 69 [.slice a t.ask.length c, .slice b u.ask.length d] w1 _ from t19 a b c d t.ask u.ask w1 (h1.rd_of (a := a) (xs := iv t.ask) memZ) (h1.rd_of (a := b) (xs := iv u.ask) memZ) hm) h1))|((first|refine kR' ?_ ?_|refine kQ' ?_ ?_);all_goals(intro hc;try simp only[hcs]at hc;try(exfalso;first|contradiction|omega))))
  all_goals (
    (apply ret1; (· exact rfl); intro w' hS)
    refine ⟨congrArg Value.bool ?_, hS.toKeep⟩
    unfold sameT
    simp_all)
def sameC (x y : Cmt) : Bool := decide ([x.r1, x.r2] = [y.r1, y.r2]) && decide (x.mem = y.mem) && decide (x.hop = y.hop) && decide (x.ents.map Ent.nums = y.ents.map Ent.nums)
set_option maxHeartbeats 4000000 in
theorem e54 (x y : Cmt) (a b : Option Addr) (c d : Nat) (w : World) (ha : Rd w a (x.ents.flatMap Ent.cells)) (hb : Rd w b (y.ents.flatMap Ent.cells)) (hm : x.ents.length ≤ 17592186043904) : CallsTo Tryz.prog 54 [x.val a c, y.val b d] w fun v w' => v = .bool (sameC x y) ∧ Grew w w' := by
  refine go_in (n := 52) (St.rd2 ha hb) Tryz.func54 rfl rfl ?_
  repeat'(first|(apply kB;(iterate 2 exact rfl);intro b1)|refine kv' ?_|apply jJ|refine jE' ?_|refine jp' ?_|(apply jc;kernel_rfl)|refine kg' ?_|refine kG' ?_|refine kB' fun _=>?_|refine kA' fun _=>?_|refine kK' fun _=>?_|refine kU' ?_|((first|refine kR' ?_ ?_|refine kQ' ?_ ?_);all_goals(intro hc;try simp only[hcs]at hc;try(exfalso;first|contradiction|omega))))
  all_goals try (
    (apply ret1; (· exact rfl); intro w' hS)
    refine ⟨congrArg Value.bool ?_, hS.toKeep⟩
    unfold sameC
    have hne : ¬ (x.ents.length : Int) = y.ents.length → x.ents.map Ent.nums ≠ y.ents.map Ent.nums := fun h e => h (by have := congrArg List.length e; simp only [List.length_map] at this; omega)
    simp_all
    done)
  rename_i b2 hr hmm hh
  have hl : x.ents.length = y.ents.length := by omega
  have hsc : sameC x y = decide (x.ents.map Ent.nums = y.ents.map Ent.nums) := by unfold sameC; simp_all
  rw [hsc]
  apply CW.loop [4, 5, 34, 35, 36, 37, 38, 39, 40, 41, 42, 43, 44, 45, 46, 47, 48, 49, 50, 51] (fun i : Nat => i ≤ x.ents.length ∧ (x.ents.take i).map Ent.nums = (y.ents.take i).map Ent.nums) (fun i => [(5, Value.int .i64 (i : Int))])
    (fun i => St w NoF [.own b1 (.cells (y.cells b d).toArray 38 (0, 0)), .own b2 (.cells (x.cells a c).toArray 38 (0, 0)), rdA a (x.ents.flatMap Ent.cells), rdA b (y.ents.flatMap Ent.cells)]) (fun i => x.ents.length - i)
  · exact fun w' hw' => ⟨0, ⟨by omega, by simp⟩, ⟨rfl, trivial⟩, hw'⟩
  intro i g ⟨hi, heq⟩
  by_cases hlt : i < x.ents.length
  · have hly : i < y.ents.length := by omega
    obtain ⟨ba, oa, rfl⟩ := ha.form (rows_ne Ent.cells_len (by omega) hlt)
    obtain ⟨bb, ob, rfl⟩ := hb.form (rows_ne Ent.cells_len (by omega) hly)
    obtain ⟨e, he⟩ : ∃ e, x.ents[i] = e := ⟨_, rfl⟩
    obtain ⟨f, hf⟩ : ∃ f, y.ents[i] = f := ⟨_, rfl⟩
    have hcx : ∀ w', Rd w' (some ⟨ba, oa, none⟩) (x.ents.flatMap Ent.cells) → ∀ j v, e.cells[j]? = some v → w'.cell? ((⟨ba, oa + (i : Int).toNat * 6, none⟩ : Addr).add j) = some v := fun w' h => by
      rw [← he]
      exact rd_row Ent.cells_len h hlt (by omega)
    have hcy : ∀ w', Rd w' (some ⟨bb, ob, none⟩) (y.ents.flatMap Ent.cells) → ∀ j v, f.cells[j]? = some v → w'.cell? ((⟨bb, ob + (i : Int).toNat * 6, none⟩ : Addr).add j) = some v := fun w' h => by
      rw [← hf]
      exact rd_row Ent.cells_len h hly (by omega)
    have e1 : (x.ents.take (i + 1)).map Ent.nums = (x.ents.take i).map Ent.nums ++ [e.nums] := by
      rw [List.take_add_one, List.getElem?_eq_getElem hlt, List.map_append, he]
      rfl
    have e2 : (y.ents.take (i + 1)).map Ent.nums = (y.ents.take i).map Ent.nums ++ [f.nums] := by
      rw [List.take_add_one, List.getElem?_eq_getElem hly, List.map_append, hf]
      rfl
    repeat'(first|(apply CW.reg_heldC)|refine kv' ?_|apply jJ|refine jE' ?_|refine jp' ?_|(apply jc;kernel_rfl)|refine kg' ?_|refine kG' ?_|refine kB' fun _=>?_|refine kA' fun _=>?_|refine kK' fun _=>?_|refine kU' ?_|((first|refine kR' ?_ ?_|refine kQ' ?_ ?_);all_goals(intro hc;try simp only[hcs]at hc;try(exfalso;first|contradiction|omega))))
    all_goals (
      apply DW.quiet [0, 1, 2, 3, 4, 5, 6, 7, 8, 9, 10]
      · decide +kernel
      · first | exact fun _ h => h | exact fun _ h => St.sub h subZ
      repeat'(first|refine yv' ?_|(apply QL.ev; (· exact rfl); (· first | (apply Ev.indexAddr; (· exact rfl); (· exact rfl); (· omega); (· omega)) | (apply Ev.load_agg_at (cs := e.cells); (· exact rfl); (· exact rfl); (· intro w' hw'; exact hcx w' (hw'.rd_of memZ))) | (apply Ev.load_agg_at (cs := f.cells); (· exact rfl); (· exact rfl); (· intro w' hw'; exact hcy w' (hw'.rd_of memZ)))); (· exact rfl))|refine uv' ?_|refine un' ?_|(refine us' ?_ ?_;all_goals(intro hc;try simp only[hcs]at hc;try(exfalso;first|contradiction|omega)))|apply QL.nil)
      all_goals (show DW _ _ _ _ _ _ _ _))
    all_goals (first | (apply DW.done_thn; (· decide +kernel)) | (apply DW.done; (· decide +kernel)))
    repeat'(first|refine kv' ?_|apply jJ|refine jE' ?_|refine jp' ?_|(apply jc;kernel_rfl)|refine kg' ?_|refine kG' ?_|refine kB' fun _=>?_|refine kA' fun _=>?_|refine kK' fun _=>?_|refine kU' ?_|(apply addX;(iterate 2 exact rfl);(iterate 2(first|omega|(dsimp only;omega)));exact rfl)|((first|refine kR' ?_ ?_|refine kQ' ?_ ?_);all_goals(intro hc;try simp only[hcs]at hc;try(exfalso;first|contradiction|omega))))
    · (apply ret1; (· exact rfl); intro w' hS)
      refine ⟨congrArg Value.bool ?_, hS.toKeep⟩
      rename_i hne
      have hne2 : x.ents.map Ent.nums ≠ y.ents.map Ent.nums := fun h => by
        have h2 := congrArg (fun l => l[i]?) h
        simp only [List.getElem?_map, List.getElem?_eq_getElem hlt, List.getElem?_eq_getElem hly, Option.map_some, Option.some.injEq, he, hf] at h2
        exact absurd h2 (by unfold Ent.nums; simpa using hc)
      exact (decide_eq_false hne2).symm
    · have hee : e.nums = f.nums := by unfold Ent.nums; simpa using hc
      refine At.again (i + 1) ⟨by omega, by rw [e1, e2, heq, hee]⟩ ?_ ⟨rfl, trivial⟩ (fun w' hw' => hw'.sub subZ) (by omega)
      (repeat (first | exact Out.refl _ _ | exact Out.mix | (apply Out.upd; (· exact rfl)) | (apply Out.updL; (· exact rfl)) | (apply Out.mixs; (· exact rfl))))
  · have hie : i = x.ents.length := by omega
    subst hie
    rw [List.take_length, hl, List.take_length] at heq
    repeat'(first|refine kv' ?_|apply jJ|refine jE' ?_|refine jp' ?_|(apply jc;kernel_rfl)|refine kg' ?_|refine kG' ?_|refine kB' fun _=>?_|refine kA' fun _=>?_|refine kK' fun _=>?_|refine kU' ?_|((first|refine kR' ?_ ?_|refine kQ' ?_ ?_);all_goals(intro hc;try simp only[hcs]at hc;try(exfalso;first|contradiction|omega))))
    (apply ret1; (· exact rfl); intro w' hS)
    exact ⟨congrArg Value.bool (decide_eq_true heq).symm, hS.toKeep⟩
def sameP (p q : Pkt) : Bool := decide (p.kind = q.kind) && decide (p.to = q.to) && sameD p.d q.d && sameT p.t q.t && decide ([p.j1, p.j2, p.j3] = [q.j1, q.j2, q.j3]) && sameC p.c q.c && decide ([p.b1, p.b2, p.b3] = [q.b1, q.b2, q.b3])
theorem sameP_self (p : Pkt) : sameP p p = true := by simp [sameP, sameD_self, sameT, sameC]
structure PktS (w : World) (p : Pkt) (A : PAd) : Prop where
  hd : Rd w A.da (bv p.d.msg.body)
  hdm : p.d.msg.body.length ≤ 140737488355328
  ht : Rd w A.ta (iv p.t.ask)
  htm : p.t.ask.length ≤ 17592186043904
  hc : Rd w A.ca (p.c.ents.flatMap Ent.cells)
  hcm : p.c.ents.length ≤ 17592186043904
theorem PktS.old {w w' : World} {L : List Asrt} {p : Pkt} {A : PAd} (h : PktS w p A) (hS : St w NoF L w') : PktS w' p A :=
  ⟨hS.oldRd h.hd, h.hdm, hS.oldRd h.ht, h.htm, hS.oldRd h.hc, h.hcm⟩
theorem PktR.toS {w : World} {p : Pkt} {A : PAd} (h : PktR w p A) : PktS w p A := ⟨h.hd, by have := h.hdm; omega, h.ht, h.htm, h.hc, by have := h.hcm; omega⟩
set_option maxHeartbeats 8000000 in
theorem e12 (p q : Pkt) (A B : PAd) (w : World) (hp : PktS w p A) (hq : PktS w q B) : CallsTo Tryz.prog 12 [p.val A, q.val B] w fun v w' => v = .bool (sameP p q) ∧ Grew w w' := by
  refine go_in (n := 52) (St.refl _ NoF) Tryz.func12 rfl rfl ?_
  repeat'(first|(apply kB;(iterate 2 exact rfl);intro b1)|refine kv' ?_|apply jJ|refine jE' ?_|refine jp' ?_|(apply jc;kernel_rfl)|refine kg' ?_|refine kG' ?_|refine kB' fun _=>?_|refine kA' fun _=>?_|refine kK' fun _=>?_|refine kU' ?_|(apply kq; (· exact rfl); (· intro w1 h1; first | exact CallsTo.q (show CallsTo Tryz.prog 52 [p.d.val A.da A.dc, q.d.val B.da B.dc] w1 _ from c84 p.d q.d A.da B.da A.dc B.dc w1 (hp.old h1).hd (hq.old h1).hd (by have := hp.hdm; omega)) h1 | exact CallsTo.q (show CallsTo Tryz.prog 53 [p.t.val A.ta A.tc, q.t.val B.ta B.tc] w1 _ from e53 p.t q.t A.ta B.ta A.tc B.tc w1 (hp.old h1).ht (hq.old h1).ht hp.htm) h1 | exact CallsTo.q (show CallsTo Tryz.prog 54 [p.c.val A.ca A.cc, q.c.val B.ca B.cc] w1 _ from e54 p.c q.c A.ca B.ca A.cc B.cc w1 (hp.old h1).hc (hq.old h1).hc hp.hcm) h1))|((first|refine kR' ?_ ?_|refine kQ' ?_ ?_);all_goals(intro hc;try simp only[hcs]at hc;try(exfalso;first|contradiction|omega))))
  all_goals (
    (apply ret1; (· exact rfl); intro w' hS)
    refine ⟨congrArg Value.bool ?_, hS.toKeep⟩
    unfold sameP
    simp_all)
end Go.Proofs.YtkolmkdbjagfcaaGreat

namespace Go.Proofs.YtkolmkdbjagfcaaGreat
open Go.Hb
attribute [local irreducible] LR CW At Ev thn blk finK noG again CallsTo DW QL dnext TW DP
set_option maxRecDepth 100000

def keptP (p : Pkt) : Pkt :=
  if p.kind = 1 then { zPkt with kind := p.kind, to := p.to, d := p.d }
  else if p.kind = 2 then { zPkt with kind := p.kind, to := p.to, t := p.t }
  else if p.kind = 3 then { zPkt with kind := p.kind, to := p.to, j1 := p.j1, j2 := p.j2, j3 := p.j3 }
  else if p.kind = 4 then { zPkt with kind := p.kind, to := p.to, c := p.c }
  else if p.kind = 5 then { zPkt with kind := p.kind, to := p.to, b1 := p.b1, b2 := p.b2, b3 := p.b3 }
  else { zPkt with kind := p.kind, to := p.to }
def keptA (p : Pkt) (A : PAd) : PAd :=
  if p.kind = 1 then { zA with da := A.da, dc := A.dc }
  else if p.kind = 2 then { zA with ta := A.ta, tc := A.tc }
  else if p.kind = 3 then zA
  else if p.kind = 4 then { zA with ca := A.ca, cc := A.cc }
  else zA
set_option maxHeartbeats 8000000 in
theorem e43 (p : Pkt) (A : PAd) (w : World) : CallsTo Tryz.prog 43 [p.val A] w fun v w' => v = (keptP p).val (keptA p A) ∧ Grew w w' := by
  refine go_in (n := 37) (St.refl _ NoF) Tryz.func43 rfl rfl ?_
  by_cases hk1 : p.kind = 1
  · repeat'(first|(apply kB;(iterate 2 exact rfl);intro b1)|refine kv' ?_|apply jJ|refine jE' ?_|refine jp' ?_|(apply jc;kernel_rfl)|refine kg' ?_|refine kG' ?_|refine kB' fun _=>?_|refine kA' fun _=>?_|refine kK' fun _=>?_|refine kU' ?_|((first|refine kR' ?_ ?_|refine kQ' ?_ ?_);all_goals(intro hc;try simp only[hcs]at hc;try(exfalso;first|contradiction|omega))))
    (apply ret1c; (· exact rfl); (· exact inferInstance); (· exact rfl); (· (repeat (first | exact List.Mem.head _ | apply List.Mem.tail))); (· exact rfl); intro w' hS)
    refine ⟨?_, hS.toKeep⟩
    unfold keptP keptA
    rw [if_pos hk1, if_pos hk1]
    rfl
  by_cases hk2 : p.kind = 2
  · repeat'(first|(apply kB;(iterate 2 exact rfl);intro b1)|refine kv' ?_|apply jJ|refine jE' ?_|refine jp' ?_|(apply jc;kernel_rfl)|refine kg' ?_|refine kG' ?_|refine kB' fun _=>?_|refine kA' fun _=>?_|refine kK' fun _=>?_|refine kU' ?_|((first|refine kR' ?_ ?_|refine kQ' ?_ ?_);all_goals(intro hc;try simp only[hcs]at hc;try(exfalso;first|contradiction|omega))))
    (apply ret1c; (· exact rfl); (· exact inferInstance); (· exact rfl); (· (repeat (first | exact List.Mem.head _ | apply List.Mem.tail))); (· exact rfl); intro w' hS)
    refine ⟨?_, hS.toKeep⟩
    unfold keptP keptA
    rw [if_neg hk1, if_neg hk1, if_pos hk2, if_pos hk2]
    rfl
  by_cases hk3 : p.kind = 3
  · repeat'(first|(apply kB;(iterate 2 exact rfl);intro b1)|refine kv' ?_|apply jJ|refine jE' ?_|refine jp' ?_|(apply jc;kernel_rfl)|refine kg' ?_|refine kG' ?_|refine kB' fun _=>?_|refine kA' fun _=>?_|refine kK' fun _=>?_|refine kU' ?_|((first|refine kR' ?_ ?_|refine kQ' ?_ ?_);all_goals(intro hc;try simp only[hcs]at hc;try(exfalso;first|contradiction|omega))))
    (apply ret1c; (· exact rfl); (· exact inferInstance); (· exact rfl); (· (repeat (first | exact List.Mem.head _ | apply List.Mem.tail))); (· exact rfl); intro w' hS)
    refine ⟨?_, hS.toKeep⟩
    unfold keptP keptA
    rw [if_neg hk1, if_neg hk1, if_neg hk2, if_neg hk2, if_pos hk3, if_pos hk3]
    rfl
  by_cases hk4 : p.kind = 4
  · repeat'(first|(apply kB;(iterate 2 exact rfl);intro b1)|refine kv' ?_|apply jJ|refine jE' ?_|refine jp' ?_|(apply jc;kernel_rfl)|refine kg' ?_|refine kG' ?_|refine kB' fun _=>?_|refine kA' fun _=>?_|refine kK' fun _=>?_|refine kU' ?_|((first|refine kR' ?_ ?_|refine kQ' ?_ ?_);all_goals(intro hc;try simp only[hcs]at hc;try(exfalso;first|contradiction|omega))))
    (apply ret1c; (· exact rfl); (· exact inferInstance); (· exact rfl); (· (repeat (first | exact List.Mem.head _ | apply List.Mem.tail))); (· exact rfl); intro w' hS)
    refine ⟨?_, hS.toKeep⟩
    unfold keptP keptA
    rw [if_neg hk1, if_neg hk1, if_neg hk2, if_neg hk2, if_neg hk3, if_neg hk3, if_pos hk4, if_pos hk4]
    rfl
  by_cases hk5 : p.kind = 5
  · repeat'(first|(apply kB;(iterate 2 exact rfl);intro b1)|refine kv' ?_|apply jJ|refine jE' ?_|refine jp' ?_|(apply jc;kernel_rfl)|refine kg' ?_|refine kG' ?_|refine kB' fun _=>?_|refine kA' fun _=>?_|refine kK' fun _=>?_|refine kU' ?_|((first|refine kR' ?_ ?_|refine kQ' ?_ ?_);all_goals(intro hc;try simp only[hcs]at hc;try(exfalso;first|contradiction|omega))))
    (apply ret1c; (· exact rfl); (· exact inferInstance); (· exact rfl); (· (repeat (first | exact List.Mem.head _ | apply List.Mem.tail))); (· exact rfl); intro w' hS)
    refine ⟨?_, hS.toKeep⟩
    unfold keptP keptA
    rw [if_neg hk1, if_neg hk1, if_neg hk2, if_neg hk2, if_neg hk3, if_neg hk3, if_neg hk4, if_neg hk4, if_pos hk5]
    rfl
  · repeat'(first|(apply kB;(iterate 2 exact rfl);intro b1)|refine kv' ?_|apply jJ|refine jE' ?_|refine jp' ?_|(apply jc;kernel_rfl)|refine kg' ?_|refine kG' ?_|refine kB' fun _=>?_|refine kA' fun _=>?_|refine kK' fun _=>?_|refine kU' ?_|((first|refine kR' ?_ ?_|refine kQ' ?_ ?_);all_goals(intro hc;try simp only[hcs]at hc;try(exfalso;first|contradiction|omega))))
    (apply ret1c; (· exact rfl); (· exact inferInstance); (· exact rfl); (· (repeat (first | exact List.Mem.head _ | apply List.Mem.tail))); (· exact rfl); intro w' hS)
    refine ⟨?_, hS.toKeep⟩
    unfold keptP keptA
    rw [if_neg hk1, if_neg hk1, if_neg hk2, if_neg hk2, if_neg hk3, if_neg hk3, if_neg hk4, if_neg hk4, if_neg hk5]
    rfl
theorem kept_S {w : World} {p : Pkt} {A : PAd} (h : PktS w p A) : PktS w (keptP p) (keptA p A) := by
  have z : PktS w { zPkt with kind := p.kind, to := p.to } zA := ⟨Rd.nil _ _, Nat.zero_le _, Rd.nil _ _, Nat.zero_le _, Rd.nil _ _, Nat.zero_le _⟩
  unfold keptP keptA
  by_cases hk1 : p.kind = 1
  · rw [if_pos hk1, if_pos hk1]
    exact ⟨h.hd, h.hdm, z.ht, z.htm, z.hc, z.hcm⟩
  rw [if_neg hk1, if_neg hk1]
  by_cases hk2 : p.kind = 2
  · rw [if_pos hk2, if_pos hk2]
    exact ⟨z.hd, z.hdm, h.ht, h.htm, z.hc, z.hcm⟩
  rw [if_neg hk2, if_neg hk2]
  by_cases hk3 : p.kind = 3
  · rw [if_pos hk3, if_pos hk3]
    exact ⟨z.hd, z.hdm, z.ht, z.htm, z.hc, z.hcm⟩
  rw [if_neg hk3, if_neg hk3]
  by_cases hk4 : p.kind = 4
  · rw [if_pos hk4, if_pos hk4]
    exact ⟨z.hd, z.hdm, z.ht, z.htm, h.hc, h.hcm⟩
  rw [if_neg hk4, if_neg hk4]
  by_cases hk5 : p.kind = 5
  · rw [if_pos hk5]
    exact ⟨z.hd, z.hdm, z.ht, z.htm, z.hc, z.hcm⟩
  rw [if_neg hk5]
  exact z
def keptB (p : Pkt) : Bool := (decide (p.kind = 1) || !dataS p.d) && (decide (p.kind = 2) || !tokS p.t) && (decide (p.kind = 3) || !joinS p) && (decide (p.kind = 4) || !comS p.c) && (decide (p.kind = 5) || !beaS p)
theorem sameD_z (d : Dat) : sameD d zeroDat = !dataS d := by
  rw [Bool.eq_iff_iff]
  simp [sameD, dataS, zeroDat, zeroMsg, sameB, and_assoc]
theorem sameT_z (t : Tkn) : sameT t zTkn = !tokS t := by
  rw [Bool.eq_iff_iff]
  simp only [sameT, Bool.and_eq_true, decide_eq_true_eq]
  simp [tokS, zTkn, and_assoc]
theorem sameC_z (x : Cmt) : sameC x zCmt = !comS x := by
  rw [Bool.eq_iff_iff]
  simp only [sameC, Bool.and_eq_true, decide_eq_true_eq]
  simp [comS, zCmt, and_assoc]
theorem sameT_self (t : Tkn) : sameT t t = true := by simp [sameT]
theorem sameC_self (x : Cmt) : sameC x x = true := by simp [sameC]
theorem same_kept (p : Pkt) : sameP p (keptP p) = keptB p := by
  have j0 : decide ([p.j1, p.j2, p.j3] = [zPkt.j1, zPkt.j2, zPkt.j3]) = !joinS p := by unfold joinS; rw [Bool.not_not]; rfl
  have b0 : decide ([p.b1, p.b2, p.b3] = [zPkt.b1, zPkt.b2, zPkt.b3]) = !beaS p := by unfold beaS; rw [Bool.not_not]; rfl
  have d0 : sameD p.d zPkt.d = !dataS p.d := sameD_z p.d
  have t0 : sameT p.t zPkt.t = !tokS p.t := sameT_z p.t
  have c0 : sameC p.c zPkt.c = !comS p.c := sameC_z p.c
  unfold keptP
  by_cases hk1 : p.kind = 1
  · rw [if_pos hk1]
    simp only [sameP, keptB, j0, b0, d0, t0, c0, sameD_self]
    simp [hk1]
  rw [if_neg hk1]
  by_cases hk2 : p.kind = 2
  · rw [if_pos hk2]
    simp only [sameP, keptB, j0, b0, d0, t0, c0, sameT_self]
    simp [hk2]
  rw [if_neg hk2]
  by_cases hk3 : p.kind = 3
  · rw [if_pos hk3]
    simp only [sameP, keptB, j0, b0, d0, t0, c0]
    simp [hk3]
  rw [if_neg hk3]
  by_cases hk4 : p.kind = 4
  · rw [if_pos hk4]
    simp only [sameP, keptB, j0, b0, d0, t0, c0, sameC_self]
    simp [hk4]
  rw [if_neg hk4]
  by_cases hk5 : p.kind = 5
  · rw [if_pos hk5]
    simp only [sameP, keptB, j0, b0, d0, t0, c0]
    simp [hk5]
  rw [if_neg hk5]
  simp only [sameP, keptB, j0, b0, d0, t0, c0]
  simp [hk1, hk2, hk3, hk4, hk5]
theorem ent_flat_one (es : List Ent) : (es.flatMap Ent.cells).all Value.oneCell' = true := by
  rw [List.all_eq_true]
  intro v hv
  obtain ⟨e, _, he⟩ := List.mem_flatMap.1 hv
  simp only [Ent.cells, List.mem_cons, List.not_mem_nil, or_false] at he
  rcases he with rfl | rfl | rfl | rfl | rfl | rfl <;> rfl
theorem ent_flat_len (es : List Ent) : (es.flatMap Ent.cells).length = es.length * 6 := Go.Hb.rows_len Ent.cells_len es
theorem Rd.none_ents {w : World} {es : List Ent} (h : Rd w none (es.flatMap Ent.cells)) : es.length = 0 := by
  have h1 := congrArg List.length h.none_nil
  rw [ent_flat_len] at h1
  simp only [List.length_nil] at h1
  omega
def NewP (p : Pkt) (v : Value) (w w' : World) : Prop := ∃ A X, v = p.val A ∧ New1 X w w' ∧ X.dep ∧ X.excl = true ∧ ∀ w2, X.holds w2 → PktM w2 p A
set_option maxHeartbeats 8000000 in
theorem e6 (p : Pkt) (A : PAd) (w : World) (hR : PktR w p A) : CallsTo Tryz.prog 6 [p.val A] w fun v w' => NewP p v w w' := by
  refine go_in (n := 29) ((((St.refl w NoF).addRd hR.hc (fun _ _ h => h)).addRd hR.ht (fun _ _ h => h)).addRd hR.hd (fun _ _ h => h)) Tryz.func6 rfl rfl ?_
  repeat'(first|(apply kB;(iterate 2 exact rfl);intro b1)|refine kv' ?_|apply jJ|refine jE' ?_|refine jp' ?_|(apply jc;kernel_rfl)|refine kg' ?_|refine kG' ?_|refine kB' fun _=>?_|refine kA' fun _=>?_|refine kK' fun _=>?_|refine kU' ?_|(apply LR.call; (· exact rfl); (intro w1 h1; refine CallsTo.mono (show CallsTo Tryz.prog 23 [p.d.msg.val A.da A.dc] w1 _ from c14 p.d.msg A.da A.dc w1 (h1.rd_of (a := A.da) (xs := bv p.d.msg.body) memZ) hR.hdz (by have := hR.hdm; omega)) ?_; rintro v w2 ⟨a1, c1, rfl, hn⟩; refine LR.back (h1.newSl hn) ?_; clear hn h1))|(apply LR.call; (· exact rfl); (intro w1 h1; refine CallsTo.mono (show CallsTo Tryz.prog 24 [.slice A.ta p.t.ask.length A.tc] w1 _ from t13 A.ta A.tc p.t.ask w1 (h1.rd_of (a := A.ta) (xs := iv p.t.ask) memZ) hR.htz hR.htm) ?_; rintro v w2 ⟨a2, c2, rfl, hn⟩; refine LR.back (h1.newSl hn) ?_; clear hn h1))|((first|refine kR' ?_ ?_|refine kQ' ?_ ?_);all_goals(intro hc;try simp only[hcs]at hc;try(exfalso;first|contradiction|omega))))
  refine LR.append_nil (m := p.c.ents.length) (news := p.c.ents.flatMap Ent.cells) (ax := A.ca) (cx := A.cc) ?_ ?_ (fun w' hw' => hw'.rd_of (a := A.ca) (xs := p.c.ents.flatMap Ent.cells) memZ) (fun hx => ⟨by have h2 := hR.hc; rw [hx] at h2; exact Rd.none_ents h2, hR.hcz hx⟩) (ent_flat_len _) (ent_flat_one _) (by have := hR.hcm; omega) (by have := hR.hcm; unfold maxLen; omega) (by rfl) ?_
  · rfl
  · rfl
  intro a3 c3
  repeat'(first|refine kv' ?_|apply jJ|refine jE' ?_|refine jp' ?_|(apply jc;kernel_rfl)|refine kg' ?_|refine kG' ?_|refine kB' fun _=>?_|refine kA' fun _=>?_|refine kK' fun _=>?_|refine kU' ?_|((first|refine kR' ?_ ?_|refine kQ' ?_ ?_);all_goals(intro hc;try simp only[hcs]at hc;try(exfalso;first|contradiction|omega))))
  (apply ret1c; (· exact rfl); (· exact inferInstance); (· exact rfl); (· (repeat (first | exact List.Mem.head _ | apply List.Mem.tail))); (· exact rfl); intro w' hS)
  refine ⟨⟨a1, c1, a2, c2, a3, c3⟩, both (osl (.slice a1 p.d.msg.body.length c1) 5 1 p.d.msg.body.length (bv p.d.msg.body)) (both (osl (.slice a2 p.t.ask.length c2) 3 1 p.t.ask.length (iv p.t.ask)) (osl (.slice a3 p.c.ents.length c3) 77 6 p.c.ents.length (p.c.ents.flatMap Ent.cells))), rfl, ?_, both_dep (osl.dep _ _ _ _ _) (both_dep (osl.dep _ _ _ _ _) (osl.dep _ _ _ _ _)), rfl, ?_⟩
  · have h1 : St w NoF [osl (.slice a2 p.t.ask.length c2) 3 1 p.t.ask.length (iv p.t.ask), osl (.slice a3 p.c.ents.length c3) 77 6 p.c.ents.length (p.c.ents.flatMap Ent.cells), osl (.slice a1 p.d.msg.body.length c1) 5 1 p.d.msg.body.length (bv p.d.msg.body)] w' := front (hS.sub (L' := [osl (.slice a3 p.c.ents.length c3) 77 6 p.c.ents.length (p.c.ents.flatMap Ent.cells), osl (.slice a2 p.t.ask.length c2) 3 1 p.t.ask.length (iv p.t.ask), osl (.slice a1 p.d.msg.body.length c1) 5 1 p.d.msg.body.length (bv p.d.msg.body)]) subZ) 1 rfl rfl
    exact (St.join (St.swap (St.join h1 rfl rfl)) rfl rfl).new1 rfl
  · intro w2 h2
    exact ⟨ownsRow_rd h2.1, fun e => (ownsRow_some h2.1 e).2, ownsRow_rd h2.2.1.1, fun e => (ownsRow_some h2.2.1.1 e).2, ownsRow_rd h2.2.1.2.1, fun e => (ownsRow_some h2.2.1.2.1 e).2⟩
end Go.Proofs.YtkolmkdbjagfcaaGreat
