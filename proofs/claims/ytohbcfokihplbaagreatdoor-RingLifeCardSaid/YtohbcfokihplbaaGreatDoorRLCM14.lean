/-
  The law: what each call of it keeps: plain.
-/
import Derived.Test.YtohbcfokihplbaaGreatDoorRLCM13
set_option linter.unusedSimpArgs false
set_option linter.unusedVariables false
namespace Go.Proofs.YtohbcfokihplbaaGreatDoor
open Go.Hb
attribute [local irreducible] LR CW At Ev thn blk finK noG again CallsTo DW QL dnext TW DP
set_option maxRecDepth 100000
theorem ordMsg_iff {first : Bool} {o : Orv} {d : Dat} : ordMsg first o d = true ↔ first = false ∧ (d.rseq = o.now.rs ∧ d.rrep = o.now.rr) ∧ o.seq < d.seq ∧ ¬ d.msg.kind = 5 := by
  unfold ordMsg
  simp only [Bool.and_eq_true, Bool.not_eq_true', decide_eq_true_eq, decide_eq_false_iff_not, and_assoc]
theorem ordTr_iff {node : Int} {first : Bool} {o : Orv} {c : Cfg} : ordTr node first o c = true ↔ first = false ∧ o.trans.trans = false ∧ (c.os = o.now.rs ∧ c.or_ = o.now.rr) ∧ hasC c.mem node = true ∧ andI .i64 c.mem o.now.mem = c.mem := by
  unfold ordTr
  simp only [Bool.and_eq_true, Bool.not_eq_true', decide_eq_true_eq, and_assoc]
theorem ordCf_iff {node : Int} {first : Bool} {o : Orv} {c : Cfg} : ordCf node first o c = true ↔ hasC c.mem node = true ∧ (first = true ∨ (o.trans.trans = true ∧ (c.rs = o.trans.rs ∧ c.rr = o.trans.rr) ∧ 0 < ringsI c.rs c.rr o.now.rs o.now.rr ∧ andI .i64 o.trans.mem c.mem = o.trans.mem)) := by
  unfold ordCf
  simp only [Bool.and_eq_true, Bool.or_eq_true, decide_eq_true_eq, and_assoc]
theorem ordF_take {node : Int} {l : List EvD} {i : Nat} (h : i < l.length) : ordF node (l.take (i + 1)) = (ordF node (l.take i)).bind fun o => ordStep node (decide (i = 0)) o l[i] := by
  rw [List.take_add_one, List.getElem?_eq_getElem h, Option.toList_some]
  cases i with
  | zero =>
    show ordF node [l[0]] = _
    show (ordStep node true zst l[0]).bind (ordRun node []) = (some zst).bind _
    rw [Option.bind_some]
    show _ = ordStep node true zst l[0]
    cases ordStep node true zst l[0] <;> rfl
  | succ i =>
    rw [ordF_app node _ (by intro h9; have := congrArg List.length h9; rw [List.length_take, List.length_nil] at this; omega)]
    congr 1
    funext o
    show (ordStep node false o l[i + 1]).bind (ordRun node []) = ordStep node (decide (i + 1 = 0)) o l[i + 1]
    rw [decide_eq_false (by omega)]
    cases ordStep node false o l[i + 1] <;> rfl
theorem ordF_none {node : Int} {l : List EvD} {i : Nat} (h : ordF node (l.take i) = none) : ordF node l = none := by
  by_cases hn : l.take i = []
  · rw [hn] at h; cases h
  · conv => lhs; rw [← List.take_append_drop i l]
    rw [ordF_app node _ hn, h]
    rfl
def bringI (i n : Int) : Int := if n ≤ 0 then 0 else if i.tmod n < 0 then i.tmod n + n else i.tmod n
theorem bringI_rng {i n : Int} (hn : 0 < n) : 0 ≤ bringI i n ∧ bringI i n < n := by
  have h1 := Int.tmod_lt_of_pos i hn
  have h2 := Int.lt_tmod_of_pos i hn
  unfold bringI
  rw [if_neg (by omega)]
  split <;> omega
theorem r9 (i n : Int) (w : World) (hn : 0 < n ∧ n ≤ 1000000) : CallsTo Tryz.prog 9 [.int .i64 i, .int .i64 n] w fun v w' => v = .int .i64 (bringI i n) ∧ Grew w w' := by
  have hb := bringI_rng (i := i) hn.1
  have h1 := Int.tmod_lt_of_pos i hn.1
  have h2 := Int.lt_tmod_of_pos i hn.1
  refine go_in (n := 16) (St.refl _ NoF) Tryz.func9 rfl rfl ?_
  repeat'(first|refine gz ?_|(apply LR.ev; (· apply Ev.rem; (· exact rfl); (· exact rfl); (· first | omega)); (· exact rfl))|(apply addX;(iterate 2 exact rfl);(iterate 2(first|omega));exact rfl)|(refine gs ?_ ?_;all_goals(intro hc;try simp only[hcs]at hc;try exact abz)))
  all_goals (try (exfalso; omega))
  all_goals (
    (apply ret1; (· exact rfl); intro w' hS)
    refine ⟨congrArg (Value.int .i64) ?_, hS.toKeep⟩
    unfold bringI
    rw [if_neg (by omega)]
    first
      | rw [if_pos (by omega)]
      | rw [if_neg (by omega)])
def kindD (k : Int) : Int := if k.tmod 6 < 0 then k.tmod 6 + 6 else k.tmod 6
theorem ev_cfg_at {w : World} {b o i : Nat} {l : List EvA} (h : Rd w (some ⟨b, o, none⟩) (l.flatMap EvA.row)) (hi : i < l.length) : ∀ (j : Nat) (v : Value), l[i].cfg.cells[j]? = some v → w.cell? ((⟨b, o + i * 26 + 1, none⟩ : Addr).add j) = some v := by
  intro j v hj
  rw [addr_add]
  refine row_cell EvA.row_len h hi (1 + j) ?_ (by omega)
  have hl : j < 7 := by
    by_cases h7 : j < 7
    · exact h7
    · rw [List.getElem?_eq_none (by show 7 ≤ j; omega)] at hj; cases hj
  unfold EvA.row
  rw [Nat.add_comm 1 j, List.getElem?_cons_succ, List.getElem?_append_left (by exact hl)]
  exact hj
theorem ev_dat_at {w : World} {b o i : Nat} {l : List EvA} (h : Rd w (some ⟨b, o, none⟩) (l.flatMap EvA.row)) (hi : i < l.length) : ∀ (j : Nat) (v : Value), l[i].x.row[j]? = some v → w.cell? ((⟨b, o + i * 26 + 8, none⟩ : Addr).add j) = some v := by
  intro j v hj
  rw [addr_add]
  refine row_cell EvA.row_len h hi (8 + j) ?_ (by omega)
  unfold EvA.row
  rw [show 8 + j = (7 + j) + 1 by omega, List.getElem?_cons_succ, List.getElem?_append_right (by show 7 ≤ 7 + j; omega)]
  rw [show 7 + j - l[i].cfg.cells.length = j from by show 7 + j - 7 = j; omega]
  exact hj
structure Ord where
  i : Nat
  o : Orv
set_option maxHeartbeats 8000000 in
theorem r21 (node : Int) (a : Option Addr) (c : Nat) (l : List EvA) (w : World) (hr : Rd w a (l.flatMap EvA.row)) (hm : l.length ≤ 1000000000) :
    CallsTo Tryz.prog 21 [.int .i64 node, .slice a l.length c] w fun v w' => v = .bool (ordF node (l.map EvA.e)).isSome ∧ Grew w w' := by
  refine go_in (n := 132) (St.rd1 hr) Tryz.func21 rfl rfl ?_
  repeat'(first|refine gz ?_|refine gy fun _=>?_)
  rename_i b5 b6
  apply CW.loop [4, 7, 8, 9, 10, 11, 12, 13, 14, 15, 16, 17, 18, 19, 20, 21, 22, 23, 24, 25, 26, 27, 28, 29, 30, 31, 32, 33, 34, 35, 36, 37, 38, 39, 40, 41, 42, 43, 44, 45, 46, 47, 48, 49, 50, 51, 52, 53, 54, 55, 56, 57, 58, 59, 60, 61, 62, 63, 64, 65, 66, 67, 68, 69, 70, 71, 72, 73, 74, 75, 76, 77, 78, 79, 80, 81, 82, 83, 84, 85, 86, 87, 88, 89, 90, 91, 92, 93, 94, 95, 96, 97, 98, 99, 100, 101, 102, 103, 104, 105, 106, 107, 108, 109, 110, 111, 112, 113, 114, 115, 116, 117, 118, 119, 120, 121, 122, 123, 124, 125, 126, 127, 128, 129, 130, 131] (fun s : Ord => s.i ≤ l.length ∧ ordF node ((l.map EvA.e).take s.i) = some s.o) (fun s => [(8, .int .i64 (s.i : Int)), (7, .int .i64 s.o.seq)])
    (fun s => St w NoF [.own b6 (.cells s.o.trans.cells.toArray 74 (0, 0)), .own b5 (.cells s.o.now.cells.toArray 74 (0, 0)), rdA a (l.flatMap EvA.row)]) (fun s => l.length - s.i)
  · exact fun w' hw' => ⟨⟨0, zst⟩, ⟨Nat.zero_le _, rfl⟩, ⟨rfl, rfl, trivial⟩, hw'⟩
  rintro ⟨i, o⟩ g ⟨hi, ho⟩
  simp only at hi ho ⊢
  by_cases hlt : i < l.length
  rotate_left
  · have hie : i = l.length := by omega
    rw [hie, List.take_of_length_le (by rw [List.length_map]; exact Nat.le_refl _)] at ho
    rw [ho]
    subst hie
    repeat'(first|refine gz ?_|(refine gs ?_ ?_;all_goals(intro hc;try simp only[hcs]at hc;try exact abz)))
    (apply ret1; (· exact rfl); intro w' hS)
    exact ⟨rfl, hS.toKeep⟩
  obtain ⟨bg, og, rfl⟩ := hr.form (rows_ne EvA.row_len (by omega) hlt)
  have hnx := ordF_take (node := node) (l := l.map EvA.e) (i := i) (by rw [List.length_map]; exact hlt)
  rw [ho, Option.bind_some, List.getElem_map] at hnx
  have hl : l[i]? = some l[i] := List.getElem?_eq_getElem hlt
  repeat'(first|(apply CW.reg_heldC)|refine gz ?_|(refine gs ?_ ?_;all_goals(intro hc;try simp only[hcs]at hc;try exact abz)))
  all_goals (
    apply DW.quiet [0, 1, 2, 3, 4, 5, 6, 7, 8, 9]
    · decide +kernel
    · exact stZ
    repeat'(first|(apply QL.ev; (· exact rfl); (· first | (apply Ev.indexAddr; (· exact rfl); (· exact rfl); (· omega); (· omega)) | (apply Ev.load_agg_at (cs := l[i].cfg.cells); (· exact rfl); (· exact rfl); (· intro w' hw'; exact ev_cfg_at (hw'.rd_of memZ) hlt)) | (apply Ev.load_agg_at (cs := l[i].x.row); (· exact rfl); (· exact rfl); (· intro w' hw'; exact ev_dat_at (hw'.rd_of memZ) hlt))); (· exact rfl))|refine gq ?_|apply QL.nil)
    all_goals (show DW _ _ _ _ _ _ _ _))
  apply DP.begin []
  refine DP.more (PI.lr 11 10 [] (fun b => .pointer (some ⟨b, 0, none⟩)) (fun b => [.own b (.cells [.int .i64 0, .int .i64 0, .int .i64 0, .int .i64 0, .int .i64 0, .int .i64 0, .int .i64 0, .int .i64 0, .int .i64 0, .int .i64 0, .int .i64 0, .int .i64 0, .bool false, .int .i64 0, .int .i64 0, .int .i64 0, .int .i64 0, .slice none 0 0].toArray 52 (0, 0))]) rfl (fun b x hx => by simp only [List.mem_singleton] at hx; subst hx; rfl) ?_) ?_
  · intro h w2
    apply kA
    · exact rfl
    intro b
    apply kM
    exact At.made rfl
  refine DP.more (PI.lr 10 9 [] (fun b => .pointer (some ⟨b, 0, none⟩)) (fun b => [.own b (.cells [.int .i64 0, .int .i64 0, .int .i64 0, .int .i64 0, .int .i64 0, .bool false, .int .i64 0].toArray 74 (0, 0))]) rfl (fun b x hx => by simp only [List.mem_singleton] at hx; subst hx; rfl) ?_) ?_
  · intro h w2
    apply kA
    · exact rfl
    intro b
    apply kM
    exact At.made rfl
  refine DP.take 10 9 (fun b => .pointer (some ⟨b, 0, none⟩)) (fun b => [.own b (.cells [.int .i64 0, .int .i64 0, .int .i64 0, .int .i64 0, .int .i64 0, .bool false, .int .i64 0].toArray 74 (0, 0))]) [11] [9, 10] [[], []] rfl rfl rfl rfl rfl rfl rfl (by decide +kernel) ⟨trivial, fun _ _ _ => trivial, ⟨trivial, fun _ _ _ => trivial, trivial⟩⟩ (fun A w' hA => St.sub hA (by simp only [List.cons_append, List.nil_append]; repeat (first | exact List.sublist_append_left _ _ ))) (fun bp9 => ?_)
  refine DP.take 11 10 (fun b => .pointer (some ⟨b, 0, none⟩)) (fun b => [.own b (.cells [.int .i64 0, .int .i64 0, .int .i64 0, .int .i64 0, .int .i64 0, .int .i64 0, .int .i64 0, .int .i64 0, .int .i64 0, .int .i64 0, .int .i64 0, .int .i64 0, .bool false, .int .i64 0, .int .i64 0, .int .i64 0, .int .i64 0, .slice none 0 0].toArray 52 (0, 0))]) [] [10] [[]] rfl rfl rfl rfl rfl rfl rfl (by decide +kernel) ⟨trivial, fun _ _ _ => trivial, trivial⟩ (fun A w' hA => St.sub hA (by simp only [List.cons_append, List.nil_append]; repeat (first | exact List.sublist_append_left _ _ | apply List.Sublist.cons))) (fun bp10 => ?_)
  refine DP.nil ?_
  refine DW.castL (by simp only [List.cons_append, List.nil_append]; exact rfl) ?_
  all_goals (
    apply DW.loud 12
    · exact rfl
    · decide +kernel
    repeat'(first|refine gw ?_)
    all_goals (refine ats ?_))
  all_goals (
    apply DW.loud 13
    · exact rfl
    · decide +kernel
    repeat'(first|refine gw ?_)
    all_goals (refine ats ?_))
  all_goals (first | (apply DW.done_thn; (· decide +kernel)) |fail)
  have hkc : ∀ w', Rd w' (some ⟨bg, og, none⟩) (l.flatMap EvA.row) → ∀ q, q = og + i * 26 + 0 → w'.cell? ⟨bg, q, none⟩ = some (.int .i64 l[i].kind) := fun w' h q hq => row_cell EvA.row_len h hlt 0 rfl hq
  generalize l[i] = e at *
  unfold ordStep at hnx
  by_cases hk : e.kind = 2
  · rw [if_pos (show e.e.kind = 2 from hk)] at hnx
    by_cases hm : ordMsg (decide (i = 0)) o e.e.dat = true
    · rw [if_pos hm] at hnx
      obtain ⟨f1, f2, f3, f4⟩ := ordMsg_iff.1 hm
      rw [decide_eq_false_iff_not] at f1
      have f2' : e.x.d.rseq = o.now.rs ∧ e.x.d.rrep = o.now.rr := f2
      have f3' : o.seq < e.x.d.seq := f3
      have f4' : ¬ e.x.d.msg.kind = 5 := f4
      clear hm
      repeat'(first|refine gz ?_|(apply idxX;(iterate 2 exact rfl);(iterate 2(first|omega));exact rfl)|(apply LR.ev; (· apply Ev.load (v := .int .i64 e.kind); (· exact rfl); (· exact fun w' hw' => hkc w' (hw'.rd_of memZ) _ (by omega))); (· exact rfl))|(apply addX;(iterate 2 exact rfl);(iterate 2(first|omega));exact rfl)|(refine gs ?_ ?_;all_goals(intro hc;try simp only[hcs]at hc;try exact abz)))
      refine At.again (⟨i + 1, { o with seq := e.e.dat.seq }⟩ : Ord) ⟨by show i + 1 ≤ _; omega, hnx⟩ ?_ ⟨rfl, rfl, trivial⟩ (fun w' hw' => hw'.sub subN) (by show l.length - (i + 1) < l.length - i; omega)
      exact outZ
    · rw [if_neg hm] at hnx
      repeat'(first|refine gz ?_|(apply idxX;(iterate 2 exact rfl);(iterate 2(first|omega));exact rfl)|(apply LR.ev; (· apply Ev.load (v := .int .i64 e.kind); (· exact rfl); (· exact fun w' hw' => hkc w' (hw'.rd_of memZ) _ (by omega))); (· exact rfl))|(apply addX;(iterate 2 exact rfl);(iterate 2(first|omega));exact rfl)|(refine gs ?_ ?_;all_goals(intro hc;try simp only[hcs]at hc;try exact abz)))
      all_goals (
        first
          | (exfalso
             exact hm (ordMsg_iff.2 ⟨decide_eq_false (by omega), (show e.x.d.rseq = o.now.rs ∧ e.x.d.rrep = o.now.rr by assumption), (show o.seq < e.x.d.seq by omega), (show ¬ e.x.d.msg.kind = 5 by assumption)⟩)
             done)
          | ((apply ret1; (· exact rfl); intro w' hS)
             exact ⟨congrArg Value.bool (by rw [ordF_none (i := i + 1) hnx]; rfl), hS.toKeep⟩))
  · rw [if_neg (show ¬ e.e.kind = 2 from hk)] at hnx
    by_cases ht : e.cfg.trans = true
    · rw [if_pos (show e.e.cfg.trans = true from ht)] at hnx
      by_cases hm : ordTr node (decide (i = 0)) o e.e.cfg = true
      · rw [if_pos hm] at hnx
        obtain ⟨f1, f2, f3, f4, f5⟩ := ordTr_iff.1 hm
        rw [decide_eq_false_iff_not] at f1
        have f3' : e.cfg.os = o.now.rs ∧ e.cfg.or_ = o.now.rr := f3
        have f4' : hasC e.cfg.mem node = true := f4
        have f5' : andI .i64 e.cfg.mem o.now.mem = e.cfg.mem := f5
        clear hm
        repeat'(first|refine gz ?_|(apply idxX;(iterate 2 exact rfl);(iterate 2(first|omega));exact rfl)|(apply LR.ev; (· apply Ev.load (v := .int .i64 e.kind); (· exact rfl); (· exact fun w' hw' => hkc w' (hw'.rd_of memZ) _ (by omega))); (· exact rfl))|(apply kq; (· exact rfl); (· intro w1 h1; first | exact CallsTo.q (show CallsTo Tryz.prog 53 [.int .i64 e.cfg.mem, .int .i64 node] w1 _ from q23 e.cfg.mem node w1) h1 | exact CallsTo.q (show CallsTo Tryz.prog 54 [.agg [.int .i64 e.cfg.rs, .int .i64 e.cfg.rr].toArray, .agg [.int .i64 o.now.rs, .int .i64 o.now.rr].toArray] w1 _ from q78 e.cfg.rs e.cfg.rr o.now.rs o.now.rr w1) h1))|(apply addX;(iterate 2 exact rfl);(iterate 2(first|omega));exact rfl)|(refine gs ?_ ?_;all_goals(intro hc;try simp only[hcs]at hc;try exact abz)))
        all_goals (first
        | (exfalso
           first
             | exact ht (by assumption)
             | (have h9 : e.cfg.trans = false := by assumption
                rw [ht] at h9
                cases h9)
             | (have h9 : o.trans.trans = true := by assumption
                rw [f2] at h9
                cases h9)
             | (have h9 : hasC e.cfg.mem node = false := by assumption
                rw [f1'] at h9
                cases h9)
             | (have h9 : hasC e.cfg.mem node = false := by assumption
                rw [f4'] at h9
                cases h9)
             | (rcases f2' with h9 | ⟨h9, h10, h11, h12⟩ <;> first | omega ))
        | skip)
        refine At.again (⟨i + 1, { o with trans := e.e.cfg }⟩ : Ord) ⟨by show i + 1 ≤ _; omega, hnx⟩ ?_ ⟨rfl, rfl, trivial⟩ (fun w' hw' => hw'.sub subN) (by show l.length - (i + 1) < l.length - i; omega)
        exact outZ
      · rw [if_neg hm] at hnx
        repeat'(first|refine gz ?_|(apply idxX;(iterate 2 exact rfl);(iterate 2(first|omega));exact rfl)|(apply LR.ev; (· apply Ev.load (v := .int .i64 e.kind); (· exact rfl); (· exact fun w' hw' => hkc w' (hw'.rd_of memZ) _ (by omega))); (· exact rfl))|(apply kq; (· exact rfl); (· intro w1 h1; first | exact CallsTo.q (show CallsTo Tryz.prog 53 [.int .i64 e.cfg.mem, .int .i64 node] w1 _ from q23 e.cfg.mem node w1) h1 | exact CallsTo.q (show CallsTo Tryz.prog 54 [.agg [.int .i64 e.cfg.rs, .int .i64 e.cfg.rr].toArray, .agg [.int .i64 o.now.rs, .int .i64 o.now.rr].toArray] w1 _ from q78 e.cfg.rs e.cfg.rr o.now.rs o.now.rr w1) h1))|(apply addX;(iterate 2 exact rfl);(iterate 2(first|omega));exact rfl)|(refine gs ?_ ?_;all_goals(intro hc;try simp only[hcs]at hc;try exact abz)))
        all_goals (
          first
            | (exfalso; exact ht (by assumption))
            | (exfalso; exact Bool.noConfusion (ht.symm.trans (show e.cfg.trans = false by assumption)))
            | (exfalso
               exact hm (ordTr_iff.2 ⟨decide_eq_false (by omega), (show o.trans.trans = false by assumption), (show e.cfg.os = o.now.rs ∧ e.cfg.or_ = o.now.rr by assumption), (show hasC e.cfg.mem node = true by assumption), (show andI .i64 e.cfg.mem o.now.mem = e.cfg.mem by assumption)⟩)
               done)
            | ((apply ret1; (· exact rfl); intro w' hS)
               exact ⟨congrArg Value.bool (by rw [ordF_none (i := i + 1) hnx]; rfl), hS.toKeep⟩))
    · rw [if_neg (show ¬ e.e.cfg.trans = true from ht)] at hnx
      by_cases hm : ordCf node (decide (i = 0)) o e.e.cfg = true
      · rw [if_pos hm] at hnx
        obtain ⟨f1, f2⟩ := ordCf_iff.1 hm
        rw [decide_eq_true_eq] at f2
        have f1' : hasC e.cfg.mem node = true := f1
        have f2' : i = 0 ∨ (o.trans.trans = true ∧ (e.cfg.rs = o.trans.rs ∧ e.cfg.rr = o.trans.rr) ∧ 0 < ringsI e.cfg.rs e.cfg.rr o.now.rs o.now.rr ∧ andI .i64 o.trans.mem e.cfg.mem = o.trans.mem) := f2
        clear hm
        repeat'(first|refine gz ?_|(apply idxX;(iterate 2 exact rfl);(iterate 2(first|omega));exact rfl)|(apply LR.ev; (· apply Ev.load (v := .int .i64 e.kind); (· exact rfl); (· exact fun w' hw' => hkc w' (hw'.rd_of memZ) _ (by omega))); (· exact rfl))|(apply kq; (· exact rfl); (· intro w1 h1; first | exact CallsTo.q (show CallsTo Tryz.prog 53 [.int .i64 e.cfg.mem, .int .i64 node] w1 _ from q23 e.cfg.mem node w1) h1 | exact CallsTo.q (show CallsTo Tryz.prog 54 [.agg [.int .i64 e.cfg.rs, .int .i64 e.cfg.rr].toArray, .agg [.int .i64 o.now.rs, .int .i64 o.now.rr].toArray] w1 _ from q78 e.cfg.rs e.cfg.rr o.now.rs o.now.rr w1) h1))|(apply addX;(iterate 2 exact rfl);(iterate 2(first|omega));exact rfl)|(refine gs ?_ ?_;all_goals(intro hc;try simp only[hcs]at hc;try exact abz)))
        all_goals (first
        | (exfalso
           first
             | exact ht (by assumption)
             | (have h9 : e.cfg.trans = false := by assumption
                rw [ht] at h9
                cases h9)
             | (have h9 : o.trans.trans = true := by assumption
                rw [f2] at h9
                cases h9)
             | (have h9 : hasC e.cfg.mem node = false := by assumption
                rw [f1'] at h9
                cases h9)
             | (have h9 : hasC e.cfg.mem node = false := by assumption
                rw [f4'] at h9
                cases h9)
             | (rcases f2' with h9 | ⟨h9, h10, h11, h12⟩ <;> first | omega | (rw [show o.trans.trans = false by assumption] at h9; cases h9)))
        | skip)
        all_goals (
          refine At.again (⟨i + 1, ⟨e.e.cfg, zeroCfg, 0⟩⟩ : Ord) ⟨by show i + 1 ≤ _; omega, hnx⟩ ?_ ⟨rfl, rfl, trivial⟩ (fun w' hw' => hw'.sub subN) (by show l.length - (i + 1) < l.length - i; omega)
          exact outZ
          )
      · rw [if_neg hm] at hnx
        repeat'(first|refine gz ?_|(apply idxX;(iterate 2 exact rfl);(iterate 2(first|omega));exact rfl)|(apply LR.ev; (· apply Ev.load (v := .int .i64 e.kind); (· exact rfl); (· exact fun w' hw' => hkc w' (hw'.rd_of memZ) _ (by omega))); (· exact rfl))|(apply kq; (· exact rfl); (· intro w1 h1; first | exact CallsTo.q (show CallsTo Tryz.prog 53 [.int .i64 e.cfg.mem, .int .i64 node] w1 _ from q23 e.cfg.mem node w1) h1 | exact CallsTo.q (show CallsTo Tryz.prog 54 [.agg [.int .i64 e.cfg.rs, .int .i64 e.cfg.rr].toArray, .agg [.int .i64 o.now.rs, .int .i64 o.now.rr].toArray] w1 _ from q78 e.cfg.rs e.cfg.rr o.now.rs o.now.rr w1) h1))|(apply addX;(iterate 2 exact rfl);(iterate 2(first|omega));exact rfl)|(refine gs ?_ ?_;all_goals(intro hc;try simp only[hcs]at hc;try exact abz)))
        all_goals (
          first
            | (exfalso; exact ht (by assumption))
            | (exfalso; exact Bool.noConfusion (ht.symm.trans (show e.cfg.trans = false by assumption)))
            | (exfalso
               exact hm (ordCf_iff.2 ⟨(show hasC e.cfg.mem node = true by assumption), by first | exact .inl (decide_eq_true (by omega)) | exact .inr ⟨(show o.trans.trans = true by assumption), (show e.cfg.rs = o.trans.rs ∧ e.cfg.rr = o.trans.rr by assumption), (show 0 < ringsI e.cfg.rs e.cfg.rr o.now.rs o.now.rr by omega), (show andI .i64 o.trans.mem e.cfg.mem = o.trans.mem by assumption)⟩⟩)
               done)
            | ((apply ret1; (· exact rfl); intro w' hS)
               exact ⟨congrArg Value.bool (by rw [ordF_none (i := i + 1) hnx]; rfl), hS.toKeep⟩))
end Go.Proofs.YtohbcfokihplbaaGreatDoor
namespace Go.Proofs.YtohbcfokihplbaaGreatDoor
open Go.Hb Go.ChangeShapes Go.WideShapes
set_option maxRecDepth 100000
theorem opn_ent : Opn Tryz.prog 91 (fun _ cs=>∃ e : Ent,cs = e.cells) := by
 refine (opn_struct Tryz.underlying91).mono fun w cs ⟨hl,h⟩=>?_
 have hl : cs.length = 6 := hl
 match cs,hl with
 | [y0,y1,y2,y3,y4,y5],_=>
  obtain ⟨x0,h0,_⟩ := h 0 _ rfl _ opn_i64
  obtain ⟨x1,x2,h1,_,_⟩ := h 1 _ rfl _ opn_ring
  obtain ⟨x3,h2,_⟩ := h 2 _ rfl _ opn_i64
  obtain ⟨x4,h3,_⟩ := h 3 _ rfl _ opn_i64
  obtain ⟨x5,h4,_⟩ := h 4 _ rfl _ opn_i64
  have h0 : [y0] = [Value.int .i64 x0] := h0
  have h1 : [y1,y2] = [Value.int .i64 x1,.int .i64 x2] := h1
  have h2 : [y3] = [Value.int .i64 x3] := h2
  have h3 : [y4] = [Value.int .i64 x4] := h3
  have h4 : [y5] = [Value.int .i64 x5] := h4
  simp only [List.cons.injEq,and_true] at h0 h1 h2 h3 h4
  exact ⟨⟨x0,x1,x2,x3,x4,x5⟩,by rw [h0,h1.1,h1.2,h2,h3,h4];rfl⟩
theorem opn_ents : Opn Tryz.prog 57 (fun w cs=>∃ (a : Option Addr) (c : Nat) (l : List Ent),cs = [.slice a l.length c] ∧ Rd w a (l.flatMap Ent.cells) ∧ (a = none → c = 0) ∧ l.length ≤ 2932031007317) := by
 refine (opn_slice Tryz.underlying57 (sz := 6) (by_ := 48) (by kernel_rfl) (by omega) (by kernel_rfl) opn_ent).mono ?_
 rintro w cs ⟨a,len,cap,css,rfl,rfl,hg,hr,hz,hc,hm⟩
 obtain ⟨l,h1,h2,_⟩ := Go.Hb.rows_of (f := Ent.cells) (R := fun _=>True) css fun c hc=>(by obtain ⟨e,he⟩ := (hg c hc).1;exact ⟨e,he,trivial⟩)
 rw [h1] at hr
 have hm : css.length * 48 ≤ 140737488351232 := hm
 exact ⟨a,cap,l,by rw [h2],hr,hz,by omega⟩
theorem opn_com : Opn Tryz.prog 59 (fun w cs=>∃ (x : Cmt) (a : Option Addr) (c : Nat),cs = x.cells a c ∧ Rd w a (x.ents.flatMap Ent.cells) ∧ (a = none → c = 0) ∧ x.ents.length ≤ 2932031007317 ∧ i64 x.mem) := by
 refine (opn_struct Tryz.underlying59).mono fun w cs ⟨hl,h⟩=>?_
 have hl : cs.length = 5 := hl
 match cs,hl with
 | [y0,y1,y2,y3,y4],_=>
  obtain ⟨x0,x1,h0,_,_⟩ := h 0 _ rfl _ opn_ring
  obtain ⟨x2,h1,g2⟩ := h 1 _ rfl _ opn_i64
  obtain ⟨x3,h2,_⟩ := h 2 _ rfl _ opn_i64
  obtain ⟨a,c,l,h3,hr,hz,hm⟩ := h 3 _ rfl _ opn_ents
  have h0 : [y0,y1] = [Value.int .i64 x0,.int .i64 x1] := h0
  have h1 : [y2] = [Value.int .i64 x2] := h1
  have h2 : [y3] = [Value.int .i64 x3] := h2
  have h3 : [y4] = [Value.slice a l.length c] := h3
  simp only [List.cons.injEq,and_true] at h0 h1 h2 h3
  exact ⟨⟨x0,x1,x2,x3,l⟩,a,c,by rw [h0.1,h0.2,h1,h2,h3];rfl,hr,hz,hm,g2⟩
theorem opn_join : Opn Tryz.prog 56 (fun _ cs=>∃ x y z : Int,cs = [.int .i64 x,.int .i64 y,.int .i64 z] ∧ i64 y) := by
 refine (opn_struct Tryz.underlying56).mono fun w cs ⟨hl,h⟩=>?_
 have hl : cs.length = 3 := hl
 match cs,hl with
 | [y0,y1,y2],_=>
  obtain ⟨x0,h0,_⟩ := h 0 _ rfl _ opn_i64
  obtain ⟨x1,h1,g1⟩ := h 1 _ rfl _ opn_i64
  obtain ⟨x2,h2,_⟩ := h 2 _ rfl _ opn_i64
  have h0 : [y0] = [Value.int .i64 x0] := h0
  have h1 : [y1] = [Value.int .i64 x1] := h1
  have h2 : [y2] = [Value.int .i64 x2] := h2
  simp only [List.cons.injEq,and_true] at h0 h1 h2
  exact ⟨x0,x1,x2,by rw [h0,h1,h2],g1⟩
theorem opn_bea : Opn Tryz.prog 61 (fun _ cs=>∃ x y z : Int,cs = [.int .i64 x,.int .i64 y,.int .i64 z]) := by
 refine (opn_struct Tryz.underlying61).mono fun w cs ⟨hl,h⟩=>?_
 have hl : cs.length = 3 := hl
 match cs,hl with
 | [y0,y1,y2],_=>
  obtain ⟨x0,x1,h0,_,_⟩ := h 0 _ rfl _ opn_ring
  obtain ⟨x2,h2,_⟩ := h 1 _ rfl _ opn_i64
  have h0 : [y0,y1] = [Value.int .i64 x0,.int .i64 x1] := h0
  have h2 : [y2] = [Value.int .i64 x2] := h2
  simp only [List.cons.injEq,and_true] at h0 h2
  exact ⟨x0,x1,x2,by rw [h0.1,h0.2,h2]⟩
theorem opn_pkt : Opn Tryz.prog 63 (fun w cs=>∃ (p : Pkt) (A : PAd),cs = p.cells A ∧ PktR w p A ∧ PktI p) := by
 refine (opn_struct Tryz.underlying63).mono fun w cs ⟨hl,h⟩=>?_
 have hl : cs.length = 40 := hl
 match cs,hl with
 | y0 :: y1 :: y2 :: y3 :: y4 :: y5 :: y6 :: y7 :: y8 :: y9 :: y10 :: y11 :: y12 :: y13 :: y14 :: y15 :: y16 :: y17 :: y18 :: y19 :: y20 :: y21 :: y22 :: y23 :: y24 :: y25 :: y26 :: y27 :: y28 :: y29 :: y30 :: y31 :: y32 :: y33 :: y34 :: y35 :: y36 :: y37 :: y38 :: y39 :: [],_=>
  obtain ⟨x0,h0,_⟩ := h 0 _ rfl _ opn_i64
  obtain ⟨x1,h1,_⟩ := h 1 _ rfl _ opn_i64
  obtain ⟨d,da,dc,h2,dr,db,dz,dm,_⟩ := h 2 _ rfl _ opn_dat
  obtain ⟨t,ta,tc,h3,tr,_,tz,_,tm⟩ := h 3 _ rfl _ opn_tok
  obtain ⟨j1,j2,j3,h4,g4⟩ := h 4 _ rfl _ opn_join
  obtain ⟨c,ca,cc,h5,cr,cz,cm,g5⟩ := h 5 _ rfl _ opn_com
  obtain ⟨b1,b2,b3,h6⟩ := h 6 _ rfl _ opn_bea
  have h0 : [y0] = [Value.int .i64 x0] := h0
  have h1 : [y1] = [Value.int .i64 x1] := h1
  have h2 : [y2,y3,y4,y5,y6,y7,y8,y9,y10,y11,y12,y13,y14,y15,y16,y17,y18,y19] = d.cells da dc := h2
  have h3 : [y20,y21,y22,y23,y24,y25,y26,y27,y28] = t.cells ta tc := h3
  have h4 : [y29,y30,y31] = [Value.int .i64 j1,.int .i64 j2,.int .i64 j3] := h4
  have h5 : [y32,y33,y34,y35,y36] = c.cells ca cc := h5
  have h6 : [y37,y38,y39] = [Value.int .i64 b1,.int .i64 b2,.int .i64 b3] := h6
  refine ⟨⟨x0,x1,d,⟨t.r1,t.r2,t.hop,t.seq,t.aru,t.low,t.stamp,t.idle,t.ask⟩,j1,j2,j3,c,b1,b2,b3⟩,⟨da,dc,ta,tc,ca,cc⟩,?_,⟨dr,dz,db,dm,tr,tz,tm,cr,cz,cm⟩,?_⟩
  ·show [y0] ++ [y1] ++ ([y2,y3,y4,y5,y6,y7,y8,y9,y10,y11,y12,y13,y14,y15,y16,y17,y18,y19] ++ ([y20,y21,y22,y23,y24,y25,y26,y27,y28] ++ ([y29,y30,y31] ++ ([y32,y33,y34,y35,y36] ++ [y37,y38,y39])))) = _
   rw [h0,h1,h2,h3,h4,h5,h6]
   rfl
  ·unfold i64 at g4 g5
   exact ⟨by simp only;omega,by simp only;omega⟩
theorem opn_msgsR : Opn Tryz.prog 64 (fun w cs=>∃ (a : Option Addr) (c : Nat) (l : List MsgA),cs = [.slice a l.length c] ∧ Rd w a (l.flatMap MsgA.row) ∧ (∀ x ∈ l,MR w x) ∧ l.length ≤ 140737488351232) := by
 refine (opn_slice Tryz.underlying64 (sz := 13) (by_ := 120) (by kernel_rfl) (by omega) (by kernel_rfl) opn_msg).mono ?_
 rintro w cs ⟨a,len,cap,css,rfl,rfl,hg,hr,hz,hc,hm⟩
 obtain ⟨l,h1,h2,h3⟩ := Go.Hb.rows_of (f := MsgA.row) (R := fun x=>MR w x) css fun c hc=>by
  obtain ⟨m,a,c',e,h1,h2,h3,h4,_⟩ := (hg c hc).1
  exact ⟨⟨m,a,c'⟩,e,h1,h3,by show m.body.length ≤ _;omega,h2⟩
 rw [h1] at hr
 have hm : css.length * 120 ≤ 140737488351232 := hm
 exact ⟨a,cap,l,by rw [h2],hr,h3,by omega⟩
structure DoA where
 k : Int
 n : Int
 p : Pkt
 ad : PAd
 al : Option Addr
 cl : Nat
 ms : List MsgA
def DoA.row (x : DoA) : List Value := [.int .i64 x.k,.int .i64 x.n] ++ (x.p.cells x.ad ++ [.slice x.al x.ms.length x.cl])
theorem DoA.row_len (x : DoA) : x.row.length = 43 := rfl
structure DoR (w : World) (x : DoA) : Prop where
 k : i64 x.k
 p : PktR w x.p x.ad
 pi : PktI x.p
 r : Rd w x.al (x.ms.flatMap MsgA.row)
 m : ∀ y ∈ x.ms,MR w y
 l : x.ms.length ≤ 140737488351232
theorem opn_doR : Opn Tryz.prog 66 (fun w cs=>∃ x : DoA,cs = x.row ∧ DoR w x) := by
 refine (opn_struct Tryz.underlying66).mono fun w cs ⟨hl,h⟩=>?_
 have hl : cs.length = 43 := hl
 match cs,hl with
 | y0 :: y1 :: r,hl=>
  have hl : r.length = 41 := by simpa using hl
  obtain ⟨x0,h0,g0⟩ := h 0 _ rfl _ opn_i64
  obtain ⟨x1,h1,g1⟩ := h 1 _ rfl _ opn_i64
  obtain ⟨p,ad,h2,hp,hpi⟩ := h 2 _ rfl _ opn_pkt
  obtain ⟨a,c,l,h3,hr,hm,hll⟩ := h 3 _ rfl _ opn_msgsR
  have h0 : [y0] = [Value.int .i64 x0] := h0
  have h1 : [y1] = [Value.int .i64 x1] := h1
  have h2 : r.take 40 = p.cells ad := h2
  have h3 : (r.drop 40).take 1 = [.slice a l.length c] := h3
  have h4 : r = p.cells ad ++ [.slice a l.length c] := by
   have h5 : (r.drop 40).take 1 = r.drop 40 := List.take_of_length_le (by rw [List.length_drop];omega)
   rw [h5] at h3
   rw [← h2,← h3,List.take_append_drop]
  simp only [List.cons.injEq,and_true] at h0 h1
  exact ⟨⟨x0,x1,p,ad,a,c,l⟩,by rw [h0,h1,h4];rfl,g0,hp,hpi,hr,hm,hll⟩
theorem opn_dosR : Opn Tryz.prog 35 (fun w cs=>∃ (a : Option Addr) (c : Nat) (l : List DoA),cs = [.slice a l.length c] ∧ Rd w a (l.flatMap DoA.row) ∧ (∀ x ∈ l,DoR w x)) := by
 refine (opn_slice Tryz.underlying35 (sz := 43) (by_ := 408) (by kernel_rfl) (by omega) (by kernel_rfl) opn_doR).mono ?_
 rintro w cs ⟨a,len,cap,css,rfl,rfl,hg,hr,hz,hc,hm⟩
 obtain ⟨l,h1,h2,h3⟩ := rows_of css fun c hc=>(hg c hc).1
 rw [h1] at hr
 exact ⟨a,cap,l,by rw [h2],hr,h3⟩
abbrev pkL (x : DoA) (L : List Asrt) : List Asrt := rdA x.ad.da (bv x.p.d.msg.body) :: rdA x.ad.ta (iv x.p.t.ask) :: rdA x.ad.ca (x.p.c.ents.flatMap Ent.cells) :: L
theorem DoR.pkt {w0 w : World} {L : List Asrt} {x : DoA} (hx : DoR w0 x) (h : St w0 NoF L w) : St w0 NoF (pkL x L) w :=
 ((h.addRd hx.p.hc (fun _ _ f=>f)).addRd hx.p.ht (fun _ _ f=>f)).addRd hx.p.hd (fun _ _ f=>f)
theorem DoR.pkh {w0 : World} {L : List Asrt} {x : DoA} (hx : DoR w0 x) : PkH (pkL x L) x.p x.ad :=
 ⟨⟨_,List.Mem.head _,fun w h=>h,fun k hk=>hk⟩,⟨_,List.Mem.tail _ (List.Mem.head _),fun w h=>h⟩,⟨_,List.Mem.tail _ (List.Mem.tail _ (List.Mem.head _)),fun w h=>h⟩,hx.p.hdz,hx.p.htz,hx.p.hcz,hx.p.hdb,hx.p.hdm,hx.p.htm,hx.p.hcm⟩
def msF (x : DoA) : Nat → Prop := fun k=>rdFoot x.al (x.ms.flatMap MsgA.row) k ∨ ∃ y ∈ x.ms,rdFoot y.a (bv y.m.body) k
def msP (x : DoA) (w : World) : Prop := Rd w x.al (x.ms.flatMap MsgA.row) ∧ ∀ y ∈ x.ms,MR w y
abbrev msA (x : DoA) : Asrt := .rd (msF x) (msP x)
theorem DoR.msg {w0 w : World} {L : List Asrt} {x : DoA} (hx : DoR w0 x) (h : St w0 NoF L w) : St w0 NoF (msA x :: L) w := by
 refine h.old (B := msF x) (φ := msP x) ⟨hx.r,hx.m⟩ ?_ ?_
 ·rintro k (hk | ⟨y,hy,hk⟩)
  ·exact ⟨hx.r.live k hk,fun f=>f⟩
  ·exact ⟨(hx.m y hy).hr.live k hk,fun f=>f⟩
 ·intro w1 w2 hk ⟨h1,h2⟩
  refine ⟨Rd.dep _ _ w1 w2 (fun k hf=>hk k (.inl hf)) h1,fun y hy=>?_⟩
  have m := h2 y hy
  exact ⟨Rd.dep _ _ w1 w2 (fun k hf=>hk k (.inr ⟨y,hy,hf⟩)) m.hr,m.hz,m.hm,m.hb⟩
theorem DoR.msh {w0 : World} {L : List Asrt} {x : DoA} (hx : DoR w0 x) : MsH (msA x :: L) x.al x.ms :=
 ⟨⟨_,List.Mem.head _,fun w h=>h,fun k hk=>.inl hk,fun y hy k hk=>.inr ⟨y,hy,hk⟩⟩,by have := hx.l;omega⟩
end Go.Proofs.YtohbcfokihplbaaGreatDoor
namespace Go.Proofs.YtohbcfokihplbaaGreatDoor
open Go.Hb
set_option maxRecDepth 100000
theorem _root_.Go.Hb.St.app {w0 w w' : World} {F : Nat → Prop} {L L' : List Asrt} (h : St w0 F L w) (h2 : St w NoF L' w') (he : ∀ a ∈ L',a.excl = true) : St w0 F (L' ++ L) w' := by
 have hk : ∀ k,k < w.heap.size → w'.heap[k]? = w.heap[k]? := fun k hk=>h2.keep k hk (fun f=>f)
 have hlow : ∀ a ∈ L',∀ k,a.foot k → w.heap.size ≤ k := fun a ha k hf=>by
  rcases Nat.lt_or_ge k w.heap.size with hlt | hge
  ·exact absurd (h2.mine a ha (he a ha) k hf hlt) (fun f=>f)
  ·exact hge
 refine ⟨h2.os.trans h.os,h2.tape.trans h.tape,h2.output.trans h.output,Nat.le_trans h.size h2.size,fun k hlt hF=>?_,fun a ha=>?_,fun a ha k hf=>?_,fun a ha hx k hf hlt=>?_,?_,fun a ha=>?_⟩
 ·rw [hk k (Nat.lt_of_lt_of_le hlt h.size)]
  exact h.keep k hlt hF
 ·rcases List.mem_append.1 ha with ha | ha
  ·exact h2.holds a ha
  ·exact h.dep a ha w w' (fun k hf=>hk k (h.live a ha k hf)) (h.holds a ha)
 ·rcases List.mem_append.1 ha with ha | ha
  ·exact h2.live a ha k hf
  ·exact Nat.lt_of_lt_of_le (h.live a ha k hf) h2.size
 ·rcases List.mem_append.1 ha with ha | ha
  ·have := hlow a ha k hf
   have := h.size
   omega
  ·exact h.mine a ha hx k hf hlt
 ·rw [List.pairwise_append]
  refine ⟨h2.dis,h.dis,fun a ha b hb _ k hf hg=>?_⟩
  have h3 := hlow a ha k hf
  have h4 := h.live b hb k hg
  omega
 ·rcases List.mem_append.1 ha with ha | ha
  ·exact h2.dep a ha
  ·exact h.dep a ha
attribute [local irreducible] LR CW At Ev thn blk finK noG again CallsTo DW QL dnext TW DP
theorem gN_excl (p : Option (Nat × Nat)) (g : Option Gth) : (gN p g).excl = true := by
 unfold gN;split <;> rfl
theorem nN_excl (p : Option (Nat × Nat × List DaA)) (a h : Int) : (nN p a h).excl = true := by
 unfold nN;split <;> rfl
theorem aN_excl (p : Option (Nat × Option Addr × Nat × List MsA)) : (aN p).excl = true := by
 unfold aN;split <;> rfl
section
variable {w0 : World} {F : Nat → Prop}
theorem r14c (nd c : Int) (L : List Asrt) (w : World) (h : St w0 F (tabA :: L) w) (hm : mayNew nd c = true) :
  CallsTo Tryz.prog 14 [.int .i64 nd,.int .i64 c] w fun v w'=>∃ (x : OutA) (b : Nat) (Z : RA),v = .tuple [.pointer (some ⟨b,0,none⟩),x.val,.int .i64 0].toArray ∧ x.o = (newRg nd c).2 ∧ RepA Z (newRg nd c).1 ∧ St w0 F (outO x (rgL b Z (newRg nd c).1 L)) w' := by
 refine CallsTo.mono (r14 nd c w (h.rd_of (List.Mem.head _)) hm) ?_
 rintro v w' ⟨x,b,Z,rfl,hx,hZ,h2⟩
 refine ⟨x,b,Z,rfl,hx,hZ,?_⟩
 generalize (newRg nd c).1 = S at *
 have h3 : St w NoF [pS x.pa x.pc x.pk,bunP x.pk,eS x.ea x.ec x.ev,bunE x.ev,rgB b Z S,alO Z.ba Z.bam S.tm.get,qO Z.bq Z.fq Z.slots Z.qL,wO Z.bw Z.bm Z.es S.now.aru S.now.high,oB Z.bo S.done,gN Z.gp S.g,nN Z.np S.next.aru S.next.high,aN Z.ap,lastO Z S,pS Z.pa Z.pc Z.pk,bunP Z.pk,eS Z.ea Z.ec Z.ev,bunE Z.ev] w' := h2.sub subN
 refine h.app h3 ?_
 intro a ha
 simp only [List.mem_cons,List.not_mem_nil,or_false] at ha
 rcases ha with rfl | rfl | rfl | rfl | rfl | rfl | rfl | rfl | rfl | rfl | rfl | rfl | rfl | rfl | rfl | rfl | rfl
 all_goals first | rfl | exact gN_excl _ _ | exact nN_excl _ _ _ | exact aN_excl _
end
theorem kindD_rng (k : Int) : 0 ≤ kindD k ∧ kindD k ≤ 5 := by
 have h1 := Int.tmod_lt_of_pos k (show (0 : Int) < 6 by decide)
 have h2 := Int.lt_tmod_of_pos k (show (0 : Int) < 6 by decide)
 unfold kindD
 split <;> omega
theorem r15 (x : DoA) (w : World) : CallsTo Tryz.prog 15 [.agg x.row.toArray] w fun v w'=>v = .int .i64 (kindD x.k) ∧ Grew w w' := by
 have h1 := Int.tmod_lt_of_pos x.k (show (0 : Int) < 6 by decide)
 have h2 := Int.lt_tmod_of_pos x.k (show (0 : Int) < 6 by decide)
 refine go_in (n := 12) (St.refl _ NoF) Tryz.func15 rfl rfl ?_
 repeat'(first|refine gz ?_|refine gy fun _=>?_|(apply LR.ev;(·apply Ev.rem;(·exact rfl);(·exact rfl);(·first | decide ));(·exact rfl))|(apply addX;(iterate 2 exact rfl);(iterate 2(first|omega));exact rfl)|(refine gs ?_ ?_;all_goals(intro hc;try simp only[hcs]at hc;try exact abz)))
 all_goals (
  (apply ret1;(·exact rfl);intro w' hS)
  refine ⟨congrArg (Value.int .i64) ?_,hS.toKeep⟩
  unfold kindD
  first
   | rw [if_pos (by omega)]
   | rw [if_neg (by omega)])
end Go.Proofs.YtohbcfokihplbaaGreatDoor
namespace Go.Proofs.YtohbcfokihplbaaGreatDoor
open Go.Hb
set_option maxRecDepth 100000
theorem Ev.cfg_same {C : World → Prop} {f : Frm} {T T'' : TypeId} {x y : Operand} {c : Cfg} (hx : f.ev x = c.val) (hy : f.ev y = c.val) : Ev Tryz.prog C f (.binOp .neq 74 x y T'') T (.bool false) := fun w _ d p af g=>by
 have key : (do eqGuard .neq 74 x y c.val c.val;binOp .neq 74 c.val c.val : Sem Value).run Tryz.prog w = .ok (.bool false) w := by
  unfold Cfg.val Cfg.cells
  simp [go_sem,Sem.run_bind,run_eqGuard_agg,run_eql_struct,run_neq_struct,run_equalIn_agg,run_equalIn_int,run_equalIn_bool,Tryz.underlying3,Tryz.underlying4,Tryz.underlying45,Tryz.underlying74,Tryz.stoodInHeld74,Tryz.eqGuardType74]
 simp only [execOp,hx,hy]
 rw [Sem.run_bind,key]
 rfl
theorem Ev.cfg_eq {C : World → Prop} {f : Frm} {T T'' : TypeId} {x y : Operand} {c : Cfg} (hx : f.ev x = c.val) (hy : f.ev y = c.val) : Ev Tryz.prog C f (.binOp .eql 74 x y T'') T (.bool true) := fun w _ d p af g=>by
 have key : (do eqGuard .eql 74 x y c.val c.val;binOp .eql 74 c.val c.val : Sem Value).run Tryz.prog w = .ok (.bool true) w := by
  unfold Cfg.val Cfg.cells
  simp [go_sem,Sem.run_bind,run_eqGuard_agg,run_eql_struct,run_neq_struct,run_equalIn_agg,run_equalIn_int,run_equalIn_bool,Tryz.underlying3,Tryz.underlying4,Tryz.underlying45,Tryz.underlying74,Tryz.stoodInHeld74,Tryz.eqGuardType74]
 simp only [execOp,hx,hy]
 rw [Sem.run_bind,key]
 rfl
attribute [local irreducible] LR CW At Ev thn blk finK noG again CallsTo DW QL dnext TW DP
def tkR : Nat → Rg × OutV × Int
 | 0=>((newRg 3 7).1,noOut,0)
 | n + 1=>(tkR n).1.tick
theorem new37 : (newRg 3 7).2 = ⟨8,[joinP ⟨3,8,8⟩],[cfgE (plainCfg 8 3 8 0)]⟩ := by kernel_rfl
theorem Inv.tickS {node : Int} {E : List EvD} {kept lo : Int} {n : Nat} {S : Rg} (h : Inv node E kept lo n 0 S) (hn : n + 16 ≤ 29000) : ∃ E' k' l',Inv node E' k' l' (n + 16) 0 S.tick.1 :=
 ⟨_,_,_,(h.tick1 hn).flush⟩
theorem tkR_inv : ∀ i,i ≤ 21 → ∃ E k l,Inv 3 E k l (16 * i) 0 (tkR i).1
 | 0,_=>⟨_,_,_,new_inv (by decide)⟩
 | i + 1,hi=>by
  obtain ⟨E,k,l,h⟩ := tkR_inv i (by omega)
  obtain ⟨E',k',l',h'⟩ := h.tickS (by omega)
  exact ⟨E',k',l',h'⟩
def p1R : Pkt := (tkR 20).2.1.p.getD 1 zeroPkt
theorem tk20 : (tkR 20).2.1.c = 9 ∧ (tkR 20).2.1.p.length = 2 ∧ p1R.t.hop = 2 ∧ (tkR 20).1.state = 2 := by decide +kernel
theorem tk21 : ((tkR 20).1.take p1R).2.2 = 0 ∧ ((tkR 20).1.take p1R).2.1.e.length = 2 ∧ ((tkR 20).1.take p1R).2.1.p.length = 2 ∧ ((tkR 20).1.take p1R).1.state = 3 := by decide +kernel
theorem tk22 : ((tkR 20).1.take p1R).2.1.e = [cfgE ⟨9,3,8,3,8,true,0⟩,cfgE (plainCfg 9 3 8 1)] := by kernel_rfl
theorem len_two {α : Type} {l : List α} (h : l.length = 2) : ∃ y z,l = [y,z] := by
 match l,h with
 | [y,z],_=>exact ⟨y,z,rfl⟩
theorem map_one {α β : Type} {f : α → β} {l : List α} {a : β} (h : l.map f = [a]) : ∃ y,l = [y] ∧ f y = a := by
 cases l with
 | nil=>cases h
 | cons y r=>
  cases r with
  | nil=>exact ⟨y,rfl,by simpa using h⟩
  | cons z r=>simp at h
theorem map_two {α β : Type} {f : α → β} {l : List α} {a b : β} (h : l.map f = [a,b]) : ∃ y z,l = [y,z] ∧ f y = a ∧ f z = b := by
 cases l with
 | nil=>cases h
 | cons y r=>
  rw [List.map_cons,List.cons.injEq] at h
  obtain ⟨z,rfl,hz⟩ := map_one h.2
  exact ⟨y,z,rfl,h.1,hz⟩
theorem p1_pkt : p1R.d.msg.body = [] ∧ p1R.t.ask = [] ∧ p1R.c.ents = [] ∧ p1R.c.mem = 0 ∧ p1R.j2 = 0 := by decide +kernel
theorem pk_cell {w : World} {b o i : Nat} {l : List PkA} (h : Rd w (some ⟨b,o,none⟩) (l.flatMap PkA.row)) (hi : i < l.length) (j : Nat) {v : Value} (hj : l[i].row[j]? = some v) {q : Nat} (hq : q = o + i * 40 + j) : w.cell? ⟨b,q,none⟩ = some v := row_cell PkA.row_len h hi j hj hq
theorem ev_cell {w : World} {b o i : Nat} {l : List EvA} (h : Rd w (some ⟨b,o,none⟩) (l.flatMap EvA.row)) (hi : i < l.length) (j : Nat) {v : Value} (hj : l[i].row[j]? = some v) {q : Nat} (hq : q = o + i * 26 + j) : w.cell? ⟨b,q,none⟩ = some v := row_cell EvA.row_len h hi j hj hq
theorem dt_get {α : Type} {xs : List α} {k m j : Nat} {v : α} (h : ((xs.drop k).take m)[j]? = some v) : xs[k + j]? = some v := by
 rw [List.getElem?_take] at h
 split at h
 ·rwa [List.getElem?_drop] at h
 ·cases h
theorem pk_agg {w : World} {b o i : Nat} {l : List PkA} (h : Rd w (some ⟨b,o,none⟩) (l.flatMap PkA.row)) (hi : i < l.length) (k m : Nat) {q : Nat} (hq : q = o + i * 40 + k) : ∀ (j : Nat) (v : Value),((l[i].row.drop k).take m)[j]? = some v → w.cell? ((⟨b,q,none⟩ : Addr).add j) = some v := fun j v hj=>by
 rw [addr_add]
 exact pk_cell h hi (k + j) (dt_get hj) (by omega)
theorem pk_full {w : World} {b o i : Nat} {l : List PkA} (h : Rd w (some ⟨b,o,none⟩) (l.flatMap PkA.row)) (hi : i < l.length) {q : Nat} (hq : q = o + i * 40) : ∀ (j : Nat) (v : Value),l[i].row[j]? = some v → w.cell? ((⟨b,q,none⟩ : Addr).add j) = some v := fun j v hj=>by
 rw [addr_add]
 exact pk_cell h hi j hj (by omega)
theorem ev_agg {w : World} {b o i : Nat} {l : List EvA} (h : Rd w (some ⟨b,o,none⟩) (l.flatMap EvA.row)) (hi : i < l.length) (k m : Nat) {q : Nat} (hq : q = o + i * 26 + k) : ∀ (j : Nat) (v : Value),((l[i].row.drop k).take m)[j]? = some v → w.cell? ((⟨b,q,none⟩ : Addr).add j) = some v := fun j v hj=>by
 rw [addr_add]
 exact ev_cell h hi (k + j) (dt_get hj) (by omega)
theorem PkA.pkh {R : List Asrt} {x : PkA} {w : World} (hm : x.body ∈ R) (hw : x.body.holds w) (hb : Byt x.p.d.msg.body) (h1 : x.p.d.msg.body.length ≤ 140737488351232) (h2 : x.p.t.ask.length ≤ 17592186043904) (h3 : x.p.c.ents.length ≤ 2932031007317) : PkH R x.p x.ad :=
 ⟨⟨_,hm,fun w h=>ownsRow_rd h.1,fun k hk=>.inl (St.osl_foot hk)⟩,⟨_,hm,fun w h=>ownsRow_rd h.2.1.1⟩,⟨_,hm,fun w h=>ownsRow_rd h.2.1.2.1⟩,osl_nz hw.1,osl_nz hw.2.1.1,osl_nz hw.2.1.2.1,hb,h1,h2,h3⟩
theorem pS_form {w0 w : World} {F : Nat → Prop} {L : List Asrt} {x : OutA} (h : St w0 F (outO x L) w) (hne : x.pk ≠ []) : ∃ bp op,x.pa = some ⟨bp,op,none⟩ := by
 have hr := h.rd_of_own (a := x.pa) (n := x.pk.length) (c := x.pc) (E := 63) (sz := 40) (xs := x.pk.flatMap PkA.row) (mH _ _)
 obtain ⟨y,r,hy⟩ := List.exists_cons_of_ne_nil hne
 exact hr.form (by rw [hy];simp [PkA.row,Pkt.cells])
theorem eS_form {w0 w : World} {F : Nat → Prop} {L : List Asrt} {x : OutA} (h : St w0 F (outO x L) w) (hne : x.ev ≠ []) : ∃ bp op,x.ea = some ⟨bp,op,none⟩ := by
 have hr := h.rd_of_own (a := x.ea) (n := x.ev.length) (c := x.ec) (E := 76) (sz := 26) (xs := x.ev.flatMap EvA.row) (mT _ (mT _ (mH _ _)))
 obtain ⟨y,r,hy⟩ := List.exists_cons_of_ne_nil hne
 exact hr.form (by rw [hy];simp [EvA.row])
structure Awk where
 i : Nat
 Z : RA
 x : OutA
theorem tkR_zero : tkR 0 = ((newRg 3 7).1,noOut,0) := rfl
theorem tkR_succ (i : Nat) : tkR (i + 1) = (tkR i).1.tick := rfl
theorem tick_err (S : Rg) : S.tick.2.2 = 0 := rfl
theorem p1R_eq : ((tkR 20).2.1.p).getD 1 zeroPkt = p1R := rfl
attribute [local irreducible] tkR p1R Rg.tick Rg.take newRg
set_option maxHeartbeats 8000000 in
theorem r7 (w : World) (ht : Rd w (some ⟨1,0,none⟩) (bv tab64)) : CallsTo Tryz.prog 7 [] w fun v w'=>v = .bool true ∧ Grew w w' := by
 refine go_in (n := 138) (St.rd1 ht) Tryz.func7 rfl rfl ?_
 repeat'(first|refine gz ?_)
 apply LR.call
 ·exact rfl
 intro w1 h1
 refine CallsTo.mono (r14c 3 7 [] w1 h1 (by decide)) ?_
 rintro v w2 ⟨x0,b,Z0,rfl,hx0,hZ0,hw2⟩
 rw [new37] at hx0
 obtain ⟨xc,pa,pc,pk,ea,ec,ev⟩ := x0
 unfold OutA.o at hx0
 simp only [OutV.mk.injEq] at hx0
 obtain ⟨rfl,hpk,hev⟩ := hx0
 obtain ⟨pk0,rfl,hp0⟩ := map_one hpk
 obtain ⟨ev0,rfl,he0⟩ := map_one hev
 obtain ⟨pp,ad0⟩ := pk0
 dsimp only at hp0
 subst hp0
 obtain ⟨ek,ecf,ex⟩ := ev0
 unfold EvA.e cfgE at he0
 simp only [EvD.mk.injEq] at he0
 obtain ⟨rfl,rfl,hexd⟩ := he0
 have hrp := hw2.rd_of_own (a := pa) (n := 1) (c := pc) (E := 63) (sz := 40) (xs := ([⟨joinP ⟨3,8,8⟩,ad0⟩] : List PkA).flatMap PkA.row) (mH _ _)
 have hre := hw2.rd_of_own (a := ea) (n := 1) (c := ec) (E := 76) (sz := 26) (xs := ([⟨1,plainCfg 8 3 8 0,ex⟩] : List EvA).flatMap EvA.row) (mT _ (mT _ (mH _ _)))
 obtain ⟨bp,op,rfl⟩ := hrp.form (by simp [PkA.row,Pkt.cells])
 obtain ⟨be,oe,rfl⟩ := hre.form (by simp [EvA.row])
 clear hrp hre hpk hev
 have e : OutA.val ⟨8,some ⟨bp,op,none⟩,pc,[⟨joinP ⟨3,8,8⟩,ad0⟩],some ⟨be,oe,none⟩,ec,[⟨1,plainCfg 8 3 8 0,ex⟩]⟩ = .agg [.int .i64 8,.slice (some ⟨bp,op,none⟩) 1 pc,.slice (some ⟨be,oe,none⟩) 1 ec].toArray := rfl
 rw [e]
 clear e
 refine LR.back (C := St w NoF (pS (some ⟨bp,op,none⟩) pc [⟨joinP ⟨3,8,8⟩,ad0⟩] :: bunP [⟨joinP ⟨3,8,8⟩,ad0⟩] :: eS (some ⟨be,oe,none⟩) ec [⟨1,plainCfg 8 3 8 0,ex⟩] :: bunE [⟨1,plainCfg 8 3 8 0,ex⟩] :: rgL b Z0 (newRg 3 7).1 [])) hw2 ?_
 clear hw2 h1
 repeat'(first|(refine kA' fun b4=>?_)|refine gz ?_|(apply LR.ev;(·first | (apply Ev.indexAddr;(·exact rfl);(·exact rfl);(·decide);(·decide)) | (apply Ev.load_agg_at (cs := [.int .i64 3,.int .i64 8,.int .i64 8]);(·exact rfl);(·exact rfl);(·intro w' hw';exact pk_agg (i := 0) (l := [⟨joinP ⟨3,8,8⟩,ad0⟩]) (hw'.rd_of_own (n := 1) memZ) (by simp) 29 3 (by simp))) | (apply Ev.load_agg_at (cs := (plainCfg 8 3 8 0).cells);(·exact rfl);(·exact rfl);(·intro w' hw';exact ev_agg (i := 0) (l := [⟨1,plainCfg 8 3 8 0,ex⟩]) (hw'.rd_of_own (n := 1) memZ) (by simp) 1 7 (by simp))) | (apply Ev.cfg_same (c := plainCfg 8 3 8 0);(·exact rfl);(·exact rfl)));(·exact rfl))|fail)
 apply CW.loop [0,5,6,7,57,58,59,60,61,62,63,64,65,66,67,68] (fun s : Awk=>s.i ≤ 20 ∧ RepA s.Z (tkR s.i).1 ∧ s.x.o = (tkR s.i).2.1 ∧ (s.x.pk ≠ [] → ∃ bp op,s.x.pa = some ⟨bp,op,none⟩)) (fun s=>[(5,.int .i64 (s.i : Int))])
  (fun s=>St w NoF (outO s.x (rgL b s.Z (tkR s.i).1 [.own b4 (.cells s.x.cells.toArray 40 (0,0))]))) (fun s=>20 - s.i)
 ·intro w' hw'
  refine ⟨⟨0,Z0,outN⟩,⟨Nat.zero_le _,by rw [tkR_zero];exact hZ0,by rw [tkR_zero];rfl,fun h=>absurd rfl h⟩,⟨rfl,trivial⟩,?_⟩
  rw [tkR_zero]
  have h2 : St w NoF (_ :: rgL b Z0 (newRg 3 7).1 []) w' := hw'.sub (L' := _ :: rgL b Z0 (newRg 3 7).1 []) subN
  exact outN_in (rg_mid [_] h2)
 clear hZ0
 rintro ⟨i,Z,x⟩ g ⟨hi,hZ,hx,hpa⟩
 simp only at hi hZ hx hpa ⊢
 obtain ⟨E,kk,ll,hI⟩ := tkR_inv i (by omega)
 by_cases hlt : i < 20
 ·repeat'(first|refine gz ?_|(refine gs ?_ ?_;all_goals(intro hc;try simp only[hcs]at hc;try exact abz)))
  apply LR.call
  ·exact rfl
  intro w1 h1
  refine CallsTo.mono (r17 b (tkR i).1 w1 ⟨Z,hZ,St.sub (L' := rgL b Z (tkR i).1 [.own b4 (.cells x.cells.toArray 40 (0,0))]) h1 subN⟩ hI (by omega)) ?_
  rintro v w2 ⟨x2,rfl,hx2,Z2,hZ2,hw2⟩
  rw [tick_err]
  have hpa2 := pS_form hw2
  rw [← tkR_succ] at hx2 hZ2 hw2
  refine LR.back (C := St w NoF (outO x2 (rgL b Z2 (tkR (i + 1)).1 [.own b4 (.cells x.cells.toArray 40 (0,0))]))) hw2 ?_
  clear hw2 h1
  repeat'(first|refine gz ?_|refine gy fun _=>?_|(apply addX;(iterate 2 exact rfl);(iterate 2(first|omega));exact rfl))
  refine At.again (⟨i + 1,Z2,x2⟩ : Awk) ⟨by show i + 1 ≤ 20;omega,hZ2,hx2,hpa2⟩ ?_ ⟨rfl,trivial⟩ (fun w' hw'=>hw'.sub subN) (by show 20 - (i + 1) < 20 - i;omega)
  exact outZ
 have hie : i = 20 := by omega
 subst hie
 obtain ⟨xc,pa,pc,pk,ea,ec,ev⟩ := x
 have hp20 : pk.map PkA.p = (tkR 20).2.1.p := congrArg OutV.p hx
 have hc20 : xc = 9 := (congrArg OutV.c hx).trans tk20.1
 have hlen : pk.length = 2 := by rw [← List.length_map (f := PkA.p),hp20];exact tk20.2.1
 have hz1 : (pk.map PkA.p).getD 1 zeroPkt = p1R := by rw [hp20];exact p1R_eq
 obtain ⟨y,z,rfl⟩ := len_two hlen
 have hz : z.p = p1R := hz1
 subst hc20
 have t1 := tk20.2.2.1
 have t2 := tk20.2.2.2
 have t3 := tk21
 have t4 := tk22
 have t5 := p1_pkt
 have hchk : PktI p1R := by
  unfold PktI
  rw [t5.2.2.2.1,t5.2.2.2.2]
  decide
 rw [← hz] at t1 t3 t4 t5 hchk
 clear hx hp20 hlen hz1 hz
 generalize (tkR 20).1 = S at *
 clear hi hlt
 obtain ⟨bp,op,hpe⟩ := hpa (by simp)
 dsimp only at hpe
 subst hpe
 clear hpa
 have e1 : (⟨9,some ⟨bp,op,none⟩,pc,[y,z],ea,ec,ev⟩ : OutA).cells = [.int .i64 9,.slice (some ⟨bp,op,none⟩) 2 pc,.slice ea ev.length ec] := rfl
 rw [e1]
 clear e1
 have hzrow : z.row = z.p.cells z.ad := rfl
 repeat'(first|refine gz ?_|(apply LR.ev;(·first | (apply Ev.indexAddr;(·exact rfl);(·exact rfl);(·decide);(·decide)) | (apply Ev.load (v := .int .i64 z.p.t.hop);(·exact rfl);(·exact fun w' hw'=>pk_cell (i := 1) (l := [y,z]) (hw'.rd_of_own (n := 2) memZ) (by simp) 22 rfl (by simp))) |fail);(·exact rfl))|(apply kq;(·exact rfl);(·intro w1 h1;exact CallsTo.mono (r24 b Z S w1 (rg_mid [_,_,_,_] h1)) (fun v w' h=>⟨h.1,front (front (front (front h.2 17 rfl rfl) 17 rfl rfl) 17 rfl rfl) 17 rfl rfl⟩)))|(refine gs ?_ ?_;all_goals(intro hc;try simp only[hcs]at hc;try exact abz)))
 apply LR.ev
 ·apply Ev.load_agg_at (cs := z.row)
  ·exact rfl
  ·exact rfl
  ·intro w' hw'
   exact pk_full (i := 1) (l := [y,z]) (hw'.rd_of_own (n := 2) memZ) (by simp) (by simp)
 ·exact rfl
 apply LR.call
 ·exact rfl
 intro w1 h1
 have j1 := St.bun_head PkA.dep (front h1 1 rfl rfl)
 have j2 := St.bun_head PkA.dep (front j1 1 rfl rfl)
 have j3 : St w NoF (z.body :: rgL b Z S _) w1 := j2.sub (L' := z.body :: rgL b Z S [.own b4 (.cells #[.int .i64 9,.slice (some ⟨bp,op,none⟩) 2 pc,.slice ea ev.length ec] 40 (0,0))]) subN
 have hPH := PkA.pkh (R := [z.body,.own b4 (.cells #[.int .i64 9,.slice (some ⟨bp,op,none⟩) 2 pc,.slice ea ev.length ec] 40 (0,0))]) (x := z) (mH _ _) (j3.holds z.body (mH _ _)) (by rw [t5.1];exact fun _ h=>by cases h) (by rw [t5.1];exact Nat.zero_le _) (by rw [t5.2.1];exact Nat.zero_le _) (by rw [t5.2.2.1];exact Nat.zero_le _)
 refine CallsTo.mono (show CallsTo Tryz.prog 16 [.pointer (some ⟨b,0,none⟩),z.p.val z.ad] w1 _ from r16 b S z.p z.ad w1 ⟨Z,hZ,rg_mid [_] j3⟩ hI (by omega) (by omega) hchk hPH) ?_
 rintro v w2 ⟨x2,rfl,hx2,Z2,hZ2,hw2⟩
 rw [t3.1]
 have he2 := eS_form hw2
 obtain ⟨xc2,pa2,pc2,pk2,ea2,ec2,ev2⟩ := x2
 have hev2 : ev2.map EvA.e = (S.take z.p).2.1.e := congrArg OutV.e hx2
 have hpk2 : pk2.map PkA.p = (S.take z.p).2.1.p := congrArg OutV.p hx2
 have hpl2 : pk2.length = 2 := by rw [← List.length_map (f := PkA.p),hpk2];exact t3.2.2.1
 rw [t4] at hev2
 obtain ⟨e1,e2,rfl,he1,he3⟩ := map_two hev2
 obtain ⟨k1,c1,y1⟩ := e1
 obtain ⟨k2,c2,y2⟩ := e2
 unfold EvA.e cfgE at he1 he3
 simp only [EvD.mk.injEq] at he1 he3
 obtain ⟨rfl,rfl,_⟩ := he1
 obtain ⟨rfl,rfl,_⟩ := he3
 obtain ⟨be2,oe2,hpe2⟩ := he2 (by simp)
 dsimp only at hpe2
 subst hpe2
 have hs3 := t3.2.2.2
 generalize (S.take z.p).1 = S3 at *
 have e2 : OutA.val ⟨xc2,pa2,pc2,pk2,some ⟨be2,oe2,none⟩,ec2,[⟨1,⟨9,3,8,3,8,true,0⟩,y1⟩,⟨1,plainCfg 9 3 8 1,y2⟩]⟩ = .agg [.int .i64 xc2,.slice pa2 pk2.length pc2,.slice (some ⟨be2,oe2,none⟩) 2 ec2].toArray := rfl
 rw [e2,hpl2]
 refine LR.back (C := St w NoF (pS pa2 pc2 pk2 :: bunP pk2 :: eS (some ⟨be2,oe2,none⟩) ec2 [⟨1,⟨9,3,8,3,8,true,0⟩,y1⟩,⟨1,plainCfg 9 3 8 1,y2⟩] :: bunE [⟨1,⟨9,3,8,3,8,true,0⟩,y1⟩,⟨1,plainCfg 9 3 8 1,y2⟩] :: rgL b Z2 S3 _)) hw2 ?_
 clear hw2 h1 j1 j2 j3 hPH
 repeat'(first|refine gz ?_|refine gy fun _=>?_|(apply LR.ev;(·first | (apply Ev.indexAddr;(·exact rfl);(·exact rfl);(·decide);(·decide)) | (apply Ev.load (v := .bool true);(·exact rfl);(·exact fun w' hw'=>ev_cell (i := 0) (l := [⟨1,⟨9,3,8,3,8,true,0⟩,y1⟩,⟨1,plainCfg 9 3 8 1,y2⟩]) (hw'.rd_of_own (n := 2) memZ) (by simp) 6 rfl (by simp));done) | (apply Ev.load_agg_at (cs := (plainCfg 9 3 8 1).cells);(·exact rfl);(·exact rfl);(·intro w' hw';exact ev_agg (i := 1) (l := [⟨1,⟨9,3,8,3,8,true,0⟩,y1⟩,⟨1,plainCfg 9 3 8 1,y2⟩]) (hw'.rd_of_own (n := 2) memZ) (by simp) 1 7 (by simp))) | (apply Ev.cfg_eq (c := plainCfg 9 3 8 1);(·exact rfl);(·exact rfl)));(·exact rfl))|(apply kq;(·exact rfl);(·intro w1 h1;exact CallsTo.mono (r24 b Z2 S3 w1 (rg_mid [_,_,_,_,_] h1)) (fun v w' h=>⟨h.1,front (front (front (front (front h.2 18 rfl rfl) 18 rfl rfl) 18 rfl rfl) 18 rfl rfl) 18 rfl rfl⟩)))|(refine gs ?_ ?_;all_goals(intro hc;try simp only[hcs]at hc;try exact abz)))
 (apply ret1;(·exact rfl);intro w' hS)
 exact ⟨congrArg Value.bool (decide_eq_true rfl),hS.toKeep⟩
end Go.Proofs.YtohbcfokihplbaaGreatDoor
namespace Go.Proofs.YtohbcfokihplbaaGreatDoor
open Go.Hb
set_option maxRecDepth 100000
structure Goes (node : Int) (E : List EvD) (kept : Int) (n : Nat) (S : Rg) (r : Rg × OutV × Int) : Prop where
 inv : Inv node (E ++ r.2.1.e) r.1.counter r.1.clock (n + 16) 0 r.1
 oc : r.1.oc = 0
 kc : (r.2.1.c = 0 ∧ r.1.counter = kept) ∨ (¬ r.2.1.c = 0 ∧ r.2.1.c = r.1.counter ∧ kept < r.1.counter)
 told : ∀ e ∈ r.2.1.e,ToldOk r.1.counter r.1.clock e
 clk : S.clock ≤ r.1.clock
 len : r.2.1.e.length ≤ 400000
section
variable {node : Int} {E : List EvD} {kept lo : Int} {n o : Nat} {S : Rg}
theorem Inv.selfL (h : Inv node E kept lo n o S) : Inv node E kept S.clock n o S :=
 { h with c := { h.c with lw := Int.le_refl _ } }
theorem goes_of {T : Rg} {e : Int} (h : Inv node E kept S.clock n o T) (ho : o ≤ 400000) : Goes node E kept n S (T.flush,T.out,e) := by
 refine ⟨h.flush.up (by omega) (Nat.le_refl _),rfl,?_,h.c.told,h.c.lw,Nat.le_trans h.oe ho⟩
 have hk := h.c.kp
 rcases h.c.ke with h1 | h1
 ·exact .inl h1
 ·exact .inr ⟨by show ¬ T.oc = 0;omega,h1⟩
theorem goes_no {e : Int} (h : Inv node E kept lo n 0 S) (hc : S.oc = 0) : Goes node E kept n S (S,noOut,e) := by
 have hk := h.c.kp
 have hkc : S.counter = kept := by rcases h.c.ke with h1 | h1 <;> omega
 have h2 := h.selfL
 refine ⟨?_,hc,.inl ⟨rfl,hkc⟩,fun _ h=>(by cases h),Int.le_refl _,Nat.zero_le _⟩
 show Inv node (E ++ []) S.counter S.clock (n + 16) 0 S
 rw [List.append_nil,hkc]
 exact h2.up (by omega) (Nat.le_refl _)
theorem goes_of16 {T : Rg} {e : Int} {m : Nat} (h : Inv node E kept S.clock m o T) (hm : m ≤ n + 16) (ho : o ≤ 400000) : Goes node E kept n S (T.flush,T.out,e) := by
 have hg := goes_of (S := S) (e := e) h ho
 exact ⟨(h.flush).up hm (Nat.le_refl _),rfl,hg.kc,hg.told,hg.clk,hg.len⟩
theorem goes_take (h : Inv node E kept lo n 0 S) (hc : S.oc = 0) (hn : n ≤ 29000) {p : Pkt} (hb : Byt p.d.msg.body) : Goes node E kept n S (S.take p) := by
 unfold Rg.take
 split
 ·exact goes_no h hc
 split
 ·exact goes_no h hc
 ·rename_i h1 h2
  have hp : chkP p = true := by
   cases hx : chkP p with
   | true=>rfl
   | false=>rw [hx] at h1;exact absurd rfl h1
  exact goes_of16 (h.selfL.take0 hp hb) (by omega) (by omega)
theorem goes_tick (h : Inv node E kept lo n 0 S) (hn : n + 16 ≤ 29000) : Goes node E kept n S S.tick := by
 unfold Rg.tick
 exact goes_of16 (h.selfL.tick1 hn) (Nat.le_refl _) (by omega)
theorem goes_fire (h : Inv node E kept lo n 0 S) (hc : S.oc = 0) (hn : n ≤ 29000) (k : Int) : Goes node E kept n S (S.fire k) := by
 unfold Rg.fire
 split
 ·exact goes_no h hc
 split
 ·exact goes_no h hc
 ·exact goes_of16 (h.selfL.fire1 k) (by omega) (by omega)
theorem sendM_keeps (l : List Msg) : (S.sendM l).1.oc = S.oc ∧ (S.sendM l).1.clock = S.clock := by
 unfold Rg.sendM
 dsimp only
 split <;> exact ⟨rfl,rfl⟩
theorem goes_send (h : Inv node E kept lo n 0 S) (hc : S.oc = 0) {l : List Msg} (hb : ∀ m ∈ l,Byt m.body) : Goes node E kept n S ((S.sendM l).1,noOut,0) := by
 have h2 := h.sendM hb
 have h3 := sendM_keeps (S := S) l
 have hg := goes_no (e := 0) h2 (h3.1.trans hc)
 exact ⟨hg.inv,hg.oc,hg.kc,hg.told,by rw [h3.2];exact Int.le_refl _,hg.len⟩
end
end Go.Proofs.YtohbcfokihplbaaGreatDoor
