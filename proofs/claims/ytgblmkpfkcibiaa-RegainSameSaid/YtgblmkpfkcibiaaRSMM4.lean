/-
  Nodes of one configuration that send again what they have have the same in the end. Conditions: none.
-/
import Derived.Test.YtgblmkpfkcibiaaRSMM3

set_option linter.unusedSimpArgs false
set_option linter.unusedVariables false
namespace Go.Proofs.Ytgblmkpfkcibiaa
open Go.Hb
theorem CW_fact {P : Program} {n : Nat} {c : Code} {Q : Post} {f : Frm} {C : World → Prop} {φ : Prop} (h : ∀ w, C w → φ) (k : φ → CW P n c Q f C) : CW P n c Q f C := fun w hw => k (h w hw) w hw
attribute [local irreducible] LR CW At Ev thn blk finK noG again CallsTo DW QL dnext TW DP
set_option linter.unusedSimpArgs false
set_option linter.unusedVariables false
set_option maxRecDepth 100000

structure WnG where
  bw : Nat
  bm : Nat
  es : List DaA
  ar : Int
  hi : Int
def WnG.asr (x : WnG) : Asrt := wO x.bw x.bm x.es x.ar x.hi
theorem WnG.dep (x : WnG) : x.asr.dep := wO_dep _ _ _ _ _
theorem WnG.ex (x : WnG) : x.asr.excl = true := rfl
def WnG.ptr (x : WnG) : Value := .pointer (some ⟨x.bw, 0, none⟩)
def WnG.D (x : WnG) : List Dat := dats x.es
abbrev bunW : List WnG → Asrt := bun WnG.asr
abbrev pS (a : Option Addr) (c : Nat) (l : List WnG) : Asrt := osl (.slice a l.length c) 58 1 l.length (l.map WnG.ptr)
def uv (l : List (BitVec 64)) : List Value := l.map fun x => .int .u64 (U64 x)
/-- What a node has, by bits. -/
def btOf (bs : List (BitVec 64)) (lo j : Nat) : BitVec 64 := if h : j < bs.length then lowB lo ||| (bs[j] &&& mask40) else lowB lo
def allB (bs : List (BitVec 64)) (lo : Nat) : Nat → BitVec 64
  | 0 => 0#64
  | k + 1 => allB bs lo k ||| btOf bs lo k
def P2 (lo : Nat) : Int := IntKind.wrap .u64 (1 * 2 ^ (min ((lo : Int).toNat) 64))
theorem P2_low : ∀ j : Nat, j < 20 → IntKind.wrap .u64 (P2 j - 1) = U64 (lowB j) := by decide +kernel
section
variable {P : Program} {C : World → Prop} {f : Frm} {T T' T'' : TypeId} {x y : Operand}
theorem Ev.shlP {q : IntKind} {lo : Nat} (hx : f.ev x = .int .u64 1) (hy : f.ev y = .int q (lo : Int)) : Ev P C f (.binOp .shl T' x y T'') T (.int .u64 (P2 lo)) := Ev.shl hx hy (by omega)
theorem Ev.subP {lo : Nat} (hl : lo < 20) (hx : f.ev x = .int .u64 (P2 lo)) (hy : f.ev y = .int .u64 1) : Ev P C f (.binOp .sub T' x y T'') T (.int .u64 (U64 (lowB lo))) := by
  rw [← P2_low lo hl]
  exact Ev.subW hx hy
end
theorem uv_at {bs : List (BitVec 64)} {q i : Nat} (hq : q = i) (h : i < bs.length) : (uv bs)[q]? = some (.int .u64 (U64 bs[i])) := by subst hq; unfold uv; simp [h]
theorem uv_ne {bs : List (BitVec 64)} {i : Nat} (h : i < bs.length) : uv bs ≠ [] := fun e => by
  have := congrArg List.length e
  simp [uv] at this
  subst this
  simp at h
/-- What all send, up to a node. -/
def sentL (bs : List (BitVec 64)) (lo i : Nat) : List Msg := (List.range i).flatMap fun j => (abvT (bitsD (btOf bs lo j)) (lo : Int)).map oldM
theorem sentL_succ (bs : List (BitVec 64)) (lo i : Nat) : sentL bs lo (i + 1) = sentL bs lo i ++ (abvT (bitsD (btOf bs lo i)) (lo : Int)).map oldM := by
  unfold sentL
  rw [List.range_succ, List.flatMap_append]
  simp
theorem abv_lenB (b : BitVec 64) (q : Int) : (abvT (bitsD b) q).length ≤ 40 := by
  refine Nat.le_trans (abvS_len _ _ _) ?_
  rw [sqs_len]
  exact bits_len b 40
theorem sentL_len (bs : List (BitVec 64)) (lo : Nat) : ∀ i, (sentL bs lo i).length ≤ 40 * i
  | 0 => by simp [sentL]
  | i + 1 => by
    rw [sentL_succ, List.length_append, List.length_map]
    have h1 := sentL_len bs lo i
    have h2 := abv_lenB (btOf bs lo i) (lo : Int)
    omega
abbrev rS (a : Option Addr) (c : Nat) (l : List MsA) : Asrt := osl (.slice a l.length c) 66 13 l.length (l.flatMap MsA.row)
theorem ptr_at {ws : List WnG} {q i : Nat} (hq : q = i) (h : i < ws.length) : (ws.map WnG.ptr)[q]? = some (.pointer (some ⟨(ws[i]).bw, 0, none⟩)) := by subst hq; simp [h, WnG.ptr]
theorem ptr_ne {ws : List WnG} {i : Nat} (h : i < ws.length) : ws.map WnG.ptr ≠ [] := fun e => by
  have := congrArg List.length e
  simp at this
  subst this
  simp at h
theorem mem_abvB {b : BitVec 64} {q : Int} {d : Dat} (h : d ∈ abvT (bitsD b) q) : IsOne d ∧ q < d.seq := by
  refine ⟨bits_one (abv_mem h), ?_⟩
  have h1 : d.seq ∈ (abvT (bitsD b) q).map Dat.seq := List.mem_map_of_mem h
  rw [abv_seqG, List.mem_filter] at h1
  simpa using h1.2
theorem flat_setM (l : List MsA) (x : MsA) : ∀ (k : Nat), k < l.length → (l.set k x).flatMap MsA.row = (l.flatMap MsA.row).take (k * 13) ++ x.row ++ (l.flatMap MsA.row).drop (k * 13 + 13) := by
  induction l with
  | nil => intro k h; simp at h
  | cons y r ih =>
    intro k h
    have hy : y.row.length = 13 := rfl
    cases k with
    | zero =>
      simp only [List.set_cons_zero, List.flatMap_cons, Nat.zero_mul, List.take_zero, List.nil_append, Nat.zero_add]
      rw [show 13 = y.row.length from rfl, List.drop_left]
    | succ k =>
      simp only [List.set_cons_succ, List.flatMap_cons]
      have e1 : (y.row ++ r.flatMap MsA.row).take ((k + 1) * 13) = y.row ++ (r.flatMap MsA.row).take (k * 13) := by
        rw [List.take_append, List.take_of_length_le (l := y.row) (by rw [hy]; omega), hy, show (k + 1) * 13 - 13 = k * 13 by omega]
      have e2 : (y.row ++ r.flatMap MsA.row).drop ((k + 1) * 13 + 13) = (r.flatMap MsA.row).drop (k * 13 + 13) := by
        rw [List.drop_append, List.drop_of_length_le (l := y.row) (by rw [hy]; omega), hy, show (k + 1) * 13 + 13 - 13 = k * 13 + 13 by omega, List.nil_append]
      rw [ih k (by simpa using h), e1, e2]
      simp
theorem splice_row (l : List MsA) (x : MsA) {k : Nat} (h : k < l.length) : splice (l.flatMap MsA.row) (k * 13) x.row = (l.set k x).flatMap MsA.row := by
  have h13 : x.row.length = 13 := rfl
  unfold splice
  rw [flat_setM l x k h, h13]
theorem put_rowM {b o n c q : Nat} {l : List MsA} (x : MsA) {k : Nat} (hk : k < l.length) (hq : q = o + k * 13) :
    Stores Try.prog 66 ⟨b, q, none⟩ (.agg x.row.toArray) (osl (.slice (some ⟨b, o, none⟩) n c) 66 13 n (l.flatMap MsA.row)) (osl (.slice (some ⟨b, o, none⟩) n c) 66 13 n ((l.set k x).flatMap MsA.row)) := by
  subst hq
  have st := Stores.osl (P := Try.prog) (T := 66) (q := 13) (b := b) (o := o) (i := k * 13) (n := n) (c := c) (v := .agg x.row.toArray) (vs := x.row) (xs := l.flatMap MsA.row) (E := 66) (sz := 13) inferInstance rfl (by simp [MsA.row, Msg.cells, Value.oneCell']) rfl (by rw [Go.Hb.rows_len MsA.row_len]; show k * 13 + 13 ≤ l.length * 13; omega)
  rwa [splice_row l x hk] at st
theorem rows_one (l : List MsA) : (l.flatMap MsA.row).all Value.oneCell' = true := by
  induction l with
  | nil => rfl
  | cons x r ih =>
    rw [List.flatMap_cons, List.all_append, ih, Bool.and_true]
    simp [MsA.row, Msg.cells, Value.oneCell']
theorem has_take {D : List Dat} {d : Dat} (h : OkR d) (s : Int) : hasD (wpD D d) s = true ↔ hasD D s = true ∨ s = d.seq := by
  unfold wpD
  rw [wp_new h]
  cases hq : hasD D d.seq with
  | true =>
    rw [if_neg (by simp)]
    constructor
    · exact .inl
    · rintro (h1 | rfl)
      · exact h1
      · exact hq
  | false =>
    rw [if_pos (by simp), has_iff, has_iff]
    constructor
    · rintro ⟨x, hx, rfl⟩
      rcases List.mem_append.1 hx with hx | hx
      · exact .inl ⟨x, hx, rfl⟩
      · rw [List.mem_singleton] at hx; exact .inr (by rw [hx])
    · rintro (⟨x, hx, rfl⟩ | rfl)
      · exact ⟨x, List.mem_append_left _ hx, rfl⟩
      · exact ⟨d, List.mem_append_right _ List.mem_cons_self, rfl⟩
theorem mem_wpD {D : List Dat} {d x : Dat} (h : x ∈ wpD D d) : x ∈ D ∨ x = d := by
  unfold wpD at h
  split at h
  · rcases List.mem_append.1 h with h | h
    · exact .inl h
    · exact .inr (List.mem_singleton.1 h)
  · exact .inl h
theorem mem_sentL {bs : List (BitVec 64)} {lo i : Nat} {m : Msg} : m ∈ sentL bs lo i ↔ ∃ j d, j < i ∧ d ∈ abvT (bitsD (btOf bs lo j)) (lo : Int) ∧ m = oldM d := by
  unfold sentL
  rw [List.mem_flatMap]
  constructor
  · rintro ⟨j, hj, hm⟩
    obtain ⟨d, hd, rfl⟩ := List.mem_map.1 hm
    exact ⟨j, d, List.mem_range.1 hj, hd, rfl⟩
  · rintro ⟨j, d, hj, hd, rfl⟩
    exact ⟨j, List.mem_range.2 hj, List.mem_map_of_mem hd⟩
theorem allB_bit (bs : List (BitVec 64)) (lo k : Nat) : ∀ n, (allB bs lo n).getLsbD k = true ↔ ∃ j, j < n ∧ (btOf bs lo j).getLsbD k = true
  | 0 => by simp [allB]
  | n + 1 => by
    rw [allB, BitVec.getLsbD_or, Bool.or_eq_true, allB_bit bs lo k n]
    constructor
    · rintro (⟨j, hj, h⟩ | h)
      · exact ⟨j, by omega, h⟩
      · exact ⟨n, by omega, h⟩
    · rintro ⟨j, hj, h⟩
      by_cases e : j = n
      · subst e; exact .inr h
      · exact .inl ⟨j, by omega, h⟩
theorem bt_low {bs : List (BitVec 64)} {lo j k : Nat} (h : lo < 20) (hk : k < lo) : (btOf bs lo j).getLsbD k = true := by
  have h1 := lowB_bit lo h k (by omega)
  unfold btOf
  split
  · rw [BitVec.getLsbD_or, h1, decide_eq_true hk, Bool.true_or]
  · rw [h1, decide_eq_true hk]
/-- In the end a window has all that any had. -/
theorem same_end {D : List Dat} (hD : WOk D) {bs : List (BitVec 64)} {lo r j : Nat} {tB : BitVec 64} (hlo : lo < 20) (hj : j < r) (ht : tB = allB bs lo r) (hok : ∀ j', j' < r → WOk (bitsD (btOf bs lo j')))
    (ms : List Msg) (hms : ms = sentL bs lo r) (h : ∀ q, hasD D q = true ↔ hasD (bitsD (btOf bs lo j)) q = true ∨ ∃ m ∈ ms, m.kseq = q) : (abvT D 0).map Dat.seq = (bitsD tB).map Dat.seq := by
  refine asc_extG (by rw [abv_seqG]; exact (sqs_ascG hD).filter _) (bits_asc tB 40) fun v => ?_
  rw [abv_seqG, List.mem_filter, mem_sqs, decide_eq_true_eq, h v]
  have hR : v ∈ (bitsD tB).map Dat.seq ↔ ∃ k, k < 40 ∧ tB.getLsbD k = true ∧ v = (k : Int) + 1 := by
    rw [← has_bitsN, has_iff, List.mem_map]
  rw [hR, has_bitsN]
  constructor
  · rintro ⟨⟨k, h1, h2, h3⟩ | ⟨m, hm, e⟩, _⟩
    · exact ⟨k, h1, by rw [ht, allB_bit]; exact ⟨j, hj, h2⟩, h3⟩
    · rw [hms] at hm
      obtain ⟨j', d, hj', hd, rfl⟩ := mem_sentL.1 hm
      obtain ⟨k, h1, h2, h3⟩ := mem_bitsN.1 (abv_mem hd)
      exact ⟨k, h1, by rw [ht, allB_bit]; exact ⟨j', hj', h2⟩, by rw [← e, h3]; rfl⟩
  · rintro ⟨k, h1, h2, rfl⟩
    refine ⟨?_, by omega⟩
    by_cases hk : k < lo
    · exact .inl ⟨k, h1, bt_low hlo hk, rfl⟩
    · rw [ht, allB_bit] at h2
      obtain ⟨j', hj', hb⟩ := h2
      refine .inr ⟨oldM (oneR 2 1 ((k : Int) + 1)), ?_, rfl⟩
      rw [hms]
      refine mem_sentL.2 ⟨j', _, hj', (mem_abv (hok j' hj')).2 ⟨mem_bitsN.2 ⟨k, h1, hb, rfl⟩, ?_⟩, rfl⟩
      show (lo : Int) < (k : Int) + 1
      omega
structure S5 where
  k : Nat
  l : List MsA
  es : List DaA
  ar : Int
  hi : Int
structure S4 where
  i : Nat
  ws : List WnG
structure S3 where
  L : List MsA
  ag : Option Addr
  cg : Nat
  ms : List MsA
  a : Option Addr
  c : Nat
structure S2 where
  k : Nat
  ms : List MsA
  a : Option Addr
  c : Nat
structure S1 where
  ws : List WnG
  a : Option Addr
  c : Nat
def GoodW (x : WnG) : Prop := GWin x.D x.es x.ar
set_option maxHeartbeats 8000000 in
theorem g10 (ah : Option Addr) (ch : Nat) (bs : List (BitVec 64)) (low : Int) (at_ : Option Addr) (ct : Nat) (tu : List Int) (w : World) (hh : Rd w ah (uv bs)) (ht : Rd w at_ (iv tu)) (hbl : bs.length ≤ 140737488351232) (htl : tu.length ≤ 140737488351232) :
    CallsTo Try.prog 10 [.slice ah bs.length ch, .int .i64 low, .slice at_ tu.length ct] w fun v w' => v = .bool true ∧ Grew w w' := by
  refine go_in (n := 263) (St.rd2 hh ht) Try.func10 rfl rfl ?_
  have k1 := bring_bd low 20 (by omega)
  repeat'(first|refine kv' ?_|apply jJ|refine jE' ?_|refine jp' ?_|(apply jc;kernel_rfl)|refine kg' ?_|refine kG' ?_|refine kB' fun _=>?_|refine kA' fun _=>?_|refine kK' fun _=>?_|refine kU' ?_|(apply kq; (· exact rfl); (· intro w1 h1; first | exact CallsTo.q (g35 w1) h1 | exact CallsTo.q (c31 _ _ w1 (by omega)) h1))|(apply LR.ev; (· first | (apply Ev.max2; (· exact rfl); (· exact rfl)) | (apply Ev.min2; (· exact rfl); (· exact rfl))); (· exact rfl))|((first|refine kR' ?_ ?_|refine kQ' ?_ ?_);all_goals(intro hc;try simp only[hcs]at hc;try(exfalso;first|contradiction|omega))))
  obtain ⟨n, hn, hn6⟩ : ∃ n : Nat, (if 6 < (if 2 > (bs.length : Int) then 2 else (bs.length : Int)) then (6 : Int) else (if 2 > (bs.length : Int) then 2 else (bs.length : Int))) = (n : Int) ∧ n ≤ 6 := ⟨min (max bs.length 2) 6, by split <;> split <;> omega, by omega⟩
  obtain ⟨lo, hlo, hlo20⟩ : ∃ lo : Nat, bring low 20 = (lo : Int) ∧ lo < 20 := ⟨(bring low 20).toNat, by omega, by omega⟩
  rw [hn, hlo]
  apply CW.loop [6, 8, 9, 10, 11, 12, 13, 14, 15, 42, 43, 44, 45, 46, 47, 48, 49, 50, 51, 52, 53, 54, 55, 56, 57, 58, 59, 60, 61, 62, 63, 64, 65, 66, 67, 68, 69, 70, 71, 72, 73, 74, 75, 76, 77, 78, 79, 80, 81, 82, 83, 84, 85, 86, 87] (fun s : S1 => s.ws.length ≤ n ∧ s.ws.map WnG.D = (List.range s.ws.length).map (fun j => bitsD (btOf bs lo j)) ∧ ∀ x ∈ s.ws, GoodW x) (fun s => [(8, .int .u64 (U64 (allB bs lo s.ws.length))), (9, .slice s.a s.ws.length s.c), (10, .int .i64 (s.ws.length : Int))])
    (fun s => St w NoF [pS s.a s.c s.ws, bunW s.ws, rdA ah (uv bs), rdA at_ (iv tu)]) (fun s => n - s.ws.length)
  · intro w' hw'
    refine ⟨⟨[], none, 0⟩, ⟨by simp, rfl, by simp⟩, ⟨rfl, rfl, rfl, trivial⟩, ?_⟩
    exact (hw'.bun_nil WnG.dep).nilsl 58 1
  rintro ⟨ws, a, c⟩ g1 ⟨hws, hwD, hwG⟩
  simp only at hws hwD hwG ⊢
  by_cases hlt : ws.length < n
  · obtain ⟨b, hb⟩ : ∃ b, b = btOf bs lo ws.length := ⟨_, rfl⟩
    rcases Nat.lt_or_ge ws.length bs.length with hi | hi
    focus
      obtain ⟨bg, og, rfl⟩ := hh.form (uv_ne hi)
      repeat'(first|refine kv' ?_|apply jJ|refine jE' ?_|refine jp' ?_|(apply jc;kernel_rfl)|refine kg' ?_|refine kG' ?_|refine kB' fun _=>?_|refine kA' fun _=>?_|refine kK' fun _=>?_|refine kU' ?_|(apply idxX;(iterate 2 exact rfl);(iterate 2(first|omega|(dsimp only;omega)));exact rfl)|(apply LR.ev; (· apply Ev.load_rd; (· exact rfl); (· repeat (first | exact mH _ _ | apply mT)); (· exact uv_at (i := ws.length) (by simp) hi)); (· exact rfl))|(apply LR.ev; (· first | (apply Ev.shlP; (· exact rfl); (· exact rfl)) | (apply Ev.subP hlo20; (· exact rfl); (· exact rfl))); (· exact rfl))|((first|refine kR' ?_ ?_|refine kQ' ?_ ?_);all_goals(intro hc;try simp only[hcs]at hc;try(exfalso;first|contradiction|omega))))
      have eb : orI .u64 (U64 (lowB lo)) (andI .u64 (U64 bs[ws.length]) 1099511627775) = U64 b := by
        rw [show (1099511627775 : Int) = U64 mask40 from rfl, and_U64, or_U64, hb]
        unfold btOf
        rw [dif_pos hi]
      rw [eb, or_U64]
      generalize (some (Addr.mk bg og none)) = ah at *
    rotate_left
    focus
      repeat'(first|refine kv' ?_|apply jJ|refine jE' ?_|refine jp' ?_|(apply jc;kernel_rfl)|refine kg' ?_|refine kG' ?_|refine kB' fun _=>?_|refine kA' fun _=>?_|refine kK' fun _=>?_|refine kU' ?_|(apply LR.ev; (· first | (apply Ev.shlP; (· exact rfl); (· exact rfl)) | (apply Ev.subP hlo20; (· exact rfl); (· exact rfl))); (· exact rfl))|((first|refine kR' ?_ ?_|refine kQ' ?_ ?_);all_goals(intro hc;try simp only[hcs]at hc;try(exfalso;first|contradiction|omega))))
      have eb : U64 (lowB lo) = U64 b := by
        rw [hb]
        unfold btOf
        rw [dif_neg (by omega)]
      rw [eb, or_U64]
    all_goals (
      apply LR.call
      · exact rfl
      intro w1 h1
      refine (t24 w1).mono ?_
      rintro v w2 ⟨bw, bm, rfl, hn2⟩
      refine LR.back (h1.got hn2 (wO_dep _ _ _ _ _)) ?_
      clear hn2 h1
      repeat'(first|refine kv' ?_|apply jJ|refine jE' ?_|refine jp' ?_|(apply jc;kernel_rfl)|refine kg' ?_|refine kG' ?_|refine kB' fun _=>?_|refine kA' fun _=>?_|refine kK' fun _=>?_|refine kU' ?_|((first|refine kR' ?_ ?_|refine kQ' ?_ ?_);all_goals(intro hc;try simp only[hcs]at hc;try(exfalso;first|contradiction|omega))))
      apply CW.loop [6, 13, 14, 15, 65, 66, 67, 68, 69, 70, 71, 72, 73, 74, 75, 76, 77, 78, 79, 80, 81, 82, 83] (fun s : Nat × List DaA × Int × Int => s.1 ≤ 40 ∧ GWin (bitsN b s.1) s.2.1 s.2.2.1) (fun s => [(13, .int .i64 (s.1 : Int))]) (fun s => St w NoF [wO bw bm s.2.1 s.2.2.1 s.2.2.2, pS a c ws, bunW ws, rdA ah (uv bs), rdA at_ (iv tu)]) (fun s => 40 - s.1)
      · intro w' hw'
        exact ⟨(0, [], 0, 0), ⟨by simp, GWin.nil⟩, ⟨rfl, trivial⟩, hw'⟩
      rintro ⟨k, es, ar, hi2⟩ g2 ⟨hk, hg⟩
      simp only at hk hg ⊢
      by_cases hk40 : k < 40
      · have hsn := bitsN_succ b k
        have ok := one_okN hk40
        cases hbit : b.getLsbD k with
        | true =>
          rw [hbit, if_pos rfl] at hsn
          repeat'(first|(apply LR.ev; (· first | exact Ev.shrU64 (X := b) (j := k) rfl rfl rfl (by omega) | exact Ev.lowU64 (X := b) (k := k) hbit rfl rfl); (· exact rfl))|refine kv' ?_|apply jJ|refine jE' ?_|refine jp' ?_|(apply jc;kernel_rfl)|refine kg' ?_|refine kG' ?_|refine kB' fun _=>?_|refine kA' fun _=>?_|refine kK' fun _=>?_|refine kU' ?_|(apply addX;(iterate 2 exact rfl);(iterate 2(first|omega|(dsimp only;omega)));exact rfl)|((first|refine kR' ?_ ?_|refine kQ' ?_ ?_);all_goals(intro hc;try simp only[hcs]at hc;try(exfalso;first|contradiction|omega))))
          apply LR.call
          · exact rfl
          intro w1 h1
          refine (g38 ((k : Int) + 1) (by omega) (by omega) w1).mono ?_
          rintro v w2 ⟨a1, c1, rfl, hn2⟩
          refine LR.back (h1.newSl hn2) ?_
          clear hn2 h1
          repeat'(first|refine kv' ?_|apply jJ|refine jE' ?_|refine jp' ?_|(apply jc;kernel_rfl)|refine kg' ?_|refine kG' ?_|refine kB' fun _=>?_|refine kA' fun _=>?_|refine kK' fun _=>?_|refine kU' ?_|((first|refine kR' ?_ ?_|refine kQ' ?_ ?_);all_goals(intro hc;try simp only[hcs]at hc;try(exfalso;first|contradiction|omega))))
          apply LR.call
          · exact rfl
          intro w1 h1
          have hz : a1 = none → c1 = 0 := body_nz (x := ⟨oneR 2 1 ((k : Int) + 1), a1, c1⟩) (h1.holds (osl (.slice a1 1 c1) 5 1 1 (bv (oneR 2 1 ((k : Int) + 1)).msg.body)) (by (repeat (first | exact mH _ _ | apply mT))))
          have hap := St.apart (x := osl (.slice a1 1 c1) 5 1 1 (bv (oneR 2 1 ((k : Int) + 1)).msg.body)) (y := wO bw bm es ar hi2) (h1.sub (L' := [osl (.slice a1 1 c1) 5 1 1 (bv (oneR 2 1 ((k : Int) + 1)).msg.body), wO bw bm es ar hi2]) (by (repeat (first | exact List.Sublist.refl _ | apply List.Sublist.cons_cons | apply List.Sublist.cons)))) (by (repeat (first | exact mH _ _ | apply mT))) rfl
          refine (show CallsTo Try.prog 37 [.pointer (some ⟨bw, 0, none⟩), (oneR 2 1 ((k : Int) + 1)).val a1 c1] w1 _ from g37 bw bm es ar hi2 (bitsN b k) (oneR 2 1 ((k : Int) + 1)) a1 c1 w1 (h1.holds _ (by (repeat (first | exact mH _ _ | apply mT)))) hg ok (h1.rd_of_own (n := 1) (E := 5) (sz := 1) (by (repeat (first | exact mH _ _ | apply mT)))) hz (fun k hk => hap k (St.osl_foot hk))).mono ?_
          rintro v w2 ⟨es2, ar2, rfl, hg2, hst⟩
          refine LR.back (h1.did (by (repeat (first | exact sH _ _ _ | apply sT))) rfl hst (wO_dep _ _ _ _ _)) ?_
          clear hst h1 hap hz
          have hno : hasD (bitsN b k) (oneR 2 1 ((k : Int) + 1)).seq = false := by
            cases h : hasD (bitsN b k) (oneR 2 1 ((k : Int) + 1)).seq with
            | false => rfl
            | true =>
              obtain ⟨k', hk', _, he⟩ := has_bitsN.1 h
              have he : (k : Int) + 1 = (k' : Int) + 1 := he
              omega
          rw [wpD_new ok hno, ← hsn] at hg2
          repeat'(first|refine kv' ?_|apply jJ|refine jE' ?_|refine jp' ?_|(apply jc;kernel_rfl)|refine kg' ?_|refine kG' ?_|refine kB' fun _=>?_|refine kA' fun _=>?_|refine kK' fun _=>?_|refine kU' ?_|(apply addX;(iterate 2 exact rfl);(iterate 2(first|omega|(dsimp only;omega)));exact rfl)|((first|refine kR' ?_ ?_|refine kQ' ?_ ?_);all_goals(intro hc;try simp only[hcs]at hc;try(exfalso;first|contradiction|omega))))
          refine At.again ((k + 1, es2, ar2, wpH (bitsN b k) hi2 (oneR 2 1 ((k : Int) + 1))) : Nat × List DaA × Int × Int) ⟨by simp only; omega, hg2⟩ ?_ ⟨rfl, trivial⟩ (fun w' hw' => hw'.sub (by (repeat (first | exact List.Sublist.refl _ | apply List.Sublist.cons_cons | apply List.Sublist.cons)))) (by simp only; omega)
          (repeat (first | exact Out.refl _ _ | exact Out.mix | (apply Out.upd; (· exact rfl)) | (apply Out.updL; (· exact rfl)) | (apply Out.mixs; (· exact rfl))))
        | false =>
          rw [hbit, if_neg (by simp), List.append_nil] at hsn
          repeat'(first|(apply LR.ev; (· first | exact Ev.shrU64 (X := b) (j := k) rfl rfl rfl (by omega) | exact Ev.lowU64 (X := b) (k := k) hbit rfl rfl); (· exact rfl))|refine kv' ?_|apply jJ|refine jE' ?_|refine jp' ?_|(apply jc;kernel_rfl)|refine kg' ?_|refine kG' ?_|refine kB' fun _=>?_|refine kA' fun _=>?_|refine kK' fun _=>?_|refine kU' ?_|(apply addX;(iterate 2 exact rfl);(iterate 2(first|omega|(dsimp only;omega)));exact rfl)|((first|refine kR' ?_ ?_|refine kQ' ?_ ?_);all_goals(intro hc;try simp only[hcs]at hc;try(exfalso;first|contradiction|omega))))
          refine At.again ((k + 1, es, ar, hi2) : Nat × List DaA × Int × Int) ⟨by simp only; omega, by rw [hsn]; exact hg⟩ ?_ ⟨rfl, trivial⟩ (fun w' hw' => hw'.sub (by (repeat (first | exact List.Sublist.refl _ | apply List.Sublist.cons_cons | apply List.Sublist.cons)))) (by simp only; omega)
          (repeat (first | exact Out.refl _ _ | exact Out.mix | (apply Out.upd; (· exact rfl)) | (apply Out.updL; (· exact rfl)) | (apply Out.mixs; (· exact rfl))))
      · obtain rfl : k = 40 := by omega
        repeat'(first|(apply Go.Hb.kK;(iterate 4 exact rfl);intro bs2)|refine kv' ?_|apply jJ|refine jE' ?_|refine jp' ?_|(apply jc;kernel_rfl)|refine kg' ?_|refine kG' ?_|refine kB' fun _=>?_|refine kA' fun _=>?_|refine kK' fun _=>?_|refine kU' ?_|(apply addX;(iterate 2 exact rfl);(iterate 2(first|omega|(dsimp only;omega)));exact rfl)|(apply LR.append (xs := ws.map WnG.ptr) (news := [Value.pointer (some ⟨bw, 0, none⟩)]) (m := 1); (· exact rfl); (· exact rfl); (· intro a' c'; (repeat (first | exact sH _ _ _ | apply sT))); (· exact fun w' hw' => hw'.rd_of_blk (mH _ _)); (· exact fun hx => by cases hx); (· exact rfl); (· exact rfl); (· omega); (· unfold maxLen; omega); (· exact rfl); (intro a3 c3))|((first|refine kR' ?_ ?_|refine kQ' ?_ ?_);all_goals(intro hc;try simp only[hcs]at hc;try(exfalso;first|contradiction|omega))))
        have hgd : GoodW ⟨bw, bm, es, ar, hi2⟩ := by
          show GWin (dats es) es ar
          rw [hg.e]; exact hg
        refine At.again (⟨ws ++ [⟨bw, bm, es, ar, hi2⟩], a3, c3⟩ : S1) ⟨by simp; omega, ?_, ?_⟩ ?_ ⟨?_, ?_, ?_, trivial⟩ ?_ (by simp; omega)
        · rw [List.map_append, hwD, List.length_append, List.length_cons, List.length_nil, Nat.zero_add, List.range_succ, List.map_append, List.map_cons, List.map_nil, List.map_cons, List.map_nil, ← hb]
          show _ ++ [dats es] = _
          rw [hg.e]
        · intro x hx
          rcases List.mem_append.1 hx with hx | hx
          · exact hwG x hx
          · rw [List.mem_singleton] at hx; rw [hx]; exact hgd
        · (repeat (first | exact Out.refl _ _ | exact Out.mix | (apply Out.upd; (· exact rfl)) | (apply Out.updL; (· exact rfl)) | (apply Out.mixs; (· exact rfl))))
        · simp only [List.length_append, List.length_cons, List.length_nil, Nat.zero_add, allB, ← hb]
          rfl
        · simp only [List.length_append, List.length_cons, List.length_nil, Nat.zero_add]
          rfl
        · simp only [List.length_append, List.length_cons, List.length_nil, Nat.zero_add]
          rfl
        · intro w' hw'
          obtain ⟨x, hx⟩ : ∃ x : WnG, x = ⟨bw, bm, es, ar, hi2⟩ := ⟨_, rfl⟩
          have h1 : St w NoF [x.asr, osl (.slice a3 (ws.length + 1) c3) 58 1 (ws.length + 1) (ws.map WnG.ptr ++ [x.ptr]), bunW ws, rdA ah (uv bs), rdA at_ (iv tu)] w' := by
            rw [hx]; exact hw'.sub (by (repeat (first | exact List.Sublist.refl _ | apply List.Sublist.cons_cons | apply List.Sublist.cons)))
          have h2 : St w NoF [bunW ws, x.asr, osl (.slice a3 (ws.length + 1) c3) 58 1 (ws.length + 1) (ws.map WnG.ptr ++ [x.ptr]), rdA ah (uv bs), rdA at_ (iv tu)] w' := front h1 2 rfl rfl
          have h3 := (h2.swap.bun_snoc WnG.dep WnG.ex).swap
          show St w NoF [pS a3 c3 (ws ++ [⟨bw, bm, es, ar, hi2⟩]), bunW (ws ++ [⟨bw, bm, es, ar, hi2⟩]), rdA ah (uv bs), rdA at_ (iv tu)] w'
          rw [← hx, show pS a3 c3 (ws ++ [x]) = osl (.slice a3 (ws.length + 1) c3) 58 1 (ws.length + 1) (ws.map WnG.ptr ++ [x.ptr]) by simp [pS]]
          exact h3)
  · have hwn : ws.length = n := by omega
    rw [hwn] at hwD
    have hDj : ∀ j (h : j < ws.length), (ws[j]).D = bitsD (btOf bs lo j) := fun j h => by
      have h1 := congrArg (fun z => z[j]?) hwD
      simp only [List.getElem?_map, List.getElem?_eq_getElem h, Option.map_some, List.getElem?_range (show j < n by omega)] at h1
      exact Option.some.inj h1
    repeat'(first|refine kv' ?_|apply jJ|refine jE' ?_|refine jp' ?_|(apply jc;kernel_rfl)|refine kg' ?_|refine kG' ?_|refine kB' fun _=>?_|refine kA' fun _=>?_|refine kK' fun _=>?_|refine kU' ?_|((first|refine kR' ?_ ?_|refine kQ' ?_ ?_);all_goals(intro hc;try simp only[hcs]at hc;try(exfalso;first|contradiction|omega))))
    apply CW.loop [6, 16, 17, 18, 19, 20, 21, 88, 89, 90, 91, 92, 93, 94, 95, 96, 97, 98, 99, 100, 101, 102, 103, 104, 105, 106, 107, 108, 109, 110, 111, 112, 113, 114, 115, 116, 117, 118, 119, 120, 121, 122, 123, 124] (fun s : S2 => s.k ≤ n ∧ s.ms.map MsA.m = sentL bs lo s.k) (fun s => [(16, .slice s.a s.ms.length s.c), (17, .int .i64 (s.k : Int))])
      (fun s => St w NoF [rS s.a s.c s.ms, bunM s.ms, pS a c ws, bunW ws, rdA ah (uv bs), rdA at_ (iv tu)]) (fun s => n - s.k)
    · intro w' hw'
      refine ⟨⟨0, [], none, 0⟩, ⟨by simp, rfl⟩, ⟨rfl, rfl, trivial⟩, ?_⟩
      exact ((hw'.bun_nil MsA.dep).nilsl 66 13).sub (by (repeat (first | exact List.Sublist.refl _ | apply List.Sublist.cons_cons | apply List.Sublist.cons)))
    rintro ⟨i, ms, am, cm⟩ g2 ⟨hi, hms⟩
    simp only at hi hms ⊢
    have hml := sentL_len bs lo i
    rw [← hms, List.length_map] at hml
    by_cases hin : i < n
    · have hiw : i < ws.length := by omega
      have hxG := hwG _ (List.getElem_mem hiw)
      have hxD := hDj i hiw
      have hsn := sentL_succ bs lo i
      have hxl : (ws[i]).es.length ≤ 100000 := by
        have h1 := congrArg List.length hxD
        have h2 : (bitsD (btOf bs lo i)).length ≤ 40 := bits_len (btOf bs lo i) 40
        rw [← h1] at h2
        simp only [WnG.D, dats, List.length_map] at h2
        omega
      refine CW_fact (φ := ∃ bg og, a = some ⟨bg, og, none⟩) (fun w1 hw1 => (ownsRow_rd (hw1.holds (pS a c ws) (by (repeat (first | exact mH _ _ | apply mT))))).form (ptr_ne hiw)) ?_
      rintro ⟨bg, og, rfl⟩
      repeat'(first|refine kv' ?_|apply jJ|refine jE' ?_|refine jp' ?_|(apply jc;kernel_rfl)|refine kg' ?_|refine kG' ?_|refine kB' fun _=>?_|refine kA' fun _=>?_|refine kK' fun _=>?_|refine kU' ?_|(apply idxX;(iterate 2 exact rfl);(iterate 2(first|omega|(dsimp only;omega)));exact rfl)|(apply LR.ev; (· apply Ev.load_osl; (· exact rfl); (· (repeat (first | exact mH _ _ | apply mT))); (· exact ptr_at (i := i) (by simp) hiw)); (· exact rfl))|((first|refine kR' ?_ ?_|refine kQ' ?_ ?_);all_goals(intro hc;try simp only[hcs]at hc;try(exfalso;first|contradiction|omega))))
      apply LR.call
      · exact rfl
      intro w1 h1
      refine (show CallsTo Try.prog 39 [.pointer (some ⟨(ws[i]).bw, 0, none⟩), .int .i64 (lo : Int)] w1 _ from g39o (ws[i]).bw (ws[i]).bm (ws[i]).es (ws[i]).ar (ws[i]).hi lo _ w1 ((h1.holds (bunW ws) (by (repeat (first | exact mH _ _ | apply mT)))).1 (ws[i]) (List.getElem_mem hiw)) hxG hxl).mono ?_
      rintro v w2 ⟨b, ag, cg, L, rfl, hL, hn2⟩
      refine LR.back (h1.got hn2 (gO_dep _ _ _ _)) ?_
      clear hn2 h1
      rw [hxD] at hL
      have hLl : L.length ≤ 40 := by
        have h1 := congrArg List.length hL
        have h2 := abv_lenB (btOf bs lo i) lo
        simp only [List.length_map] at h1
        omega
      repeat'(first|refine kv' ?_|apply jJ|refine jE' ?_|refine jp' ?_|(apply jc;kernel_rfl)|refine kg' ?_|refine kG' ?_|refine kB' fun _=>?_|refine kA' fun _=>?_|refine kK' fun _=>?_|refine kU' ?_|((first|refine kR' ?_ ?_|refine kQ' ?_ ?_);all_goals(intro hc;try simp only[hcs]at hc;try(exfalso;first|contradiction|omega))))
      apply CW.loop [6, 16, 20, 21, 104, 105, 106, 107, 108, 109, 110, 111, 112, 113, 114, 115, 116, 117, 118, 119, 120, 121, 122, 123, 124] (fun s : S3 => s.ms.map MsA.m ++ s.L.map MsA.m = ms.map MsA.m ++ L.map MsA.m ∧ ∀ y ∈ s.L, y.m ∈ (abvT (bitsD (btOf bs lo i)) (lo : Int)).map oldM) (fun s => [(16, .slice s.a s.ms.length s.c)])
        (fun s => St w NoF [gO b s.ag s.cg s.L, rS s.a s.c s.ms, bunM s.ms, pS (some ⟨bg, og, none⟩) c ws, bunW ws, rdA ah (uv bs), rdA at_ (iv tu)]) (fun s => s.L.length)
      · intro w' hw'
        exact ⟨⟨L, ag, cg, ms, am, cm⟩, ⟨rfl, fun y hy => by rw [← hL]; exact List.mem_map_of_mem hy⟩, ⟨rfl, trivial⟩, hw'⟩
      rintro ⟨L2, ag2, cg2, ms2, am2, cm2⟩ g3 ⟨hms2, hyL⟩
      simp only at hms2 hyL ⊢
      have hlen2 : ms2.length + L2.length = ms.length + L.length := by
        have h1 := congrArg List.length hms2
        simpa using h1
      cases L2 with
      | nil =>
        rw [List.map_nil, List.append_nil] at hms2
        repeat'(first|refine kv' ?_|apply jJ|refine jE' ?_|refine jp' ?_|(apply jc;kernel_rfl)|refine kg' ?_|refine kG' ?_|refine kB' fun _=>?_|refine kA' fun _=>?_|refine kK' fun _=>?_|refine kU' ?_|(apply kq; (· exact rfl); (· intro w1 h1; exact CallsTo.q (g40 b ag2 cg2 0 w1 (gO_rd (h1.holds (gO b ag2 cg2 []) (by (repeat (first | exact mH _ _ | apply mT)))))) h1))|(apply addX;(iterate 2 exact rfl);(iterate 2(first|omega|(dsimp only;omega)));exact rfl)|((first|refine kR' ?_ ?_|refine kQ' ?_ ?_);all_goals(intro hc;try simp only[hcs]at hc;try(exfalso;first|contradiction|omega))))
        refine At.again (⟨i + 1, ms2, am2, cm2⟩ : S2) ⟨by simp only; omega, by simp only; rw [hms2, hms, hsn, hL]⟩ ?_ ⟨rfl, rfl, trivial⟩ (fun w' hw' => hw'.sub (by (repeat (first | exact List.Sublist.refl _ | apply List.Sublist.cons_cons | apply List.Sublist.cons)))) (by simp only; omega)
        (repeat (first | exact Out.refl _ _ | exact Out.mix | (apply Out.upd; (· exact rfl)) | (apply Out.updL; (· exact rfl)) | (apply Out.mixs; (· exact rfl))))
      | cons y r =>
        obtain ⟨d, hd, hyd⟩ := List.mem_map.1 (hyL y List.mem_cons_self)
        have hdb := mem_abvB hd
        have hdo : OkR d := hdb.1.ok
        have hseq : (lo : Int) < y.m.kseq := by rw [← hyd]; exact hdb.2
        have hyl : y.m.body.length ≤ 140737488355328 := by rw [← hyd]; have := hdo.len; omega
        simp only [List.length_cons] at hlen2
        repeat'(first|refine kv' ?_|apply jJ|refine jE' ?_|refine jp' ?_|(apply jc;kernel_rfl)|refine kg' ?_|refine kG' ?_|refine kB' fun _=>?_|refine kA' fun _=>?_|refine kK' fun _=>?_|refine kU' ?_|(apply kq; (· exact rfl); (· intro w1 h1; exact CallsTo.q (g40 b ag2 cg2 (y :: r).length w1 (gO_rd (h1.holds (gO b ag2 cg2 (y :: r)) (by (repeat (first | exact mH _ _ | apply mT)))))) h1))|(apply addX;(iterate 2 exact rfl);(iterate 2(first|omega|(dsimp only;omega)));exact rfl)|((first|refine kR' ?_ ?_|refine kQ' ?_ ?_);all_goals(intro hc;try simp only[hcs]at hc;try(exfalso;first|contradiction|omega))))
        apply LR.call
        · exact rfl
        intro w1 h1
        refine (g41 b ag2 cg2 y r w1 (h1.holds _ (by (repeat (first | exact mH _ _ | apply mT)))) hyl).mono ?_
        rintro v w2 ⟨a1g, c1g, ap, cp, rfl, st⟩
        refine LR.back (h1.two st rfl rfl rfl (by (repeat (first | exact sH _ _ _ | apply sT)))) ?_
        clear h1 st
        repeat'(first|(apply Go.Hb.kK;(iterate 4 exact rfl);intro bs2)|refine kv' ?_|apply jJ|refine jE' ?_|refine jp' ?_|(apply jc;kernel_rfl)|refine kg' ?_|refine kG' ?_|refine kB' fun _=>?_|refine kA' fun _=>?_|refine kK' fun _=>?_|refine kU' ?_|(apply LR.append (xs := ms2.flatMap MsA.row) (news := MsA.row ⟨y.m, ap, cp⟩) (m := 1); (· exact rfl); (· exact rfl); (· intro a' c'; (repeat (first | exact sH _ _ _ | apply sT))); (· exact fun w' hw' => hw'.rd_of_blk (mH _ _)); (· exact fun hx => by cases hx); (· exact rfl); (· simp [MsA.row, Msg.cells, Value.oneCell']); (· omega); (· unfold maxLen; omega); (· exact rfl); (intro a3 c3))|((first|refine kR' ?_ ?_|refine kQ' ?_ ?_);all_goals(intro hc;try simp only[hcs]at hc;try(exfalso;first|contradiction|omega))))
        refine At.again (⟨r, a1g, c1g, ms2 ++ [⟨y.m, ap, cp⟩], a3, c3⟩ : S3) ⟨by rw [← hms2]; simp, fun q hq => hyL q (List.mem_cons_of_mem _ hq)⟩ ?_ ⟨?_, trivial⟩ ?_ (by simp)
        · (repeat (first | exact Out.refl _ _ | exact Out.mix | (apply Out.upd; (· exact rfl)) | (apply Out.updL; (· exact rfl)) | (apply Out.mixs; (· exact rfl))))
        · show Value.slice a3 (ms2.length + 1) c3 = .slice a3 (ms2 ++ [(⟨y.m, ap, cp⟩ : MsA)]).length c3
          simp
        · intro w' hw'
          obtain ⟨z, hz⟩ : ∃ z : MsA, z = ⟨y.m, ap, cp⟩ := ⟨_, rfl⟩
          have h1 : St w NoF [z.body, gO b a1g c1g r, osl (.slice a3 (ms2.length + 1) c3) 66 13 (ms2.length + 1) (ms2.flatMap MsA.row ++ z.row), bunM ms2, pS (some ⟨bg, og, none⟩) c ws, bunW ws, rdA ah (uv bs), rdA at_ (iv tu)] w' := by
            rw [hz]; exact hw'.sub (by (repeat (first | exact List.Sublist.refl _ | apply List.Sublist.cons_cons | apply List.Sublist.cons)))
          have h2 : St w NoF [bunM ms2, z.body, gO b a1g c1g r, osl (.slice a3 (ms2.length + 1) c3) 66 13 (ms2.length + 1) (ms2.flatMap MsA.row ++ z.row), pS (some ⟨bg, og, none⟩) c ws, bunW ws, rdA ah (uv bs), rdA at_ (iv tu)] w' := front h1 3 rfl rfl
          have h3 : St w NoF [bunM (ms2 ++ [z]), gO b a1g c1g r, osl (.slice a3 (ms2.length + 1) c3) 66 13 (ms2.length + 1) (ms2.flatMap MsA.row ++ z.row), pS (some ⟨bg, og, none⟩) c ws, bunW ws, rdA ah (uv bs), rdA at_ (iv tu)] w' := h2.swap.bun_snoc MsA.dep MsA.ex
          have h4 : St w NoF [osl (.slice a3 (ms2.length + 1) c3) 66 13 (ms2.length + 1) (ms2.flatMap MsA.row ++ z.row), bunM (ms2 ++ [z]), gO b a1g c1g r, pS (some ⟨bg, og, none⟩) c ws, bunW ws, rdA ah (uv bs), rdA at_ (iv tu)] w' := front h3 2 rfl rfl
          have h5 : St w NoF [gO b a1g c1g r, osl (.slice a3 (ms2.length + 1) c3) 66 13 (ms2.length + 1) (ms2.flatMap MsA.row ++ z.row), bunM (ms2 ++ [z]), pS (some ⟨bg, og, none⟩) c ws, bunW ws, rdA ah (uv bs), rdA at_ (iv tu)] w' := front h4 2 rfl rfl
          rw [show osl (.slice a3 (ms2.length + 1) c3) 66 13 (ms2.length + 1) (ms2.flatMap MsA.row ++ z.row) = rS a3 c3 (ms2 ++ [z]) by simp [rS]] at h5
          rw [← hz]
          exact h5
    · obtain rfl : i = n := by omega
      refine CW_fact (φ := am = none → ms.length = 0 ∧ cm = 0) (fun w1 hw1 => ownsAt_some (ownsAt_of (hw1.holds (rS am cm ms) (by (repeat (first | exact mH _ _ | apply mT)))))) ?_
      intro hnone
      have hmI : ∀ z ∈ ms, ∃ d, IsOne d ∧ z.m = oldM d := fun z hz => by
        have h1 : z.m ∈ sentL bs lo i := by rw [← hms]; exact List.mem_map_of_mem hz
        obtain ⟨j, d, _, hd, e⟩ := mem_sentL.1 h1
        exact ⟨d, (mem_abvB hd).1, e⟩
      repeat'(first|refine kv' ?_|apply jJ|refine jE' ?_|refine jp' ?_|(apply jc;kernel_rfl)|refine kg' ?_|refine kG' ?_|refine kB' fun _=>?_|refine kA' fun _=>?_|refine kK' fun _=>?_|refine kU' ?_|((first|refine kR' ?_ ?_|refine kQ' ?_ ?_);all_goals(intro hc;try simp only[hcs]at hc;try(exfalso;first|contradiction|omega))))
      apply CW.loop [6, 22, 23, 24, 25, 26, 27, 28, 125, 126, 127, 128, 129, 130, 131, 132, 133, 134, 135, 136, 137, 138, 139, 140, 141, 142, 143, 144, 145, 146, 147, 148, 149, 150, 151, 152, 153, 154, 155, 156, 157, 158, 159, 160, 161, 162, 163, 164, 165, 166, 167, 168, 169, 170, 171, 172, 173, 174, 175, 176, 177, 178, 179, 180, 181, 182, 183, 184] (fun s : S4 => s.i ≤ i ∧ s.ws.map WnG.ptr = ws.map WnG.ptr ∧ (∀ x ∈ s.ws, GoodW x ∧ ∀ d ∈ x.D, IsOne d) ∧ (∀ j (h : j < s.ws.length) (h2 : j < ws.length), (j < s.i → ∀ q, hasD (s.ws[j]).D q = true ↔ hasD (ws[j]).D q = true ∨ ∃ z ∈ ms, z.m.kseq = q) ∧ (s.i ≤ j → (s.ws[j]).D = (ws[j]).D)))
        (fun s => [(22, .int .i64 (s.i : Int))]) (fun s => St w NoF [bunW s.ws, rS am cm ms, bunM ms, pS a c ws, rdA ah (uv bs), rdA at_ (iv tu)]) (fun s => i - s.i)
      · intro w' hw'
        refine ⟨⟨0, ws⟩, ⟨by simp, rfl, fun x hx => ⟨hwG x hx, ?_⟩, fun j h h2 => ⟨fun h3 => absurd h3 (by simp), fun _ => rfl⟩⟩, ⟨rfl, trivial⟩, front hw' 3 rfl rfl⟩
        intro d hd
        obtain ⟨j, hj, rfl⟩ := List.mem_iff_getElem.1 hx
        rw [hDj j hj] at hd
        exact bits_one hd
      rintro ⟨r, ws2⟩ g4 ⟨hr, hptr, hg2, hset⟩
      simp only at hr hptr hg2 hset ⊢
      have hwl2 : ws2.length = ws.length := by have h1 := congrArg List.length hptr; simpa using h1
      by_cases hri : r < i
      · have hr2 : r < ws2.length := by omega
        obtain ⟨p, x, q, rfl, hpl⟩ : ∃ p x q, ws2 = p ++ x :: q ∧ p.length = r := ⟨ws2.take r, ws2[r], ws2.drop (r + 1), by rw [← List.drop_eq_getElem_cons hr2, List.take_append_drop], by simp; omega⟩
        have hxG := hg2 x (by simp)
        have hxr : (p ++ x :: q)[r]'hr2 = x := by subst hpl; simp
        have hxD : x.D = (ws[r]'(by omega)).D := by have h1 := (hset r hr2 (by omega)).2 (Nat.le_refl _); rw [hxr] at h1; exact h1
        have hxp : (ws[r]'(by omega)).bw = x.bw := by
          have h1 := congrArg (fun z => z[r]?) hptr
          simp only [List.getElem?_map, List.getElem?_eq_getElem hr2, List.getElem?_eq_getElem (show r < ws.length by omega), Option.map_some, hxr] at h1
          have h2 := Option.some.inj h1
          simp only [WnG.ptr, Value.pointer.injEq, Option.some.injEq, Addr.mk.injEq] at h2
          exact h2.1.symm
        repeat'(first|refine kv' ?_|apply jJ|refine jE' ?_|refine jp' ?_|(apply jc;kernel_rfl)|refine kg' ?_|refine kG' ?_|refine kB' fun _=>?_|refine kA' fun _=>?_|refine kK' fun _=>?_|refine kU' ?_|(apply LR.append_nil (news := ms.flatMap MsA.row) (m := ms.length); (· exact rfl); (· exact rfl); (· exact fun w' hw' => ownsRow_rd (hw'.holds (rS am cm ms) (by (repeat (first | exact mH _ _ | apply mT))))); (· exact hnone); (· exact Go.Hb.rows_len MsA.row_len ms); (· exact rows_one ms); (· omega); (· unfold maxLen; omega); (· exact rfl); (intro ay cy))|((first|refine kR' ?_ ?_|refine kQ' ?_ ?_);all_goals(intro hc;try simp only[hcs]at hc;try(exfalso;first|contradiction|omega))))
        apply CW.loop [6, 24, 25, 26, 27, 28, 132, 133, 134, 135, 136, 137, 138, 139, 140, 141, 142, 143, 144, 145, 146, 147, 148, 149, 150, 151, 152, 153, 154, 155, 156, 157, 158, 159, 160, 161, 162, 163, 164, 165, 166, 167, 168, 169, 170, 171, 172, 173, 174, 175, 176, 177, 178, 179, 180, 181, 182, 183, 184] (fun s : S5 => s.k ≤ ms.length ∧ s.l.Perm ms ∧ GWin (dats s.es) s.es s.ar ∧ (∀ d ∈ dats s.es, IsOne d) ∧ ∀ v, hasD (dats s.es) v = true ↔ hasD x.D v = true ∨ ∃ z ∈ s.l.take s.k, z.m.kseq = v) (fun s => [(24, .int .i64 (s.k : Int))])
          (fun s => St w NoF [osl (.slice ay ms.length cy) 66 13 ms.length (s.l.flatMap MsA.row), wO x.bw x.bm s.es s.ar s.hi, bunW (p ++ q), rS am cm ms, bunM ms, pS a c ws, rdA ah (uv bs), rdA at_ (iv tu)]) (fun s => ms.length - s.k)
        · intro w' hw'
          refine ⟨⟨0, ms, x.es, x.ar, x.hi⟩, ⟨by simp, List.Perm.refl _, hxG.1, hxG.2, fun v => by simp [WnG.D]⟩, ⟨rfl, trivial⟩, ?_⟩
          have h1 : St w NoF [bunW (p ++ x :: q), osl (.slice ay ms.length cy) 66 13 ms.length (ms.flatMap MsA.row), rS am cm ms, bunM ms, pS a c ws, rdA ah (uv bs), rdA at_ (iv tu)] w' := front (hw'.sub (L' := [osl (.slice ay ms.length cy) 66 13 ms.length (ms.flatMap MsA.row), bunW (p ++ x :: q), rS am cm ms, bunM ms, pS a c ws, rdA ah (uv bs), rdA at_ (iv tu)]) (by (repeat (first | exact List.Sublist.refl _ | apply List.Sublist.cons_cons | apply List.Sublist.cons)))) 1 rfl rfl
          have h2 := St.bun_pick WnG.dep h1
          exact front h2 2 rfl rfl
        rintro ⟨k, l, es, ar, hi2⟩ g5 ⟨hk, hp, hgw, hone, hhas⟩
        simp only at hk hp hgw hone hhas ⊢
        have hll : l.length = ms.length := hp.length_eq
        by_cases hkm : k < ms.length
        · refine CW_fact (φ := ∃ by_ oy, ay = some ⟨by_, oy, none⟩) (fun w1 hw1 => (ownsRow_rd (hw1.holds (osl (.slice ay ms.length cy) 66 13 ms.length (l.flatMap MsA.row)) (by (repeat (first | exact mH _ _ | apply mT))))).form (rows_ne MsA.row_len (by omega) (show k < l.length by omega))) ?_
          rintro ⟨by_, oy, rfl⟩
          refine CW_fact (φ := ∃ bg og, a = some ⟨bg, og, none⟩) (fun w1 hw1 => (ownsRow_rd (hw1.holds (pS a c ws) (by (repeat (first | exact mH _ _ | apply mT))))).form (ptr_ne (show r < ws.length by omega))) ?_
          rintro ⟨bg, og, rfl⟩
          rcases Nat.lt_or_ge k tu.length with hkt | hkt
          focus
            obtain ⟨bt, ot, rfl⟩ := ht.form (fun e => by have h2 := congrArg List.length e; simp only [iv_length, List.length_nil] at h2; omega)
            have hbr := bring_bd (IntKind.wrap .i64 (tu[k] + (r : Int))) ((ms.length : Int) - (k : Int)) (by omega)
            obtain ⟨j, hj, hjm⟩ : ∃ j : Nat, (k : Int) + bring (IntKind.wrap .i64 (tu[k] + (r : Int))) ((ms.length : Int) - (k : Int)) = (j : Int) ∧ k ≤ j ∧ j < ms.length := ⟨((k : Int) + bring (IntKind.wrap .i64 (tu[k] + (r : Int))) ((ms.length : Int) - (k : Int))).toNat, by omega, by omega, by omega⟩
            repeat'(first|(apply LR.ev; (· exact (Ev.addW (show _ = Value.int .i64 tu[k] from rfl) (show _ = Value.int .i64 (r : Int) from rfl))); (· exact rfl))|refine kv' ?_|apply jJ|refine jE' ?_|refine jp' ?_|(apply jc;kernel_rfl)|refine kg' ?_|refine kG' ?_|refine kB' fun _=>?_|refine kA' fun _=>?_|refine kK' fun _=>?_|refine kU' ?_|(apply idxX;(iterate 2 exact rfl);(iterate 2(first|omega|(dsimp only;omega)));exact rfl)|(apply LR.ev; (· apply Ev.load_rd; (· exact rfl); (· repeat (first | exact mH _ _ | apply mT)); (· exact iv_at (i := k) (by simp) hkt)); (· exact rfl))|(apply subX;(iterate 2 exact rfl);(iterate 2(first|omega|(dsimp only;omega)));exact rfl)|(apply kq; (· exact rfl); (· intro w1 h1; exact CallsTo.q (c31 _ _ w1 (by omega)) h1))|(apply addX;(iterate 2 exact rfl);(iterate 2(first|omega|(dsimp only;omega)));exact rfl)|((first|refine kR' ?_ ?_|refine kQ' ?_ ?_);all_goals(intro hc;try simp only[hcs]at hc;try(exfalso;first|contradiction|omega))))
            rw [hj]
            have hkl : k < l.length := by omega
            have hjl : j < l.length := by omega
            repeat'(first|refine kv' ?_|apply jJ|refine jE' ?_|refine jp' ?_|(apply jc;kernel_rfl)|refine kg' ?_|refine kG' ?_|refine kB' fun _=>?_|refine kA' fun _=>?_|refine kK' fun _=>?_|refine kU' ?_|(apply idxX;(iterate 2 exact rfl);(iterate 2(first|omega|(dsimp only;omega)));exact rfl)|(apply LR.ev; (· first | (apply Ev.load_agg_at (cs := l[k].row); (· exact rfl); (· exact rfl); (· intro w' hw'; refine rd_row MsA.row_len (ownsRow_rd (hw'.holds (osl (.slice (some ⟨by_, oy, none⟩) ms.length cy) 66 13 ms.length (l.flatMap MsA.row)) (by (repeat (first | exact mH _ _ | apply mT))))) hkl ?_; simp; done)) | (apply Ev.load_agg_at (cs := l[j].row); (· exact rfl); (· exact rfl); (· intro w' hw'; refine rd_row MsA.row_len (ownsRow_rd (hw'.holds (osl (.slice (some ⟨by_, oy, none⟩) ms.length cy) 66 13 ms.length (l.flatMap MsA.row)) (by (repeat (first | exact mH _ _ | apply mT))))) hjl ?_; simp; done))); (· exact rfl))|((first|refine kR' ?_ ?_|refine kQ' ?_ ?_);all_goals(intro hc;try simp only[hcs]at hc;try(exfalso;first|contradiction|omega))))
            refine LR.store_obj (v := .agg l[j].row.toArray) (z' := osl (.slice (some ⟨by_, oy, none⟩) ms.length cy) 66 13 ms.length ((l.set k l[j]).flatMap MsA.row)) rfl rfl (by (repeat (first | exact sH _ _ _ | apply sT))) rfl (put_rowM l[j] hkl (by simp)) (osl.dep _ _ _ _ _) ?_
            repeat'(first|refine kv' ?_|apply jJ|refine jE' ?_|refine jp' ?_|(apply jc;kernel_rfl)|refine kg' ?_|refine kG' ?_|refine kB' fun _=>?_|refine kA' fun _=>?_|refine kK' fun _=>?_|refine kU' ?_|(apply idxX;(iterate 2 exact rfl);(iterate 2(first|omega|(dsimp only;omega)));exact rfl)|((first|refine kR' ?_ ?_|refine kQ' ?_ ?_);all_goals(intro hc;try simp only[hcs]at hc;try(exfalso;first|contradiction|omega))))
            refine LR.store_obj (v := .agg l[k].row.toArray) (z' := osl (.slice (some ⟨by_, oy, none⟩) ms.length cy) 66 13 ms.length (((l.set k l[j]).set j l[k]).flatMap MsA.row)) rfl rfl (by (repeat (first | exact sH _ _ _ | apply sT))) rfl (put_rowM l[k] (by simpa using hjl) (by simp)) (osl.dep _ _ _ _ _) ?_
            repeat'(first|refine kv' ?_|apply jJ|refine jE' ?_|refine jp' ?_|refine kg' ?_|refine kG' ?_|refine kB' fun _=>?_|refine kA' fun _=>?_|refine kK' fun _=>?_|refine kU' ?_|((first|refine kR' ?_ ?_|refine kQ' ?_ ?_);all_goals(intro hc;try simp only[hcs]at hc;try(exfalso;first|contradiction|omega))))
            have hp2 : ((l.set k l[j]).set j l[k]).Perm ms := (List.set_set_perm hkl hjl).trans hp
            have ht2 : ((l.set k l[j]).set j l[k]).take k = l.take k := by rw [List.take_set_of_le hjm.1, List.take_set_of_le (Nat.le_refl _)]
            generalize ((l.set k l[j]).set j l[k]) = l2 at hp2 ht2 ⊢
            generalize (some (Addr.mk bt ot none)) = at_ at *
          rotate_left
          focus
            repeat'(first|refine kv' ?_|apply jJ|refine jE' ?_|refine jp' ?_|refine kg' ?_|refine kG' ?_|refine kB' fun _=>?_|refine kA' fun _=>?_|refine kK' fun _=>?_|refine kU' ?_|(apply idxX;(iterate 2 exact rfl);(iterate 2(first|omega|(dsimp only;omega)));exact rfl)|((first|refine kR' ?_ ?_|refine kQ' ?_ ?_);all_goals(intro hc;try simp only[hcs]at hc;try(exfalso;first|contradiction|omega))))
            have hp2 : l.Perm ms := hp
            have ht2 : l.take k = l.take k := rfl
            obtain ⟨l2, hl2⟩ : ∃ l2, l2 = l := ⟨_, rfl⟩
            rw [← hl2] at hp2 ⊢
            have ht2 : l2.take k = l.take k := by rw [hl2]
          all_goals (
            have hkl2 : k < l2.length := by rw [hp2.length_eq]; omega
            obtain ⟨y, hy⟩ : ∃ y, y = l2[k] := ⟨_, rfl⟩
            have hym : y ∈ ms := hp2.mem_iff.1 (by rw [hy]; exact List.getElem_mem hkl2)
            obtain ⟨d, hd1, hyd⟩ := hmI y hym
            have hdo := hd1.ok
            have hpx : ∀ z, z = r → (ws.map WnG.ptr)[z]? = some (.pointer (some ⟨x.bw, 0, none⟩)) := fun z hz => by rw [← hxp]; exact ptr_at hz _
            apply CW.reg_held (St w NoF [osl (.slice (some ⟨by_, oy, none⟩) ms.length cy) 66 13 ms.length (l2.flatMap MsA.row), pS (some ⟨bg, og, none⟩) c ws])
            all_goals (
              apply DW.quiet [0, 1, 2, 3, 5, 6, 7, 8]
              · decide +kernel
              · first | exact fun _ h => h | exact fun _ h => St.sub h (by repeat (first | exact List.Sublist.refl _ | apply List.Sublist.cons_cons | apply List.Sublist.cons))
              repeat'(first|refine yv' ?_|(apply QL.ev; (· exact rfl); (· first | (apply Ev.indexAddr; (· exact rfl); (· exact rfl); (· omega); (· omega)) | (apply Ev.load_osl; (· exact rfl); (· (repeat (first | exact mH _ _ | apply mT))); (· exact hpx _ (by simp))) | (apply Ev.load_agg_at (cs := y.row); (· exact rfl); (· exact rfl); (· intro w' hw'; rw [hy]; refine rd_row MsA.row_len (ownsRow_rd (hw'.holds (osl (.slice (some ⟨by_, oy, none⟩) ms.length cy) 66 13 ms.length (l2.flatMap MsA.row)) (by (repeat (first | exact mH _ _ | apply mT))))) hkl2 ?_; simp; done))); (· exact rfl))|refine uv' ?_|refine un' ?_|(refine us' ?_ ?_;all_goals(intro hc;try simp only[hcs]at hc;try(exfalso;first|contradiction|omega)))|apply QL.nil)
              all_goals (show DW _ _ _ _ _ _ _ _))
            all_goals (
              apply DW.loud 4
              · exact rfl
              · decide +kernel
              repeat'(first|refine kg' ?_|refine kG' ?_|apply kM|refine kv' ?_|refine kK' fun _=>?_|refine kU' ?_|refine kB' fun _=>?_|refine kA' fun _=>?_|(apply kq; (· exact rfl); (· intro w1 h1; exact CallsTo.q (g43 w1) h1))|(apply LR.call; (· exact rfl); (intro w1 h1; have hb : y.body.holds w1 := (h1.holds (bunM ms) (by (repeat (first | exact mH _ _ | apply mT)))).1 y hym; have hap := St.apart (x := wO x.bw x.bm es ar hi2) (y := bunM ms) (h1.sub (L' := [wO x.bw x.bm es ar hi2, bunM ms]) (by (repeat (first | exact List.Sublist.refl _ | apply List.Sublist.cons_cons | apply List.Sublist.cons)))) (by (repeat (first | exact mH _ _ | apply mT))) rfl; have hc := g42o x.bw x.bm es ar hi2 (dats es) 2 1 d y.a y.c w1 (h1.holds _ (by (repeat (first | exact mH _ _ | apply mT)))) hgw hdo (by rw [← hyd]; exact ownsRow_rd hb) (body_nzM hb) (fun k hk hw => hap k hw ⟨y, hym, St.osl_foot (by rw [hyd]; exact hk)⟩); rw [← hyd] at hc; refine CallsTo.mono (show CallsTo Try.prog 42 [.pointer (some ⟨x.bw, 0, none⟩), .agg [.int .i64 2, .int .i64 1].toArray, y.m.val y.a y.c] w1 _ from hc) ?_; clear hc; rintro v w2 ⟨es2, ar2, rfl, hgw2, hst⟩; have h2 := h1.one' hst rfl (wO_dep _ _ _ _ _) (by (repeat (first | exact sH _ _ _ | apply sT))); refine LR.back h2 ?_; clear h2 h1 hst hap hb; apply kM)))
              all_goals (refine At.stage_same (fun _ h => St.sub h (by repeat (first | exact List.Sublist.refl _ | apply List.Sublist.cons_cons | apply List.Sublist.cons))) ?_))
            all_goals (
              apply DW.loud 9
              · exact rfl
              · decide +kernel
              repeat'(first|refine kg' ?_|refine kG' ?_|apply kM|refine kv' ?_|refine kK' fun _=>?_|refine kU' ?_|refine kB' fun _=>?_|refine kA' fun _=>?_|(apply kq; (· exact rfl); (· intro w1 h1; exact CallsTo.q (g43 w1) h1))|(apply LR.call; (· exact rfl); (intro w1 h1; have hb : y.body.holds w1 := (h1.holds (bunM ms) (by (repeat (first | exact mH _ _ | apply mT)))).1 y hym; have hap := St.apart (x := wO x.bw x.bm es ar hi2) (y := bunM ms) (h1.sub (L' := [wO x.bw x.bm es ar hi2, bunM ms]) (by (repeat (first | exact List.Sublist.refl _ | apply List.Sublist.cons_cons | apply List.Sublist.cons)))) (by (repeat (first | exact mH _ _ | apply mT))) rfl; have hc := g42o x.bw x.bm es ar hi2 (dats es) 2 1 d y.a y.c w1 (h1.holds _ (by (repeat (first | exact mH _ _ | apply mT)))) hgw hdo (by rw [← hyd]; exact ownsRow_rd hb) (body_nzM hb) (fun k hk hw => hap k hw ⟨y, hym, St.osl_foot (by rw [hyd]; exact hk)⟩); rw [← hyd] at hc; refine CallsTo.mono (show CallsTo Try.prog 42 [.pointer (some ⟨x.bw, 0, none⟩), .agg [.int .i64 2, .int .i64 1].toArray, y.m.val y.a y.c] w1 _ from hc) ?_; clear hc; rintro v w2 ⟨es2, ar2, rfl, hgw2, hst⟩; have h2 := h1.one' hst rfl (wO_dep _ _ _ _ _) (by (repeat (first | exact sH _ _ _ | apply sT))); refine LR.back h2 ?_; clear h2 h1 hst hap hb; apply kM)))
              all_goals (refine At.stage_same (fun _ h => St.sub h (by repeat (first | exact List.Sublist.refl _ | apply List.Sublist.cons_cons | apply List.Sublist.cons))) ?_))
            all_goals (
              apply DW.quiet [10, 11, 12, 13, 14]
              · decide +kernel
              · first | exact fun _ h => h | exact fun _ h => St.sub h (by repeat (first | exact List.Sublist.refl _ | apply List.Sublist.cons_cons | apply List.Sublist.cons))
              repeat'(first|refine yv' ?_|(apply QL.ev; (· exact rfl); (· first | (apply Ev.indexAddr; (· exact rfl); (· exact rfl); (· omega); (· omega)) | (apply Ev.load_osl; (· exact rfl); (· (repeat (first | exact mH _ _ | apply mT))); (· exact hpx _ (by simp))) | (apply Ev.load_agg_at (cs := y.row); (· exact rfl); (· exact rfl); (· intro w' hw'; rw [hy]; refine rd_row MsA.row_len (ownsRow_rd (hw'.holds (osl (.slice (some ⟨by_, oy, none⟩) ms.length cy) 66 13 ms.length (l2.flatMap MsA.row)) (by (repeat (first | exact mH _ _ | apply mT))))) hkl2 ?_; simp; done))); (· exact rfl))|refine uv' ?_|refine un' ?_|(refine us' ?_ ?_;all_goals(intro hc;try simp only[hcs]at hc;try(exfalso;first|contradiction|omega)))|apply QL.nil)
              all_goals (show DW _ _ _ _ _ _ _ _))
            all_goals (first | (apply DW.done_thn; (· decide +kernel)) | (apply DW.done; (· decide +kernel)))
            have htk : takD 2 1 (dats es) d = wpD (dats es) d := by
              unfold takD
              rw [if_pos]
              obtain ⟨kk, _, rfl⟩ := hd1
              rfl
            have he2 : dats es2 = wpD (dats es) d := by rw [hgw2.e, htk]
            have hks : y.m.kseq = d.seq := by rw [hyd]; rfl
            have htk2 : l2.take (k + 1) = l.take k ++ [y] := by rw [List.take_succ_eq_append_getElem hkl2, ht2, ← hy]
            repeat'(first|refine kv' ?_|apply jJ|refine jE' ?_|refine jp' ?_|(apply jc;kernel_rfl)|refine kg' ?_|refine kG' ?_|refine kB' fun _=>?_|refine kA' fun _=>?_|refine kK' fun _=>?_|refine kU' ?_|(apply addX;(iterate 2 exact rfl);(iterate 2(first|omega|(dsimp only;omega)));exact rfl)|((first|refine kR' ?_ ?_|refine kQ' ?_ ?_);all_goals(intro hc;try simp only[hcs]at hc;try(exfalso;first|contradiction|omega))))
            refine At.again (⟨k + 1, l2, es2, ar2, takH 2 1 (dats es) hi2 d⟩ : S5) ⟨by simp only; omega, hp2, by simp only; rw [hgw2.e]; exact hgw2, ?_, ?_⟩ ?_ ⟨rfl, trivial⟩ (fun w' hw' => hw'.sub (by (repeat (first | exact List.Sublist.refl _ | apply List.Sublist.cons_cons | apply List.Sublist.cons)))) (by simp only; omega)
            · intro z hz
              simp only at hz
              rw [he2] at hz
              rcases mem_wpD hz with hz | hz
              · exact hone z hz
              · rw [hz]; exact hd1
            · intro v
              simp only
              rw [he2, has_take hdo, hhas v, htk2]
              constructor
              · rintro ((h | ⟨z, hz, e⟩) | rfl)
                · exact .inl h
                · exact .inr ⟨z, List.mem_append_left _ hz, e⟩
                · exact .inr ⟨y, List.mem_append_right _ List.mem_cons_self, hks⟩
              · rintro (h | ⟨z, hz, e⟩)
                · exact .inl (.inl h)
                · rcases List.mem_append.1 hz with hz | hz
                  · exact .inl (.inr ⟨z, hz, e⟩)
                  · rw [List.mem_singleton] at hz; subst hz; exact .inr (by rw [← e, hks])
            · (repeat (first | exact Out.refl _ _ | exact Out.mix | (apply Out.upd; (· exact rfl)) | (apply Out.updL; (· exact rfl)) | (apply Out.mixs; (· exact rfl))))
            skip)
        · obtain rfl : k = ms.length := by omega
          rw [List.take_of_length_le (by omega)] at hhas
          repeat'(first|refine kv' ?_|apply jJ|refine jE' ?_|refine jp' ?_|(apply jc;kernel_rfl)|refine kg' ?_|refine kG' ?_|refine kB' fun _=>?_|refine kA' fun _=>?_|refine kK' fun _=>?_|refine kU' ?_|(apply addX;(iterate 2 exact rfl);(iterate 2(first|omega|(dsimp only;omega)));exact rfl)|((first|refine kR' ?_ ?_|refine kQ' ?_ ?_);all_goals(intro hc;try simp only[hcs]at hc;try(exfalso;first|contradiction|omega))))
          refine At.again (⟨r + 1, p ++ ⟨x.bw, x.bm, es, ar, hi2⟩ :: q⟩ : S4) ⟨by simp only; omega, ?_, ?_, ?_⟩ ?_ ⟨rfl, trivial⟩ ?_ (by simp only; omega)
          · rw [← hptr]
            simp [WnG.ptr]
          · intro z hz
            rcases List.mem_append.1 hz with hz | hz
            · exact hg2 z (List.mem_append_left _ hz)
            · rcases List.mem_cons.1 hz with hz | hz
              · rw [hz]; exact ⟨hgw, hone⟩
              · exact hg2 z (List.mem_append_right _ (List.mem_cons_of_mem _ hz))
          · intro j h h2
            simp only at h ⊢
            by_cases hjr : j = r
            · subst hjr
              have e1 : (p ++ (⟨x.bw, x.bm, es, ar, hi2⟩ : WnG) :: q)[j]'h = ⟨x.bw, x.bm, es, ar, hi2⟩ := by subst hpl; simp
              rw [e1]
              refine ⟨fun _ v => ?_, fun h3 => absurd h3 (by omega)⟩
              show hasD (dats es) v = true ↔ _
              rw [hhas v, hxD]
              refine or_congr Iff.rfl ⟨fun ⟨z, hz, e⟩ => ⟨z, hp.mem_iff.1 hz, e⟩, fun ⟨z, hz, e⟩ => ⟨z, hp.mem_iff.2 hz, e⟩⟩
            · have h5 : j < (p ++ x :: q).length := by simpa using h
              have e1 : (p ++ (⟨x.bw, x.bm, es, ar, hi2⟩ : WnG) :: q)[j]'h = (p ++ x :: q)[j]'h5 := by
                rw [List.getElem_append, List.getElem_append]
                split
                · rfl
                · rename_i h6
                  obtain ⟨t, ht⟩ : ∃ t, j - p.length = t + 1 := ⟨j - p.length - 1, by omega⟩
                  simp only [ht, List.getElem_cons_succ]
              rw [e1]
              have h6 := hset j h5 h2
              exact ⟨fun h3 => h6.1 (by omega), fun h3 => h6.2 (by omega)⟩
          · (repeat (first | exact Out.refl _ _ | exact Out.mix | (apply Out.upd; (· exact rfl)) | (apply Out.updL; (· exact rfl)) | (apply Out.mixs; (· exact rfl))))
          · intro w' hw'
            have h1 : St w NoF [wO x.bw x.bm es ar hi2, bunW (p ++ q), rS am cm ms, bunM ms, pS a c ws, rdA ah (uv bs), rdA at_ (iv tu)] w' := hw'.sub (by (repeat (first | exact List.Sublist.refl _ | apply List.Sublist.cons_cons | apply List.Sublist.cons)))
            exact St.bun_put (x := (⟨x.bw, x.bm, es, ar, hi2⟩ : WnG)) WnG.dep WnG.ex h1
      · obtain rfl : r = i := by omega
        repeat'(first|refine kv' ?_|apply jJ|refine jE' ?_|refine jp' ?_|(apply jc;kernel_rfl)|refine kg' ?_|refine kG' ?_|refine kB' fun _=>?_|refine kA' fun _=>?_|refine kK' fun _=>?_|refine kU' ?_|((first|refine kR' ?_ ?_|refine kQ' ?_ ?_);all_goals(intro hc;try simp only[hcs]at hc;try(exfalso;first|contradiction|omega))))
        obtain ⟨tB, htB⟩ : ∃ tB, tB = allB bs lo ws.length := ⟨_, rfl⟩
        rw [← htB]
        have hrb : (bitsD tB).length ≤ 40 := bits_len tB 40
        apply CW.loop [29, 30, 185, 186, 187, 188, 189, 190, 191, 192, 193, 194, 195, 196, 197, 198] (fun s : Nst => s.k ≤ 40) (fun s => [(29, .slice s.a ((bitsN tB s.k).map Dat.seq).length s.c), (30, .int .i64 (s.k : Int))])
          (fun s => St w NoF [il s.a s.c ((bitsN tB s.k).map Dat.seq), bunW ws2, pS a c ws]) (fun s => 40 - s.k)
        · intro w' hw'
          exact ⟨⟨0, none, 0⟩, by simp, ⟨rfl, rfl, trivial⟩, (hw'.nilsl 3 1).sub (by (repeat (first | exact List.Sublist.refl _ | apply List.Sublist.cons_cons | apply List.Sublist.cons)))⟩
        rintro ⟨k, aw, cw⟩ g6 hk
        simp only at hk ⊢
        by_cases hk40 : k < 40
        · have hsn := bitsN_succ tB k
          have hlk : ((bitsN tB k).map Dat.seq).length ≤ 40 := by rw [List.length_map]; exact Nat.le_trans (bits_len tB k) hk
          cases hbit : tB.getLsbD k with
          | true =>
            rw [hbit, if_pos rfl] at hsn
            generalize hLL : (bitsN tB k).map Dat.seq = LL at hlk ⊢
            repeat'(first|(apply LR.ev; (· first | exact Ev.shrU64 (X := tB) (j := k) rfl rfl rfl (by omega) | exact Ev.lowU64 (X := tB) (k := k) hbit rfl rfl); (· exact rfl))|(apply Go.Hb.kK;(iterate 4 exact rfl);intro bs3)|refine kv' ?_|apply jJ|refine jE' ?_|refine jp' ?_|(apply jc;kernel_rfl)|refine kg' ?_|refine kG' ?_|refine kB' fun _=>?_|refine kA' fun _=>?_|refine kK' fun _=>?_|refine kU' ?_|(apply addX;(iterate 2 exact rfl);(iterate 2(first|omega|(dsimp only;omega)));exact rfl)|(apply LR.append (xs := iv LL) (news := [Value.int .i64 ((k : Int) + 1)]) (m := 1); (· exact rfl); (· exact rfl); (· intro a' c'; (repeat (first | exact sH _ _ _ | apply sT))); (· exact fun w' hw' => hw'.rd_of_blk (mH _ _)); (· exact fun hx => by cases hx); (· exact rfl); (· exact rfl); (· omega); (· unfold maxLen; omega); (· exact rfl); (intro a3 c3))|((first|refine kR' ?_ ?_|refine kQ' ?_ ?_);all_goals(intro hc;try simp only[hcs]at hc;try(exfalso;first|contradiction|omega))))
            have hsuc : (bitsN tB (k + 1)).map Dat.seq = LL ++ [(k : Int) + 1] := by rw [hsn, List.map_append, hLL]; rfl
            refine At.again (⟨k + 1, a3, c3⟩ : Nst) (by simp only; omega) ?_ ⟨?_, rfl, trivial⟩ ?_ (by simp only; omega)
            · (repeat (first | exact Out.refl _ _ | exact Out.mix | (apply Out.upd; (· exact rfl)) | (apply Out.updL; (· exact rfl)) | (apply Out.mixs; (· exact rfl))))
            · simp only
              rw [hsuc]
              simp only [List.length_append, List.length_cons, List.length_nil]
              rfl
            · intro w' hw'
              simp only
              rw [hsuc]
              have e : il a3 c3 (LL ++ [(k : Int) + 1]) = osl (.slice a3 (LL.length + 1) c3) 3 1 (LL.length + 1) (iv LL ++ [Value.int .i64 ((k : Int) + 1)]) := by simp [il, iv]
              rw [e]
              exact hw'.sub (by (repeat (first | exact List.Sublist.refl _ | apply List.Sublist.cons_cons | apply List.Sublist.cons)))
          | false =>
            rw [hbit, if_neg (by simp), List.append_nil] at hsn
            repeat'(first|(apply LR.ev; (· first | exact Ev.shrU64 (X := tB) (j := k) rfl rfl rfl (by omega) | exact Ev.lowU64 (X := tB) (k := k) hbit rfl rfl); (· exact rfl))|refine kv' ?_|apply jJ|refine jE' ?_|refine jp' ?_|(apply jc;kernel_rfl)|refine kg' ?_|refine kG' ?_|refine kB' fun _=>?_|refine kA' fun _=>?_|refine kK' fun _=>?_|refine kU' ?_|(apply addX;(iterate 2 exact rfl);(iterate 2(first|omega|(dsimp only;omega)));exact rfl)|((first|refine kR' ?_ ?_|refine kQ' ?_ ?_);all_goals(intro hc;try simp only[hcs]at hc;try(exfalso;first|contradiction|omega))))
            refine At.again (⟨k + 1, aw, cw⟩ : Nst) (by simp only; omega) ?_ ⟨?_, rfl, trivial⟩ (fun w' hw' => by simp only; rw [hsn]; exact hw'.sub (by (repeat (first | exact List.Sublist.refl _ | apply List.Sublist.cons_cons | apply List.Sublist.cons)))) (by simp only; omega)
            · (repeat (first | exact Out.refl _ _ | exact Out.mix | (apply Out.upd; (· exact rfl)) | (apply Out.updL; (· exact rfl)) | (apply Out.mixs; (· exact rfl))))
            · show Value.slice aw ((bitsN tB k).map Dat.seq).length cw = .slice aw ((bitsN tB (k + 1)).map Dat.seq).length cw
              rw [hsn]
        · obtain rfl : k = 40 := by omega
          have hfin : ∀ j (h : j < ws2.length), (abvT (ws2[j]).D 0).map Dat.seq = (bitsD tB).map Dat.seq := by
            intro j h
            have hjw : j < ws.length := by omega
            refine same_end ((hg2 _ (List.getElem_mem h)).1.ok) (bs := bs) (lo := lo) (r := r) (j := j) hlo20 (by omega) (by rw [htB, hwn]) (fun j' h' => ?_) (ms.map MsA.m) hms fun q => ?_
            · have h1 := hwG _ (List.getElem_mem (show j' < ws.length by omega))
              have h2 := h1.ok
              rw [hDj j' (by omega)] at h2
              exact h2
            · rw [(hset j h hjw).1 (by omega), hDj j hjw]
              refine or_congr Iff.rfl ⟨fun ⟨z, hz, e⟩ => ⟨z.m, List.mem_map_of_mem hz, e⟩, fun ⟨m, hm, e⟩ => ?_⟩
              obtain ⟨z, hz, rfl⟩ := List.mem_map.1 hm
              exact ⟨z, hz, e⟩
          have hWl : ((bitsD tB).map Dat.seq).length ≤ 40 := by rw [List.length_map]; exact hrb
          repeat'(first|refine kv' ?_|apply jJ|refine jE' ?_|refine jp' ?_|(apply jc;kernel_rfl)|refine kg' ?_|refine kG' ?_|refine kB' fun _=>?_|refine kA' fun _=>?_|refine kK' fun _=>?_|refine kU' ?_|((first|refine kR' ?_ ?_|refine kQ' ?_ ?_);all_goals(intro hc;try simp only[hcs]at hc;try(exfalso;first|contradiction|omega))))
          apply CW.loop [6, 31, 32, 33, 199, 200, 201, 202, 203, 204, 205, 206, 207, 208, 209, 210, 211, 212, 213, 214, 215, 216, 217, 218, 219, 220, 221, 222, 223, 224, 225, 226, 227, 228, 229, 230, 231, 232, 233, 234, 235, 236, 237, 238, 239, 240, 241, 242, 243, 244, 245, 246, 247, 248, 249, 250, 251, 252, 253, 254, 255, 256, 257, 258, 259, 260, 261, 262] (fun s : Nat => s ≤ r) (fun s => [(31, .int .i64 (s : Int))])
            (fun s => St w NoF [il aw cw ((bitsD tB).map Dat.seq), bunW ws2, pS a c ws]) (fun s => r - s)
          · intro w' hw'
            exact ⟨0, by simp, ⟨rfl, trivial⟩, hw'⟩
          rintro i g7 hi3
          by_cases hir : i < r
          · have hi2 : i < ws2.length := by omega
            have hiw : i < ws.length := by omega
            obtain ⟨x, hx⟩ : ∃ x, x = ws2[i] := ⟨_, rfl⟩
            have hxm : x ∈ ws2 := by rw [hx]; exact List.getElem_mem hi2
            have hxG := hg2 x hxm
            have hxW : (abvT (dats x.es) 0).map Dat.seq = (bitsD tB).map Dat.seq := by have h1 := hfin i hi2; rw [← hx] at h1; exact h1
            have hxo : WOk (dats x.es) := hxG.1.ok
            have hxl : x.es.length ≤ 100000 := by
              have h1 := congrArg List.length hxW
              rw [abv_seqG, List.filter_eq_self.2 (fun s hs => by
                obtain ⟨d, hd, rfl⟩ := has_iff.1 (mem_sqs.1 hs)
                have := (hxo.rng d hd).1
                exact decide_eq_true (by omega)), sqs_len] at h1
              simp only [dats, List.length_map] at h1 hrb
              omega
            have hpx : ∀ z, z = i → (ws.map WnG.ptr)[z]? = some (.pointer (some ⟨x.bw, 0, none⟩)) := fun z hz => by rw [← hptr, hx]; exact ptr_at hz _
            refine CW_fact (φ := ∃ bg og, a = some ⟨bg, og, none⟩) (fun w1 hw1 => (ownsRow_rd (hw1.holds (pS a c ws) (by (repeat (first | exact mH _ _ | apply mT))))).form (ptr_ne hiw)) ?_
            rintro ⟨bg, og, rfl⟩
            repeat'(first|refine kv' ?_|apply jJ|refine jE' ?_|refine jp' ?_|(apply jc;kernel_rfl)|refine kg' ?_|refine kG' ?_|refine kB' fun _=>?_|refine kA' fun _=>?_|refine kK' fun _=>?_|refine kU' ?_|(apply idxX;(iterate 2 exact rfl);(iterate 2(first|omega|(dsimp only;omega)));exact rfl)|(apply LR.ev; (· apply Ev.load_osl; (· exact rfl); (· (repeat (first | exact mH _ _ | apply mT))); (· exact hpx _ (by simp))); (· exact rfl))|((first|refine kR' ?_ ?_|refine kQ' ?_ ?_);all_goals(intro hc;try simp only[hcs]at hc;try(exfalso;first|contradiction|omega))))
            apply LR.call
            · exact rfl
            intro w1 h1
            have hc := g44 x.bw x.bm x.es x.ar x.hi w1 ((h1.holds (bunW ws2) (by (repeat (first | exact mH _ _ | apply mT)))).1 x hxm) hxo hxl
            rw [hxW] at hc
            refine hc.mono ?_
            rintro v w2 ⟨an, cn, rfl, hn2⟩
            refine LR.back (h1.newSl hn2) ?_
            clear hn2 h1 hc
            repeat'(first|refine kv' ?_|apply jJ|refine jE' ?_|refine jp' ?_|(apply jc;kernel_rfl)|refine kg' ?_|refine kG' ?_|refine kB' fun _=>?_|refine kA' fun _=>?_|refine kK' fun _=>?_|refine kU' ?_|(apply kq; (· exact rfl); (· intro w1 h1; have hq := CallsTo.q (t19 an aw cn cw ((bitsD tB).map Dat.seq) ((bitsD tB).map Dat.seq) w1 (ownsRow_rd (h1.holds (osl (.slice an ((bitsD tB).map Dat.seq).length cn) 3 1 ((bitsD tB).map Dat.seq).length (iv ((bitsD tB).map Dat.seq))) (by (repeat (first | exact mH _ _ | apply mT))))) (ownsRow_rd (h1.holds (il aw cw ((bitsD tB).map Dat.seq)) (by (repeat (first | exact mH _ _ | apply mT))))) (by omega)) h1; exact hq))|(apply idxX;(iterate 2 exact rfl);(iterate 2(first|omega|(dsimp only;omega)));exact rfl)|(apply LR.ev; (· apply Ev.load_osl; (· exact rfl); (· (repeat (first | exact mH _ _ | apply mT))); (· exact hpx _ (by simp))); (· exact rfl))|((first|refine kR' ?_ ?_|refine kQ' ?_ ?_);all_goals(intro hc;try simp only[hcs]at hc;try(exfalso;first|contradiction|omega))))
            apply LR.call
            · exact rfl
            intro w1 h1
            refine CallsTo.mono (show CallsTo Try.prog 45 [.pointer (some ⟨x.bw, 0, none⟩), .int .i64 0] w1 _ from t34 x.bw x.bm x.es x.ar x.hi 0 w1 ((h1.holds (bunW ws2) (by (repeat (first | exact mH _ _ | apply mT)))).1 x hxm) hxo hxl) ?_
            rintro v w2 ⟨a1, c1, o, rfl, ho, hn2⟩
            have hr1 : Rd w2 a1 (o.flatMap DaA.row) := ownsRow_rd hn2.holds.1
            refine LR.back ((h1.got hn2 (dO_dep _ _ _)).part (osl.dep _ _ _ _ _) (bun_dep DaA.dep o)) ?_
            clear hn2 h1
            have hol : o.length ≤ 40 := by
              have h1 := congrArg List.length hxW
              rw [← ho] at h1
              simp only [dats, List.length_map] at h1 hrb
              omega
            repeat'(first|refine kv' ?_|apply jJ|refine jE' ?_|refine jp' ?_|(apply jc;kernel_rfl)|refine kg' ?_|refine kG' ?_|refine kB' fun _=>?_|refine kA' fun _=>?_|refine kK' fun _=>?_|refine kU' ?_|((first|refine kR' ?_ ?_|refine kQ' ?_ ?_);all_goals(intro hc;try simp only[hcs]at hc;try(exfalso;first|contradiction|omega))))
            apply CW.loop [6, 33, 217, 218, 219, 220, 221, 222, 223, 224, 225, 226, 227, 228, 229, 230, 231, 232, 233, 234, 235, 236, 237, 238, 239, 240, 241, 242, 243, 244, 245, 246, 247, 248, 249, 250, 251, 252, 253, 254, 255, 256, 257, 258, 259, 260, 261, 262] (fun s : Nat => s ≤ o.length) (fun s => [(33, .int .i64 (s : Int))])
              (fun s => St w NoF [dS a1 c1 o, il aw cw ((bitsD tB).map Dat.seq), bunW ws2, pS (some ⟨bg, og, none⟩) c ws]) (fun s => o.length - s)
            · exact fun w' hw' => ⟨0, by simp, ⟨rfl, trivial⟩, hw'.sub (by (repeat (first | exact List.Sublist.refl _ | apply List.Sublist.cons_cons | apply List.Sublist.cons)))⟩
            rintro j g8 hj
            by_cases hjo : j < o.length
            · obtain ⟨y, hy⟩ : ∃ y, y = o[j] := ⟨_, rfl⟩
              have hyo : y.d ∈ dats x.es := abv_mem (q := 0) (by rw [← ho]; exact List.mem_map_of_mem (by rw [hy]; exact List.getElem_mem hjo))
              obtain ⟨kk, hkk, hyd⟩ := hxG.2 y.d hyo
              obtain ⟨ba, oa, rfl⟩ := hr1.form (rows_ne DaA.row_len (by omega) hjo)
              obtain ⟨sq, hsq⟩ : ∃ sq : Int, sq = (kk : Int) + 1 := ⟨_, rfl⟩
              rw [← hsq] at hyd
              have tb := tmod_bd sq 8 (by omega)
              have v2 : y.row[2]? = some (.int .i64 sq) := by unfold DaA.row; rw [hyd]; rfl
              have v3 : y.row[3]? = some (.int .i64 (1 + sq.tmod 8)) := by unfold DaA.row; rw [hyd]; rfl
              have v4 : y.row[4]? = some (.int .i64 sq) := by unfold DaA.row; rw [hyd]; rfl
              have v8 : y.row[8]? = some (.int .i64 sq) := by unfold DaA.row; rw [hyd]; rfl
              rw [hy] at v2 v3 v4 v8
              repeat'(first|(apply CW.reg_heldC)|refine kv' ?_|apply jJ|refine jE' ?_|refine jp' ?_|(apply jc;kernel_rfl)|refine kg' ?_|refine kG' ?_|refine kB' fun _=>?_|refine kA' fun _=>?_|refine kK' fun _=>?_|refine kU' ?_|((first|refine kR' ?_ ?_|refine kQ' ?_ ?_);all_goals(intro hc;try simp only[hcs]at hc;try(exfalso;first|contradiction|omega))))
              all_goals (
                apply DW.quiet [0, 1, 2, 3, 4, 5, 6, 7, 8, 9, 10, 11, 12, 13, 14, 15, 16, 17, 18, 19, 20, 21, 22, 23, 24, 25, 26, 27, 28, 29, 30, 31, 32, 33, 34, 35, 36, 37, 38, 39]
                · decide +kernel
                · first | exact fun _ h => h | exact fun _ h => St.sub h (by repeat (first | exact List.Sublist.refl _ | apply List.Sublist.cons_cons | apply List.Sublist.cons))
                repeat'(first|refine yv' ?_|(apply QL.ev; (· exact rfl); (· first | (apply Ev.indexAddr; (· exact rfl); (· exact rfl); (· omega); (· omega)) | (apply Ev.load (v := .int .i64 (sq)); (· exact rfl); (· intro w' hw'; refine row_cell DaA.row_len (ownsRow_rd (hw'.holds (dS (some ⟨ba, oa, none⟩) c1 o) (by (repeat (first | exact mH _ _ | apply mT))))) hjo 8 v8 ?_; omega)) | (apply Ev.load (v := .int .i64 (sq)); (· exact rfl); (· intro w' hw'; refine row_cell DaA.row_len (ownsRow_rd (hw'.holds (dS (some ⟨ba, oa, none⟩) c1 o) (by (repeat (first | exact mH _ _ | apply mT))))) hjo 2 v2 ?_; omega)) | (apply Ev.load (v := .int .i64 (sq)); (· exact rfl); (· intro w' hw'; refine row_cell DaA.row_len (ownsRow_rd (hw'.holds (dS (some ⟨ba, oa, none⟩) c1 o) (by (repeat (first | exact mH _ _ | apply mT))))) hjo 4 v4 ?_; omega)) | (apply Ev.load (v := .int .i64 (1 + sq.tmod 8)); (· exact rfl); (· intro w' hw'; refine row_cell DaA.row_len (ownsRow_rd (hw'.holds (dS (some ⟨ba, oa, none⟩) c1 o) (by (repeat (first | exact mH _ _ | apply mT))))) hjo 3 v3 ?_; omega)) | (apply Ev.rem; (· exact rfl); (· exact rfl); (· omega)) | (apply Ev.add; (· exact rfl); (· exact rfl); (· omega); (· omega))); (· exact rfl))|(apply QL.evg; (iterate 3 exact rfl); (· first | (apply Ev.indexAddr; (· exact rfl); (· exact rfl); (· omega); (· omega)) | (apply Ev.load (v := .int .i64 (sq)); (· exact rfl); (· intro w' hw'; refine row_cell DaA.row_len (ownsRow_rd (hw'.holds (dS (some ⟨ba, oa, none⟩) c1 o) (by (repeat (first | exact mH _ _ | apply mT))))) hjo 8 v8 ?_; omega)) | (apply Ev.load (v := .int .i64 (sq)); (· exact rfl); (· intro w' hw'; refine row_cell DaA.row_len (ownsRow_rd (hw'.holds (dS (some ⟨ba, oa, none⟩) c1 o) (by (repeat (first | exact mH _ _ | apply mT))))) hjo 2 v2 ?_; omega)) | (apply Ev.load (v := .int .i64 (sq)); (· exact rfl); (· intro w' hw'; refine row_cell DaA.row_len (ownsRow_rd (hw'.holds (dS (some ⟨ba, oa, none⟩) c1 o) (by (repeat (first | exact mH _ _ | apply mT))))) hjo 4 v4 ?_; omega)) | (apply Ev.load (v := .int .i64 (1 + sq.tmod 8)); (· exact rfl); (· intro w' hw'; refine row_cell DaA.row_len (ownsRow_rd (hw'.holds (dS (some ⟨ba, oa, none⟩) c1 o) (by (repeat (first | exact mH _ _ | apply mT))))) hjo 3 v3 ?_; omega)) | (apply Ev.rem; (· exact rfl); (· exact rfl); (· omega)) | (apply Ev.add; (· exact rfl); (· exact rfl); (· omega); (· omega))); (· exact rfl))|refine uv' ?_|refine un' ?_|(refine us' ?_ ?_;all_goals(intro hc;try simp only[hcs]at hc;try(exfalso;first|contradiction|omega)))|apply QL.nil)
                all_goals (show DW _ _ _ _ _ _ _ _))
              all_goals (first | (apply DW.done_thn; (· decide +kernel)) | (apply DW.done; (· decide +kernel)))
              repeat'(first|refine kv' ?_|apply jJ|refine jE' ?_|refine jp' ?_|(apply jc;kernel_rfl)|refine kg' ?_|refine kG' ?_|refine kB' fun _=>?_|refine kA' fun _=>?_|refine kK' fun _=>?_|refine kU' ?_|(apply addX;(iterate 2 exact rfl);(iterate 2(first|omega|(dsimp only;omega)));exact rfl)|((first|refine kR' ?_ ?_|refine kQ' ?_ ?_);all_goals(intro hc;try simp only[hcs]at hc;try(exfalso;first|contradiction|omega))))
              refine At.again (j + 1) (by omega) ?_ ⟨rfl, trivial⟩ (fun w' hw' => hw'.sub (by (repeat (first | exact List.Sublist.refl _ | apply List.Sublist.cons_cons | apply List.Sublist.cons)))) (by omega)
              (repeat (first | exact Out.refl _ _ | exact Out.mix | (apply Out.upd; (· exact rfl)) | (apply Out.updL; (· exact rfl)) | (apply Out.mixs; (· exact rfl))))
            · obtain rfl : j = o.length := by omega
              repeat'(first|refine kv' ?_|apply jJ|refine jE' ?_|refine jp' ?_|(apply jc;kernel_rfl)|refine kg' ?_|refine kG' ?_|refine kB' fun _=>?_|refine kA' fun _=>?_|refine kK' fun _=>?_|refine kU' ?_|(apply addX;(iterate 2 exact rfl);(iterate 2(first|omega|(dsimp only;omega)));exact rfl)|((first|refine kR' ?_ ?_|refine kQ' ?_ ?_);all_goals(intro hc;try simp only[hcs]at hc;try(exfalso;first|contradiction|omega))))
              refine At.again (i + 1) (by omega) ?_ ⟨rfl, trivial⟩ (fun w' hw' => hw'.sub (by (repeat (first | exact List.Sublist.refl _ | apply List.Sublist.cons_cons | apply List.Sublist.cons)))) (by omega)
              (repeat (first | exact Out.refl _ _ | exact Out.mix | (apply Out.upd; (· exact rfl)) | (apply Out.updL; (· exact rfl)) | (apply Out.mixs; (· exact rfl))))
          · obtain rfl : i = r := by omega
            repeat'(first|refine kv' ?_|apply jJ|refine jE' ?_|refine jp' ?_|(apply jc;kernel_rfl)|refine kg' ?_|refine kG' ?_|refine kB' fun _=>?_|refine kA' fun _=>?_|refine kK' fun _=>?_|refine kU' ?_|((first|refine kR' ?_ ?_|refine kQ' ?_ ?_);all_goals(intro hc;try simp only[hcs]at hc;try(exfalso;first|contradiction|omega))))
            (apply ret1; (· exact rfl); intro w' hS)
            exact ⟨rfl, hS.toKeep⟩
end Go.Proofs.Ytgblmkpfkcibiaa

namespace Go.Proofs.Ytgblmkpfkcibiaa
open Go.Hb
attribute [local irreducible] LR CW At Ev thn blk finK noG again CallsTo DW QL dnext TW DP
set_option linter.unusedSimpArgs false
set_option linter.unusedVariables false
set_option maxRecDepth 100000

theorem opn_u64 : Opn Try.prog 56 (fun _ cs => ∃ x : BitVec 64, cs = [.int .u64 (U64 x)]) := (opn_int Try.underlying56).mono fun w cs ⟨n, h1, h2⟩ => by
  have hb := bounds_u64 h2
  refine ⟨BitVec.ofInt 64 n, ?_⟩
  rw [h1]
  have e : U64 (BitVec.ofInt 64 n) = n := by
    unfold U64
    rw [BitVec.toNat_ofInt]
    omega
  rw [e]
theorem bits_of : ∀ (css : List (List Value)), (∀ c ∈ css, ∃ x : BitVec 64, c = [.int .u64 (U64 x)]) → ∃ l : List (BitVec 64), css.flatten = uv l ∧ l.length = css.length
  | [], _ => ⟨[], rfl, rfl⟩
  | c :: r, h => by
    obtain ⟨n, rfl⟩ := h c List.mem_cons_self
    obtain ⟨l, h1, h2⟩ := bits_of r fun c hc => h c (List.mem_cons_of_mem _ hc)
    exact ⟨n :: l, by rw [List.flatten_cons, h1]; rfl, by simp [h2]⟩
theorem opn_bits : Opn Try.prog 55 (fun w cs => ∃ (a : Option Addr) (c : Nat) (l : List (BitVec 64)), cs = [.slice a l.length c] ∧ Rd w a (uv l) ∧ True ∧ (a = none → c = 0) ∧ l.length ≤ c ∧ l.length ≤ 17592186043904) := by
  refine (opn_slice Try.underlying55 (sz := 1) (by_ := 8) (by kernel_rfl) (by omega) (by kernel_rfl) opn_u64).mono ?_
  rintro w cs ⟨a, len, cap, css, rfl, rfl, hg, hr, hz, hc, hm⟩
  obtain ⟨l, h1, h2⟩ := bits_of css fun c hc => (hg c hc).1
  rw [h1] at hr
  have hm : css.length * 8 ≤ 140737488351232 := hm
  exact ⟨a, cap, l, by rw [h2], hr, trivial, hz, by omega, by omega⟩
end Go.Proofs.Ytgblmkpfkcibiaa

namespace Go.Proofs.Ytgblmkpfkcibiaa
open Go.Hb Go.ChangeShapes Go.WideShapes
attribute [local irreducible] LR CW At Ev thn blk finK noG again CallsTo DW QL dnext
set_option linter.unusedSimpArgs false
set_option linter.unusedVariables false

set_option maxHeartbeats 1000000 in
set_option maxRecDepth 100000 in
theorem regainSame_lifted (os : Os) (started : os.Started) (H : Type) (enc : TypeId × Value → H) :
    ReturnsInHanded {} Try.checked os 10 .any (Rows.regainSameSpec.pre6 enc Try.prog Try.f10 Rows.regainSameRow.domain false) (Rows.regainSameSpec.post enc Try.prog Try.f10 false true false false) := by
  refine returnsInHanded_of_change_sized (C := Try.checked) (s := Rows.regainSameSpec) own_knob started (by kernel_rfl) Try.func10
    (ChangeSpec.witness6 (enc := enc) (C := Try.checked) false ⟨#[], #[.slice none 0 0, .int .i64 0, .slice none 0 0], []⟩ 12 (by kernel_rfl) (by kernel_rfl) (by kernel_rfl) (by kernel_rfl)) ?_
  intro W base args ds gs before hval hW hcnd hwt _
  have hW' := hW
  obtain ⟨p, q, hA0, hV, rfl, hfz, hnd⟩ := hW'
  obtain ⟨rfl, rfl⟩ := trodVars_none hV
  have hA : DataW.TrodAll enc Try.prog W 0 (fun _ => true) true Try.f10.params.toList args.toList ds p := hA0
  rw [Try.params10] at hA
  obtain ⟨v0, vs0, d0, ds0, p0, q0, hargs, rfl, rfl, h0, r0⟩ := trodAll_cons hA
  obtain ⟨v1, vs1, d1, ds1, p1, q1, rfl, rfl, rfl, h1, r1⟩ := trodAll_cons r0
  obtain ⟨v2, vs2, d2, ds2, p2, q2, rfl, rfl, rfl, h2, r2⟩ := trodAll_cons r1
  obtain ⟨rfl, rfl, rfl⟩ := trodAll_nil r2
  obtain rfl : args = #[v0, v1, v2] := by cases args; simp_all
  obtain ⟨a0, c0, l0, hcs0, hr0, hb0, hz0, hc0, hm0⟩ := opn_arg (i := 0) opn_bits h0 hwt rfl rfl
  obtain ⟨b0, n0, e0, rfl⟩ := okWide_slice Try.underlying55 (hval 0 55 v0 rfl rfl)
  have hcs0 : [Value.slice b0 n0 e0] = [.slice a0 l0.length c0] := hcs0
  simp only [List.cons.injEq, Value.slice.injEq, and_true] at hcs0
  obtain ⟨e10, e20, e30⟩ := hcs0
  have e10 := e10.symm
  have e30 := e30.symm
  subst e10; subst e20; subst e30
  obtain ⟨x1, hcs1, hb1⟩ := opn_arg (i := 1) opn_i64 h1 hwt rfl rfl
  obtain ⟨y1, rfl⟩ := okWide_int Try.underlying3 (hval 1 3 v1 rfl rfl)
  have hcs1 : [Value.int .i64 y1] = [.int .i64 x1] := hcs1
  simp only [List.cons.injEq, Value.int.injEq, true_and, and_true] at hcs1
  have hcs1 := hcs1.symm
  subst hcs1
  obtain ⟨a2, c2, l2, hcs2, hr2, hb2, hz2, hc2, hm2⟩ := opn_arg (i := 2) opn_ints h2 hwt rfl rfl
  obtain ⟨b2, n2, e2, rfl⟩ := okWide_slice Try.underlying22 (hval 2 22 v2 rfl rfl)
  have hcs2 : [Value.slice b2 n2 e2] = [.slice a2 l2.length c2] := hcs2
  simp only [List.cons.injEq, Value.slice.injEq, and_true] at hcs2
  obtain ⟨e12, e22, e32⟩ := hcs2
  have e12 := e12.symm
  have e32 := e32.symm
  subst e12; subst e22; subst e32
  refine (g10 a0 c0 l0 x1 a2 c2 l2 W hr0 hr2 (by omega) (by omega)).calls fun v W' ⟨hv, hg⟩ => ⟨v, rfl, ?_⟩
  subst hv
  exact law_post kids full_slices hW hg rfl rfl (by kernel_rfl) Try.underlying4 (by rw [Try.params10]; decide +kernel)

theorem regainSame_holds : Rows.RegainSameSaid :=
  OpenClaim.holds_of_wide 10 Try.f10 rfl rfl rfl rfl rfl rfl rfl ⟨rfl, rfl, rfl, rfl, rfl⟩ rfl rfl rfl rfl rfl (by kernel_rfl) Try.func10 (by kernel_rfl)
    (of_decide_eq_true (by kernel_rfl)) (by unfold Func.isWrapper; first | (rw [if_pos (by decide +kernel)]; kernel_rfl) | (rw [if_neg (by decide +kernel)]; exact ⟨rfl, rfl⟩))
    (fun os started H enc _ => regainSame_lifted os started H enc)
end Go.Proofs.Ytgblmkpfkcibiaa
