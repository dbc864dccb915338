/-
  The law that gates of both play the same.
-/
import Derived.Test.YtphcnaafhcfakaaB6
import Derived.Test.YtphcnaafhcfakaaHb14
-- all by hand
namespace Go.Proofs.Ytphcnaafhcfakaa
open Go.Hb Go.ChangeShapes Go.WideShapes
attribute [local irreducible] LR CW At Ev thn blk finK noG again CallsTo DW QL dnext TW
set_option linter.unusedSimpArgs false
set_option linter.unusedVariables false
set_option maxRecDepth 100000

structure DooA where
  d : Doo
  a : Option Addr
  c : Nat
  ak : Option Addr
  ck : Nat
def DooA.row (x : DooA) : List Value := x.d.cells x.a x.c x.ak x.ck
theorem DooA.row_len (x : DooA) : x.row.length = 23 := rfl
structure DooR (w : World) (x : DooA) : Prop where
  hr : Rd w x.a (bv x.d.x.m.body)
  hz : x.a = none → x.c = 0
  hm : x.d.x.m.body.length ≤ 140737488351232
  hb : Byt x.d.x.m.body
  hp : plcI x.d.x.p
  hrk : Rd w x.ak (pcs x.d.ps)
  hmk : x.d.ps.length ≤ 281474976710656
  hik : plcsI x.d.ps
  hi : MsgI x.d.x.m ∧ i64 x.d.kind ∧ i64 x.d.x.k.t ∧ i64 x.d.x.k.s ∧ i64 x.d.x.k.r ∧ i64 x.d.x.k.q

set_option maxHeartbeats 4000000 in
theorem g9 (node : Int) (al : Option Addr) (cl : Nat) (l : List DooA) (w : World) (hr : Rd w al (l.flatMap DooA.row)) (hR : ∀ x ∈ l, DooR w x) (hm : l.length ≤ 140737488351232) :
    CallsTo Try.prog 9 [.int .i64 node, .slice al l.length cl] w fun v w' => v = .bool true ∧ Grew w w' := by
  refine go_in (n := 53) (St.rd1 hr) Try.func9 rfl rfl ?_
  by_cases hnode : 1 ≤ node ∧ node ≤ 8
  · repeat' (
      first
      | (
        first
        | (apply kp; iterate 2 exact rfl)
        | apply ja | apply jb | apply jg | apply jj | (apply je; exact rfl) | (apply jf; exact rfl) | apply jd | apply jh | apply ji | (apply jc; kernel_rfl) | apply jk | apply jl | apply jm | apply jn | apply jo | (apply jp; exact rfl) | apply jq | apply jr | apply js | apply jt | apply ju | apply jv | apply jw | apply kN | apply kM
        | (apply kf; iterate 2 exact rfl)
        | (apply ko; (· exact rfl); (· repeat (first | exact mH _ _ | apply mT)); iterate 2 exact rfl)
        | (apply ka; (· exact rfl); (· repeat (first | exact mH _ _ | apply mT)); iterate 2 exact rfl)
        | (apply kr; (· exact rfl); (· repeat (first | exact mH _ _ | apply mT)); iterate 3 exact rfl)
        | (apply ks; (· exact rfl); (· repeat (first | exact mH _ _ | apply mT)); iterate 2 exact rfl)
        | (apply kn; iterate 2 exact rfl)
        | (apply ke; iterate 2 exact rfl)
        | (apply kx; iterate 2 exact rfl)
        | (apply kc; iterate 2 exact rfl)
        | (apply kb; iterate 2 exact rfl)
        | (apply kg; iterate 2 exact rfl)
        | (apply kG; iterate 3 exact rfl)
        | (apply kB; (iterate 2 exact rfl); intro _)
        | (apply kA; exact rfl; intro _)
        | (apply kL; (iterate 3 exact rfl); (· repeat (first | exact BS.nil _ | (apply BS.int; exact rfl) | (apply BS.ptr; exact rfl) | (apply BS.slice; exact rfl) | (apply BS.agg; iterate 2 exact rfl))); intro _)
        | (apply kT; (iterate 2 exact rfl); (· repeat (first | exact sH _ _ _ | apply sT)); iterate 2 exact rfl)
        | (apply kS; (iterate 2 exact rfl); (· repeat (first | exact sH _ _ _ | apply sT)); exact rfl)
        | (apply kh; (iterate 2 exact rfl); (first | decide | omega); exact rfl)
        | (apply kl; (iterate 2 exact rfl); (first | decide | omega); exact rfl)
        )
      | ((first | (apply kR; (· exact rfl); (· exact rfl)) | (apply kQ; (· exact rfl))); all_goals (intro hc; try simp only [decide_eq_true_eq, decide_eq_false_iff_not, Bool.not_eq_true', Bool.not_eq_false', Bool.not_eq_true, Bool.not_eq_false, Bool.not_true, Bool.not_false, Int.not_lt, Int.not_le, List.cons.injEq, and_true, beq_iff_eq, beq_eq_false_iff_ne] at hc; try (exfalso; first | contradiction | omega)))
      )
    apply LR.call
    · exact rfl
    intro w1 h1
    have hh := g31 node w1 hnode
    skip
    refine CallsTo.mono hh ?_
    clear hh
    rintro v w2 ⟨bg, rfl, hn⟩
    have h2 := h1.got hn (Asrt.dep_own _ _)
    refine LR.back h2 ?_
    clear h2 h1
    repeat' (
      first
      | (
        first
        | (apply kp; iterate 2 exact rfl)
        | apply ja | apply jb | apply jg | apply jj | (apply je; exact rfl) | (apply jf; exact rfl) | apply jd | apply jh | apply ji | (apply jc; kernel_rfl) | apply jk | apply jl | apply jm | apply jn | apply jo | (apply jp; exact rfl) | apply jq | apply jr | apply js | apply jt | apply ju | apply jv | apply jw | apply kN | apply kM
        | (apply kf; iterate 2 exact rfl)
        | (apply ko; (· exact rfl); (· repeat (first | exact mH _ _ | apply mT)); iterate 2 exact rfl)
        | (apply ka; (· exact rfl); (· repeat (first | exact mH _ _ | apply mT)); iterate 2 exact rfl)
        | (apply kr; (· exact rfl); (· repeat (first | exact mH _ _ | apply mT)); iterate 3 exact rfl)
        | (apply ks; (· exact rfl); (· repeat (first | exact mH _ _ | apply mT)); iterate 2 exact rfl)
        | (apply kn; iterate 2 exact rfl)
        | (apply ke; iterate 2 exact rfl)
        | (apply kx; iterate 2 exact rfl)
        | (apply kc; iterate 2 exact rfl)
        | (apply kb; iterate 2 exact rfl)
        | (apply kg; iterate 2 exact rfl)
        | (apply kG; iterate 3 exact rfl)
        | (apply kB; (iterate 2 exact rfl); intro _)
        | (apply kA; exact rfl; intro _)
        | (apply kL; (iterate 3 exact rfl); (· repeat (first | exact BS.nil _ | (apply BS.int; exact rfl) | (apply BS.ptr; exact rfl) | (apply BS.slice; exact rfl) | (apply BS.agg; iterate 2 exact rfl))); intro _)
        | (apply kT; (iterate 2 exact rfl); (· repeat (first | exact sH _ _ _ | apply sT)); iterate 2 exact rfl)
        | (apply kS; (iterate 2 exact rfl); (· repeat (first | exact sH _ _ _ | apply sT)); exact rfl)
        | (apply kh; (iterate 2 exact rfl); (first | decide | omega); exact rfl)
        | (apply kl; (iterate 2 exact rfl); (first | decide | omega); exact rfl)
        )
      | ((first | (apply kR; (· exact rfl); (· exact rfl)) | (apply kQ; (· exact rfl))); all_goals (intro hc; try simp only [decide_eq_true_eq, decide_eq_false_iff_not, Bool.not_eq_true', Bool.not_eq_false', Bool.not_eq_true, Bool.not_eq_false, Bool.not_true, Bool.not_false, Int.not_lt, Int.not_le, List.cons.injEq, and_true, beq_iff_eq, beq_eq_false_iff_ne] at hc; try (exfalso; first | contradiction | omega)))
      )
    apply LR.call
    · exact rfl
    intro w1 h1
    have hh := g39 node w1 hnode
    skip
    refine CallsTo.mono hh ?_
    clear hh
    rintro v w2 ⟨br, rfl, hn⟩
    have h2 := h1.got hn (Asrt.dep_own _ _)
    refine LR.back h2 ?_
    clear h2 h1
    repeat' (
      first
      | (
        first
        | (apply kp; iterate 2 exact rfl)
        | apply ja | apply jb | apply jg | apply jj | (apply je; exact rfl) | (apply jf; exact rfl) | apply jd | apply jh | apply ji | (apply jc; kernel_rfl) | apply jk | apply jl | apply jm | apply jn | apply jo | (apply jp; exact rfl) | apply jq | apply jr | apply js | apply jt | apply ju | apply jv | apply jw | apply kN | apply kM
        | (apply kf; iterate 2 exact rfl)
        | (apply ko; (· exact rfl); (· repeat (first | exact mH _ _ | apply mT)); iterate 2 exact rfl)
        | (apply ka; (· exact rfl); (· repeat (first | exact mH _ _ | apply mT)); iterate 2 exact rfl)
        | (apply kr; (· exact rfl); (· repeat (first | exact mH _ _ | apply mT)); iterate 3 exact rfl)
        | (apply ks; (· exact rfl); (· repeat (first | exact mH _ _ | apply mT)); iterate 2 exact rfl)
        | (apply kn; iterate 2 exact rfl)
        | (apply ke; iterate 2 exact rfl)
        | (apply kx; iterate 2 exact rfl)
        | (apply kc; iterate 2 exact rfl)
        | (apply kb; iterate 2 exact rfl)
        | (apply kg; iterate 2 exact rfl)
        | (apply kG; iterate 3 exact rfl)
        | (apply kB; (iterate 2 exact rfl); intro _)
        | (apply kA; exact rfl; intro _)
        | (apply kL; (iterate 3 exact rfl); (· repeat (first | exact BS.nil _ | (apply BS.int; exact rfl) | (apply BS.ptr; exact rfl) | (apply BS.slice; exact rfl) | (apply BS.agg; iterate 2 exact rfl))); intro _)
        | (apply kT; (iterate 2 exact rfl); (· repeat (first | exact sH _ _ _ | apply sT)); iterate 2 exact rfl)
        | (apply kS; (iterate 2 exact rfl); (· repeat (first | exact sH _ _ _ | apply sT)); exact rfl)
        | (apply kh; (iterate 2 exact rfl); (first | decide | omega); exact rfl)
        | (apply kl; (iterate 2 exact rfl); (first | decide | omega); exact rfl)
        )
      | ((first | (apply kR; (· exact rfl); (· exact rfl)) | (apply kQ; (· exact rfl))); all_goals (intro hc; try simp only [decide_eq_true_eq, decide_eq_false_iff_not, Bool.not_eq_true', Bool.not_eq_false', Bool.not_eq_true, Bool.not_eq_false, Bool.not_true, Bool.not_false, Int.not_lt, Int.not_le, List.cons.injEq, and_true, beq_iff_eq, beq_eq_false_iff_ne] at hc; try (exfalso; first | contradiction | omega)))
      )
    apply CW.loop [4, 9, 30, 31, 32, 33, 34, 35, 36, 37, 38, 39, 40, 41, 42, 43, 44, 45, 46, 47, 48, 49, 50, 51] (fun s : Nat × Gt => s.1 ≤ l.length ∧ s.2.node = node) (fun s => [(9, Value.int .i64 (s.1 : Int))]) (fun s => St w NoF [gO 111 br s.2, gO 95 bg s.2, rdA al (l.flatMap DooA.row)]) (fun s => l.length - s.1)
    · exact fun w' hw' => ⟨(0, newG node), ⟨by simp, rfl⟩, ⟨rfl, trivial⟩, hw'⟩
    rintro ⟨i, G⟩ g ⟨hi, hG⟩
    simp only at hi hG ⊢
    by_cases hlt : i < l.length ∧ i < 150
    · obtain ⟨hl, h150⟩ := hlt
      obtain ⟨ba, oa, rfl⟩ := hr.form (rows_ne DooA.row_len (by omega) hl)
      have hx := hR _ (List.getElem_mem hl)
      repeat' (
        first
        | (
          first
          | (apply kp; iterate 2 exact rfl)
          | apply ja | apply jb | apply jg | apply jj | (apply je; exact rfl) | (apply jf; exact rfl) | apply jd | apply jh | apply ji | (apply jc; kernel_rfl) | apply jk | apply jl | apply jm | apply jn | apply jo | (apply jp; exact rfl) | apply jq | apply jr | apply js | apply jt | apply ju | apply jv | apply jw | apply kN | apply kM
          | (apply kf; iterate 2 exact rfl)
          | (apply ko; (· exact rfl); (· repeat (first | exact mH _ _ | apply mT)); iterate 2 exact rfl)
          | (apply ka; (· exact rfl); (· repeat (first | exact mH _ _ | apply mT)); iterate 2 exact rfl)
          | (apply kr; (· exact rfl); (· repeat (first | exact mH _ _ | apply mT)); iterate 3 exact rfl)
          | (apply ks; (· exact rfl); (· repeat (first | exact mH _ _ | apply mT)); iterate 2 exact rfl)
          | (apply kn; iterate 2 exact rfl)
          | (apply ke; iterate 2 exact rfl)
          | (apply kx; iterate 2 exact rfl)
          | (apply kc; iterate 2 exact rfl)
          | (apply kb; iterate 2 exact rfl)
          | (apply kg; iterate 2 exact rfl)
          | (apply kG; iterate 3 exact rfl)
          | (apply kB; (iterate 2 exact rfl); intro _)
          | (apply kA; exact rfl; intro _)
          | (apply kL; (iterate 3 exact rfl); (· repeat (first | exact BS.nil _ | (apply BS.int; exact rfl) | (apply BS.ptr; exact rfl) | (apply BS.slice; exact rfl) | (apply BS.agg; iterate 2 exact rfl))); intro _)
          | (apply kT; (iterate 2 exact rfl); (· repeat (first | exact sH _ _ _ | apply sT)); iterate 2 exact rfl)
          | (apply kS; (iterate 2 exact rfl); (· repeat (first | exact sH _ _ _ | apply sT)); exact rfl)
          | (apply kh; (iterate 2 exact rfl); (first | decide | omega); exact rfl)
          | (apply kl; (iterate 2 exact rfl); (first | decide | omega); exact rfl)
          )
        | (apply LR.ev; (· apply Ev.indexAddr; (· exact rfl); (· exact rfl); (· first | omega | (dsimp only; omega)); (· first | omega | (dsimp only; omega))); (· exact rfl))
        | (apply LR.ev; (· apply Ev.load_agg_at (cs := l[i].row); (· exact rfl); (· exact rfl); (· intro w' hw'; exact rd_row DooA.row_len (hw'.rd_of (by (repeat (first | exact mH _ _ | apply mT)))) hl (by simp))); (· exact rfl))
        | ((first | (apply kR; (· exact rfl); (· exact rfl)) | (apply kQ; (· exact rfl))); all_goals (intro hc; try simp only [decide_eq_true_eq, decide_eq_false_iff_not, Bool.not_eq_true', Bool.not_eq_false', Bool.not_eq_true, Bool.not_eq_false, Bool.not_true, Bool.not_false, Int.not_lt, Int.not_le, List.cons.injEq, and_true, beq_iff_eq, beq_eq_false_iff_ne] at hc; try (exfalso; first | contradiction | omega)))
        )
      apply LR.call
      · exact rfl
      intro w1 h1
      have h2 := (front h1 1 rfl rfl).join rfl rfl
      have hh := g40 bg br G l[i].d l[i].a l[i].c l[i].ak l[i].ck w1 h2.g0 (by omega) (h1.oldRd hx.hr) hx.hz (by have := hx.hm; omega) hx.hb hx.hp (h2.oldApart (mH _ _) rfl hx.hr) (h1.oldRd hx.hrk) hx.hmk hx.hik (h2.oldApart (mH _ _) rfl hx.hrk)
      refine CallsTo.mono (show CallsTo Try.prog 40 [.pointer (some ⟨bg, 0, none⟩), .pointer (some ⟨br, 0, none⟩), l[i].d.val l[i].a l[i].c l[i].ak l[i].ck] w1 _ from hh) ?_
      rintro v w2 ⟨rfl, st⟩
      have h3 := ((h2.did (sH _ _ _) rfl st (both_dep (Asrt.dep_own _ _) (Asrt.dep_own _ _))).part (Asrt.dep_own _ _) (Asrt.dep_own _ _)).swap
      refine LR.back h3 ?_
      clear h3 h2 h1 hh st
      repeat' (
        first
        | (
          first
          | (apply kp; iterate 2 exact rfl)
          | apply ja | apply jb | apply jg | apply jj | (apply je; exact rfl) | (apply jf; exact rfl) | apply jd | apply jh | apply ji | (apply jc; kernel_rfl) | apply jk | apply jl | apply jm | apply jn | apply jo | (apply jp; exact rfl) | apply jq | apply jr | apply js | apply jt | apply ju | apply jv | apply jw | apply kN | apply kM
          | (apply kf; iterate 2 exact rfl)
          | (apply ko; (· exact rfl); (· repeat (first | exact mH _ _ | apply mT)); iterate 2 exact rfl)
          | (apply ka; (· exact rfl); (· repeat (first | exact mH _ _ | apply mT)); iterate 2 exact rfl)
          | (apply kr; (· exact rfl); (· repeat (first | exact mH _ _ | apply mT)); iterate 3 exact rfl)
          | (apply ks; (· exact rfl); (· repeat (first | exact mH _ _ | apply mT)); iterate 2 exact rfl)
          | (apply kn; iterate 2 exact rfl)
          | (apply ke; iterate 2 exact rfl)
          | (apply kx; iterate 2 exact rfl)
          | (apply kc; iterate 2 exact rfl)
          | (apply kb; iterate 2 exact rfl)
          | (apply kg; iterate 2 exact rfl)
          | (apply kG; iterate 3 exact rfl)
          | (apply kB; (iterate 2 exact rfl); intro _)
          | (apply kA; exact rfl; intro _)
          | (apply kL; (iterate 3 exact rfl); (· repeat (first | exact BS.nil _ | (apply BS.int; exact rfl) | (apply BS.ptr; exact rfl) | (apply BS.slice; exact rfl) | (apply BS.agg; iterate 2 exact rfl))); intro _)
          | (apply kT; (iterate 2 exact rfl); (· repeat (first | exact sH _ _ _ | apply sT)); iterate 2 exact rfl)
          | (apply kS; (iterate 2 exact rfl); (· repeat (first | exact sH _ _ _ | apply sT)); exact rfl)
          | (apply kh; (iterate 2 exact rfl); (first | decide | omega); exact rfl)
          | (apply kl; (iterate 2 exact rfl); (first | decide | omega); exact rfl)
          )
        | (apply LR.ev; (· apply Ev.add; (· exact rfl); (· exact rfl); (· first | omega | (dsimp only; omega)); (· first | omega | (dsimp only; omega))); (· exact rfl))
        | ((first | (apply kR; (· exact rfl); (· exact rfl)) | (apply kQ; (· exact rfl))); all_goals (intro hc; try simp only [decide_eq_true_eq, decide_eq_false_iff_not, Bool.not_eq_true', Bool.not_eq_false', Bool.not_eq_true, Bool.not_eq_false, Bool.not_true, Bool.not_false, Int.not_lt, Int.not_le, List.cons.injEq, and_true, beq_iff_eq, beq_eq_false_iff_ne] at hc; try (exfalso; first | contradiction | omega)))
        )
      apply At.again (i + 1, stepS G l[i].d) ⟨by show i + 1 ≤ _; omega, by show (stepS G l[i].d).node = _; rw [stepS_node]; exact hG⟩
      · (repeat (first | exact Out.refl _ _ | exact Out.mix | (apply Out.upd; (· exact rfl)) | (apply Out.updL; (· exact rfl)) | (apply Out.mixs; (· exact rfl))))
      · exact ⟨rfl, trivial⟩
      · exact fun w' hw' => hw'
      · show l.length - (i + 1) < l.length - i; omega
    · repeat' (
        first
        | (
          first
          | (apply kp; iterate 2 exact rfl)
          | apply ja | apply jb | apply jg | apply jj | (apply je; exact rfl) | (apply jf; exact rfl) | apply jd | apply jh | apply ji | (apply jc; kernel_rfl) | apply jk | apply jl | apply jm | apply jn | apply jo | (apply jp; exact rfl) | apply jq | apply jr | apply js | apply jt | apply ju | apply jv | apply jw | apply kN | apply kM
          | (apply kf; iterate 2 exact rfl)
          | (apply ko; (· exact rfl); (· repeat (first | exact mH _ _ | apply mT)); iterate 2 exact rfl)
          | (apply ka; (· exact rfl); (· repeat (first | exact mH _ _ | apply mT)); iterate 2 exact rfl)
          | (apply kr; (· exact rfl); (· repeat (first | exact mH _ _ | apply mT)); iterate 3 exact rfl)
          | (apply ks; (· exact rfl); (· repeat (first | exact mH _ _ | apply mT)); iterate 2 exact rfl)
          | (apply kn; iterate 2 exact rfl)
          | (apply ke; iterate 2 exact rfl)
          | (apply kx; iterate 2 exact rfl)
          | (apply kc; iterate 2 exact rfl)
          | (apply kb; iterate 2 exact rfl)
          | (apply kg; iterate 2 exact rfl)
          | (apply kG; iterate 3 exact rfl)
          | (apply kB; (iterate 2 exact rfl); intro _)
          | (apply kA; exact rfl; intro _)
          | (apply kL; (iterate 3 exact rfl); (· repeat (first | exact BS.nil _ | (apply BS.int; exact rfl) | (apply BS.ptr; exact rfl) | (apply BS.slice; exact rfl) | (apply BS.agg; iterate 2 exact rfl))); intro _)
          | (apply kT; (iterate 2 exact rfl); (· repeat (first | exact sH _ _ _ | apply sT)); iterate 2 exact rfl)
          | (apply kS; (iterate 2 exact rfl); (· repeat (first | exact sH _ _ _ | apply sT)); exact rfl)
          | (apply kh; (iterate 2 exact rfl); (first | decide | omega); exact rfl)
          | (apply kl; (iterate 2 exact rfl); (first | decide | omega); exact rfl)
          )
        | (apply kq; (· exact rfl); (· intro w1 h1; exact CallsTo.q (g30 w1) h1))
        | ((first | (apply kR; (· exact rfl); (· exact rfl)) | (apply kQ; (· exact rfl))); all_goals (intro hc; try simp only [decide_eq_true_eq, decide_eq_false_iff_not, Bool.not_eq_true', Bool.not_eq_false', Bool.not_eq_true, Bool.not_eq_false, Bool.not_true, Bool.not_false, Int.not_lt, Int.not_le, List.cons.injEq, and_true, beq_iff_eq, beq_eq_false_iff_ne] at hc; try (exfalso; first | contradiction | omega)))
        )
      all_goals (
        (apply ret1; (· exact rfl); intro w' hS)
        exact ⟨rfl, hS.toKeep⟩)
  · repeat' (
      first
      | (
        first
        | (apply kp; iterate 2 exact rfl)
        | apply ja | apply jb | apply jg | apply jj | (apply je; exact rfl) | (apply jf; exact rfl) | apply jd | apply jh | apply ji | (apply jc; kernel_rfl) | apply jk | apply jl | apply jm | apply jn | apply jo | (apply jp; exact rfl) | apply jq | apply jr | apply js | apply jt | apply ju | apply jv | apply jw | apply kN | apply kM
        | (apply kf; iterate 2 exact rfl)
        | (apply ko; (· exact rfl); (· repeat (first | exact mH _ _ | apply mT)); iterate 2 exact rfl)
        | (apply ka; (· exact rfl); (· repeat (first | exact mH _ _ | apply mT)); iterate 2 exact rfl)
        | (apply kr; (· exact rfl); (· repeat (first | exact mH _ _ | apply mT)); iterate 3 exact rfl)
        | (apply ks; (· exact rfl); (· repeat (first | exact mH _ _ | apply mT)); iterate 2 exact rfl)
        | (apply kn; iterate 2 exact rfl)
        | (apply ke; iterate 2 exact rfl)
        | (apply kx; iterate 2 exact rfl)
        | (apply kc; iterate 2 exact rfl)
        | (apply kb; iterate 2 exact rfl)
        | (apply kg; iterate 2 exact rfl)
        | (apply kG; iterate 3 exact rfl)
        | (apply kB; (iterate 2 exact rfl); intro _)
        | (apply kA; exact rfl; intro _)
        | (apply kL; (iterate 3 exact rfl); (· repeat (first | exact BS.nil _ | (apply BS.int; exact rfl) | (apply BS.ptr; exact rfl) | (apply BS.slice; exact rfl) | (apply BS.agg; iterate 2 exact rfl))); intro _)
        | (apply kT; (iterate 2 exact rfl); (· repeat (first | exact sH _ _ _ | apply sT)); iterate 2 exact rfl)
        | (apply kS; (iterate 2 exact rfl); (· repeat (first | exact sH _ _ _ | apply sT)); exact rfl)
        | (apply kh; (iterate 2 exact rfl); (first | decide | omega); exact rfl)
        | (apply kl; (iterate 2 exact rfl); (first | decide | omega); exact rfl)
        )
      | (apply kq; (· exact rfl); (· intro w1 h1; exact CallsTo.q (g31n node w1 hnode) h1))
      | (apply kq; (· exact rfl); (· intro w1 h1; exact CallsTo.q (g39n node w1 hnode) h1))
      | ((first | (apply kR; (· exact rfl); (· exact rfl)) | (apply kQ; (· exact rfl))); all_goals (intro hc; try simp only [decide_eq_true_eq, decide_eq_false_iff_not, Bool.not_eq_true', Bool.not_eq_false', Bool.not_eq_true, Bool.not_eq_false, Bool.not_true, Bool.not_false, Int.not_lt, Int.not_le, List.cons.injEq, and_true, beq_iff_eq, beq_eq_false_iff_ne] at hc; try (exfalso; first | contradiction | omega)))
      )
    apply CW.loop [4, 9, 30, 31, 32, 33, 34, 35, 36, 37, 38, 39, 40, 41, 42, 43, 44, 45, 46, 47, 48, 49, 50, 51] (fun s : Nat => s = 0) (fun s => [(9, Value.int .i64 0)]) (fun s => St w NoF [rdA al (l.flatMap DooA.row)]) (fun s => 0)
    · exact fun w' hw' => ⟨0, rfl, ⟨rfl, trivial⟩, hw'⟩
    intro s g hs
    repeat' (
      first
      | (
        first
        | (apply kp; iterate 2 exact rfl)
        | apply ja | apply jb | apply jg | apply jj | (apply je; exact rfl) | (apply jf; exact rfl) | apply jd | apply jh | apply ji | (apply jc; kernel_rfl) | apply jk | apply jl | apply jm | apply jn | apply jo | (apply jp; exact rfl) | apply jq | apply jr | apply js | apply jt | apply ju | apply jv | apply jw | apply kN | apply kM
        | (apply kf; iterate 2 exact rfl)
        | (apply ko; (· exact rfl); (· repeat (first | exact mH _ _ | apply mT)); iterate 2 exact rfl)
        | (apply ka; (· exact rfl); (· repeat (first | exact mH _ _ | apply mT)); iterate 2 exact rfl)
        | (apply kr; (· exact rfl); (· repeat (first | exact mH _ _ | apply mT)); iterate 3 exact rfl)
        | (apply ks; (· exact rfl); (· repeat (first | exact mH _ _ | apply mT)); iterate 2 exact rfl)
        | (apply kn; iterate 2 exact rfl)
        | (apply ke; iterate 2 exact rfl)
        | (apply kx; iterate 2 exact rfl)
        | (apply kc; iterate 2 exact rfl)
        | (apply kb; iterate 2 exact rfl)
        | (apply kg; iterate 2 exact rfl)
        | (apply kG; iterate 3 exact rfl)
        | (apply kB; (iterate 2 exact rfl); intro _)
        | (apply kA; exact rfl; intro _)
        | (apply kL; (iterate 3 exact rfl); (· repeat (first | exact BS.nil _ | (apply BS.int; exact rfl) | (apply BS.ptr; exact rfl) | (apply BS.slice; exact rfl) | (apply BS.agg; iterate 2 exact rfl))); intro _)
        | (apply kT; (iterate 2 exact rfl); (· repeat (first | exact sH _ _ _ | apply sT)); iterate 2 exact rfl)
        | (apply kS; (iterate 2 exact rfl); (· repeat (first | exact sH _ _ _ | apply sT)); exact rfl)
        | (apply kh; (iterate 2 exact rfl); (first | decide | omega); exact rfl)
        | (apply kl; (iterate 2 exact rfl); (first | decide | omega); exact rfl)
        )
      | (apply kq; (· exact rfl); (· intro w1 h1; exact CallsTo.q (g30 w1) h1))
      | ((first | (apply kR; (· exact rfl); (· exact rfl)) | (apply kQ; (· exact rfl))); all_goals (intro hc; try simp only [decide_eq_true_eq, decide_eq_false_iff_not, Bool.not_eq_true', Bool.not_eq_false', Bool.not_eq_true, Bool.not_eq_false, Bool.not_true, Bool.not_false, Int.not_lt, Int.not_le, List.cons.injEq, and_true, beq_iff_eq, beq_eq_false_iff_ne] at hc; try (exfalso; first | contradiction | omega)))
      )
    all_goals (
      (apply ret1; (· exact rfl); intro w' hS)
      exact ⟨rfl, hS.toKeep⟩)
theorem opn_item : Opn Try.prog 72 (fun w cs => ∃ (x : Itm) (a : Option Addr) (c : Nat), cs = x.cells a c ∧ Rd w a (bv x.m.body) ∧ Byt x.m.body ∧ (a = none → c = 0) ∧ x.m.body.length ≤ 140737488351232 ∧ plcI x.p ∧ (MsgI x.m ∧ i64 x.k.t ∧ i64 x.k.s ∧ i64 x.k.r ∧ i64 x.k.q)) := by
  refine (opn_struct Try.underlying72).mono fun w cs ⟨hl, h⟩ => ?_
  have hl : cs.length = 21 := hl
  match cs, hl with
  | y0 :: y1 :: y2 :: y3 :: r, hl =>
    have hl : r.length = 17 := by simpa using hl
    obtain ⟨x0, x1, x2, x3, h0, g0, g1, g2, g3⟩ := h 0 _ rfl _ opn_key
    obtain ⟨m, a, c, h1, hr, hb, hz, hm, hi⟩ := h 1 _ rfl _ opn_msg
    obtain ⟨p, h2, hp⟩ := h 2 _ rfl _ opn_plc
    have h0 : [y0, y1, y2, y3] = [Value.int .i64 x0, .int .i64 x1, .int .i64 x2, .int .i64 x3] := h0
    have h1 : r.take 13 = m.cells a c := h1
    have h2 : (r.drop 13).take 4 = p.cells := h2
    have h3 : r = m.cells a c ++ p.cells := by
      rw [← h1, ← h2]
      rw [List.take_of_length_le (l := r.drop 13) (by simp; omega), List.take_append_drop]
    simp only [List.cons.injEq, and_true] at h0
    exact ⟨⟨⟨x0, x1, x2, x3⟩, m, p⟩, a, c, by rw [h0.1, h0.2.1, h0.2.2.1, h0.2.2.2, h3]; rfl, hr, hb, hz, hm, hp, hi, g0, g1, g2, g3⟩
theorem opn_do : Opn Try.prog 87 (fun w cs => ∃ x : DooA, cs = x.row ∧ DooR w x) := by
  refine (opn_struct Try.underlying87).mono fun w cs ⟨hl, h⟩ => ?_
  have hl : cs.length = 23 := hl
  match cs, hl with
  | y0 :: r, hl =>
    have hl : r.length = 22 := by simpa using hl
    obtain ⟨x0, h0, g0⟩ := h 0 _ rfl _ opn_i64
    obtain ⟨x, a, c, h1, hr, hb, hz, hm, hp, hi⟩ := h 1 _ rfl _ opn_item
    obtain ⟨ak, ck, ps, h2, hrk, hik, hzk, hck, hmk⟩ := h 2 _ rfl _ opn_plcs
    have h0 : [y0] = [Value.int .i64 x0] := h0
    have h1 : r.take 21 = x.cells a c := h1
    have h2 : (r.drop 21).take 1 = [.slice ak ps.length ck] := h2
    have h3 : r = x.cells a c ++ [.slice ak ps.length ck] := by
      rw [← h1, ← h2]
      rw [List.take_of_length_le (l := r.drop 21) (by simp; omega), List.take_append_drop]
    simp only [List.cons.injEq, and_true] at h0
    exact ⟨⟨⟨x0, x, ps⟩, a, c, ak, ck⟩, by rw [h0, h3]; rfl, hr, hz, hm, hb, hp, hrk, by show ps.length ≤ _; omega, hik, hi.1, g0, hi.2.1, hi.2.2.1, hi.2.2.2.1, hi.2.2.2.2⟩
theorem opn_dos : Opn Try.prog 80 (fun w cs => ∃ (a : Option Addr) (c : Nat) (l : List DooA), cs = [.slice a l.length c] ∧ Rd w a (l.flatMap DooA.row) ∧ (∀ x ∈ l, DooR w x) ∧ (a = none → c = 0) ∧ l.length ≤ c ∧ l.length ≤ 140737488351232) := by
  refine (opn_slice Try.underlying80 (sz := 23) (by_ := 216) (by kernel_rfl) (by omega) (by kernel_rfl) opn_do).mono ?_
  rintro w cs ⟨a, len, cap, css, rfl, rfl, hg, hr, hz, hc, hm⟩
  obtain ⟨l, h1, h2, h3⟩ := rows_of css fun c hc => (hg c hc).1
  rw [h1] at hr
  have hm : css.length * 216 ≤ 140737488351232 := hm
  exact ⟨a, cap, l, by rw [h2], hr, h3, hz, by omega, by omega⟩
end Go.Proofs.Ytphcnaafhcfakaa
