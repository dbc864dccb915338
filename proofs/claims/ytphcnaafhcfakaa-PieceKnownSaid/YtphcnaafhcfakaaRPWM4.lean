/-
  Split answers as the chapter says: the law.
-/
import Derived.Test.YtphcnaafhcfakaaRPWM3

namespace Go.Proofs.Ytphcnaafhcfakaa
open Go.Hb
attribute [local irreducible] LR CW At Ev thn blk finK noG again CallsTo DW QL dnext TW DP
set_option linter.unusedSimpArgs false
set_option linter.unusedVariables false
set_option maxRecDepth 100000

theorem text_of_check {m : Msg} (h : check m = 0) (hk : m.kind = 1) : 1 ≤ m.parts ∧ m.parts ≤ 5 ∧ 0 ≤ m.part ∧ m.part ≤ m.parts - 1 ∧ m.body.length ≤ 48 := by
  unfold check checkM at h
  split at h
  · cases h
  · split at h
    · rename_i hmb
      unfold mayB kindB at hmb
      rw [if_pos hk] at hmb
      simp only [Bool.and_eq_true] at hmb
      have := hmb.2
      unfold textB at this
      have := of_decide_eq_true this
      exact ⟨this.1, this.2.1, this.2.2.1, this.2.2.2.1, this.2.2.2.2.2.2⟩
    · cases h
theorem joinB_snoc (l : List Msg) (m : Msg) : joinB (l ++ [m]) = joinB l ++ m.body := by simp [joinB]
theorem joinB_len {l : List Msg} (h : ∀ m ∈ l, m.body.length ≤ 48) : (joinB l).length ≤ 48 * l.length := by
  induction l with
  | nil => simp [joinB]
  | cons x r ih =>
    have h1 := ih fun m hm => h m (List.mem_cons_of_mem _ hm)
    have h2 := h x List.mem_cons_self
    simp only [joinB, List.flatMap_cons, List.length_append, List.length_cons] at h1 ⊢
    omega
theorem OkL.mem {k : Int × Int} {l : List Msg} (h : OkL k l) {m : Msg} (hm : m ∈ l) : check m = 0 ∧ m.kind = 1 ∧ kOf m = k := by
  obtain ⟨i, hi⟩ := List.getElem?_of_mem hm
  have := h.at_ i m hi
  exact ⟨this.2.1, this.2.2.1, this.2.2.2⟩
theorem OkL.last {k : Int × Int} {l : List Msg} (h : OkL k l) {x : Msg} (hx : l.getLast? = some x) : x.part + 1 = (l.length : Int) ∧ x ∈ l := by
  have hn : 0 < l.length := List.length_pos_iff.2 h.ne
  have : l[l.length - 1]? = some x := by rw [← List.getLast?_eq_getElem?]; exact hx
  have h1 := h.at_ _ _ this
  exact ⟨by omega, List.mem_of_getElem? this⟩
theorem OkL.len {k : Int × Int} {l : List Msg} (h : OkL k l) : l.length ≤ 5 ∧ (joinB l).length ≤ 240 := by
  have hn : 0 < l.length := List.length_pos_iff.2 h.ne
  have h1 : l[l.length - 1]? = some (l[l.length - 1]'(by omega)) := by simp
  have h2 := h.at_ _ _ h1
  have h3 := text_of_check h2.2.1 h2.2.2.1
  have h4 := joinB_len (l := l) fun m hm => (text_of_check (h.mem hm).1 (h.mem hm).2.1).2.2.2.2
  exact ⟨by omega, by omega⟩
theorem next_goes {k : Int × Int} {l : List Msg} {x m : Msg} (h : OkL k l) (hx : l.getLast? = some x) : nextB x m = goesB l m := by
  obtain ⟨h1, h2⟩ := h.last hx
  cases l with
  | nil => exact absurd rfl h.ne
  | cons y r =>
    obtain ⟨s1, s2, s3, s4⟩ := h.same x y h2 List.mem_cons_self
    unfold nextB goesB
    rw [h1, s1, s2, s3, s4]
    simp only [decide_eq_decide]
    constructor
    · rintro ⟨a, b, c, d, e⟩; exact ⟨b, c, d, e, a⟩
    · rintro ⟨b, c, d, e, a⟩; exact ⟨a, b, c, d, e⟩

/-! ### lists of ways -/
structure WsOk (ws : List WayA) : Prop where
  ok : OkJ (ws.map WayA.kl)
  last : ∀ x ∈ ws, x.l.getLast? = some x.m
theorem St.bun_subS {α : Type} {f : α → Asrt} {w0 w : World} {F : Nat → Prop} {L L' : List Asrt} {l l' : List α} (hd : ∀ x, (f x).dep) (hsel : Sel L (bun f l) (bun f l') L') (hs : l'.Sublist l) (h : St w0 F L w) : St w0 F L' w := by
  obtain ⟨b1, b2, b3⟩ : (bun f l).holds w := h.holds _ hsel.mem
  exact h.turn hsel rfl (St.refl w _) ⟨fun x hx => b1 x (hs.subset hx), b2.sublist hs, fun k ⟨x, hx, hk⟩ => b3 k ⟨x, hs.subset hx, hk⟩⟩ (fun k ⟨x, hx, hk⟩ => .inl ⟨x, hs.subset hx, hk⟩) (bun_dep hd _)
def noK (ws : List WayA) (k : Int × Int) : List WayA := ws.filter fun x => decide (x.k ≠ k)
theorem noK_kv (ws : List WayA) (k : Int × Int) : (ws.map WayA.kv).filter (fun p => decide (p.1 ≠ k)) = (noK ws k).map WayA.kv := by
  rw [noK, List.filter_map]; rfl
theorem noK_kl (ws : List WayA) (k : Int × Int) : restJ (ws.map WayA.kl) k = (noK ws k).map WayA.kl := by
  rw [restJ, noK, List.filter_map]; rfl
theorem WsOk.nd {ws : List WayA} (h : WsOk ws) : ((ws.map WayA.kv).map Prod.fst).Nodup := by
  have := h.ok.nd
  rw [List.map_map] at this ⊢
  exact this
theorem WsOk.noK {ws : List WayA} (h : WsOk ws) (k : Int × Int) : WsOk (noK ws k) := by
  have hs : (Go.Proofs.Ytphcnaafhcfakaa.noK ws k).Sublist ws := List.filter_sublist
  exact ⟨⟨h.ok.nd.sublist ((hs.map _).map _), fun p hp => h.ok.ok p ((hs.map _).subset hp)⟩, fun x hx => h.last x (hs.subset hx)⟩
theorem look_no {ws : List WayA} {k : Int × Int} (h : ∀ x ∈ ws, x.k ≠ k) : lookJ (ws.map WayA.kl) k = none := by
  unfold lookJ
  rw [List.find?_eq_none.2]
  · rfl
  · intro p hp
    obtain ⟨x, hx, rfl⟩ := List.mem_map.1 hp
    simp [WayA.kl, h x hx]
theorem look_yes {p q : List WayA} {x : WayA} (h : WsOk (p ++ x :: q)) : lookJ ((p ++ x :: q).map WayA.kl) x.k = some x.l ∧ noK (p ++ x :: q) x.k = p ++ q := by
  have hnd := h.ok.nd
  rw [List.map_map, List.map_append, List.map_cons, List.nodup_append] at hnd
  obtain ⟨h1, h2, h3⟩ := hnd
  have hp : ∀ y ∈ p, y.k ≠ x.k := fun y hy => h3 _ (List.mem_map.2 ⟨y, hy, rfl⟩) _ List.mem_cons_self
  have hq : ∀ y ∈ q, y.k ≠ x.k := fun y hy e => (List.nodup_cons.1 h2).1 (by rw [show (Prod.fst ∘ WayA.kl) x = (Prod.fst ∘ WayA.kl) y from e.symm]; exact List.mem_map.2 ⟨y, hy, rfl⟩)
  constructor
  · unfold lookJ
    rw [List.map_append, List.map_cons, List.find?_append, List.find?_eq_none.2]
    · simp [WayA.kl]
    · intro z hz
      obtain ⟨y, hy, rfl⟩ := List.mem_map.1 hz
      simp [WayA.kl, hp y hy]
  · unfold noK
    rw [List.filter_append, List.filter_cons_of_neg (by simp), List.filter_eq_self.2 (fun y hy => by simpa using hp y hy), List.filter_eq_self.2 (fun y hy => by simpa using hq y hy)]
theorem ws_split (ws : List WayA) (k : Int × Int) : (∀ x ∈ ws, x.k ≠ k) ∨ ∃ p x q, ws = p ++ x :: q ∧ x.k = k := by
  by_cases h : ∃ x ∈ ws, x.k = k
  · obtain ⟨x, hx, hk⟩ := h
    obtain ⟨p, q, rfl⟩ := List.append_of_mem hx
    exact .inr ⟨p, x, q, rfl, hk⟩
  · exact .inl fun x hx hk => h ⟨x, hx, hk⟩
theorem putJ_bad {A : Jn} {m : Msg} (h : ¬ (check m = 0 ∧ m.kind = 1)) : putJ A m = ⟨A, [], false, 2⟩ := by unfold putJ; rw [if_neg h]
theorem putJ_none {A : Jn} {m : Msg} (h : check m = 0 ∧ m.kind = 1) (hc : contJ A m = none) : putJ A m = ⟨restJ A (kOf m), [], false, 0⟩ := by unfold putJ; rw [if_pos h, hc]
theorem putJ_more {A : Jn} {m : Msg} {l : List Msg} (h : check m = 0 ∧ m.kind = 1) (hc : contJ A m = some l) (hp : (l.length : Int) + 1 < m.parts) : putJ A m = ⟨restJ A (kOf m) ++ [(kOf m, l ++ [m])], [], false, 0⟩ := by unfold putJ; rw [if_pos h, hc]; simp only; rw [if_pos hp]
theorem putJ_whole {A : Jn} {m : Msg} {l : List Msg} (h : check m = 0 ∧ m.kind = 1) (hc : contJ A m = some l) (hp : ¬ (l.length : Int) + 1 < m.parts) : putJ A m = ⟨restJ A (kOf m), joinB (l ++ [m]), true, 0⟩ := by unfold putJ; rw [if_pos h, hc]; simp only; rw [if_neg hp]
theorem cont_len {A : Jn} {m : Msg} {l : List Msg} (hA : OkJ A) (h : check m = 0 ∧ m.kind = 1) (hc : contJ A m = some l) : m.part = (l.length : Int) ∧ OkL (kOf m) (l ++ [m]) := by
  unfold contJ at hc
  have ht := text_of_check h.1 h.2
  split at hc
  · rename_i h0
    cases hc
    refine ⟨h0, ⟨by simp, ?_, ?_⟩⟩
    · intro i x hx
      cases i with
      | zero => simp at hx; subst hx; exact ⟨h0, h.1, h.2, rfl⟩
      | succ i => simp at hx
    · intro x y hx hy
      simp at hx hy
      subst hx; subst hy
      exact ⟨rfl, rfl, rfl, rfl⟩
  · cases hl : lookJ A (kOf m) with
    | none => rw [hl] at hc; cases hc
    | some x =>
      rw [hl] at hc
      simp only [Option.bind_some] at hc
      split at hc
      · rename_i hg
        cases hc
        unfold lookJ at hl
        cases hf : A.find? (fun p => decide (p.1 = kOf m)) with
        | none => rw [hf] at hl; cases hl
        | some p =>
          rw [hf] at hl
          simp only [Option.map_some, Option.some.injEq] at hl
          subst hl
          have hk : p.1 = kOf m := by simpa using List.find?_some hf
          have ho := hA.ok p (List.mem_of_find?_eq_some hf)
          obtain ⟨k, l⟩ := p
          simp only at hk ho hg ⊢
          subst hk
          cases l with
          | nil => exact absurd rfl ho.ne
          | cons y r =>
            unfold goesB at hg
            have hg := of_decide_eq_true hg
            obtain ⟨g1, g2, g3, g4, g5⟩ := hg
            refine ⟨g5, ⟨by simp, ?_, ?_⟩⟩
            · intro i z hz
              rcases Nat.lt_or_ge i (y :: r).length with hlt | hge
              · rw [List.getElem?_append_left hlt] at hz
                exact ho.at_ i z hz
              · rw [List.getElem?_append_right hge] at hz
                have hi : i = (y :: r).length := by
                  rcases Nat.eq_or_lt_of_le hge with e | e
                  · exact e.symm
                  · rw [List.getElem?_eq_none (by simp only [List.length_singleton]; omega)] at hz; cases hz
                subst hi
                rw [Nat.sub_self] at hz
                simp at hz
                subst hz
                exact ⟨g5, h.1, h.2, rfl⟩
            · have key : ∀ z ∈ (y :: r) ++ [m], z.id = y.id ∧ z.parts = y.parts ∧ z.groups = y.groups ∧ z.safe = y.safe := by
                intro z hz
                rcases List.mem_append.1 hz with hz | hz
                · exact ho.same z y hz List.mem_cons_self
                · simp at hz; subst hz; exact ⟨g1, g2, g3, g4⟩
              intro z z' hz hz'
              obtain ⟨a1, a2, a3, a4⟩ := key z hz
              obtain ⟨b1, b2, b3, b4⟩ := key z' hz'
              exact ⟨a1.trans b1.symm, a2.trans b2.symm, a3.trans b3.symm, a4.trans b4.symm⟩
      · cases hc
theorem restJ_ok {A : Jn} (h : OkJ A) (k : Int × Int) : OkJ (restJ A k) := by
  have hs : (restJ A k).Sublist A := List.filter_sublist
  exact ⟨h.nd.sublist (hs.map _), fun p hp => h.ok p (hs.subset hp)⟩
theorem putJ_ok {A : Jn} (hA : OkJ A) (m : Msg) : OkJ (putJ A m).A := by
  by_cases h : check m = 0 ∧ m.kind = 1
  · cases hc : contJ A m with
    | none => rw [putJ_none h hc]; exact restJ_ok hA _
    | some l =>
      by_cases hp : (l.length : Int) + 1 < m.parts
      · rw [putJ_more h hc hp]
        have hR := restJ_ok hA (kOf m)
        refine ⟨?_, ?_⟩
        · rw [List.map_append, List.nodup_append]
          refine ⟨hR.nd, by simp, ?_⟩
          intro a ha b hb
          simp at hb
          subst hb
          obtain ⟨p, hp, rfl⟩ := List.mem_map.1 ha
          have := (List.mem_filter.1 hp).2
          simpa using this
        · intro p hp
          rcases List.mem_append.1 hp with hp | hp
          · exact hR.ok p hp
          · simp at hp; subst hp; exact (cont_len hA h hc).2
      · rw [putJ_whole h hc hp]; exact restJ_ok hA _
  · rw [putJ_bad h]; exact hA
set_option maxHeartbeats 8000000 in
theorem g22 (b r : Nat) (ws : List WayA) (m : Msg) (a : Option Addr) (c : Nat) (w : World) (h : (jO b r ws).holds w) (hok : WsOk ws) (hr : Rd w a (bv m.body)) (hz : a = none → c = 0) (hm : m.body.length ≤ 140737488355328) (hb : Byt m.body) (hd : ∀ k, rdFoot a (bv m.body) k → ¬ (jO b r ws).foot k) :
    CallsTo Try.prog 22 [.pointer (some ⟨b, 0, none⟩), m.val a c] w fun v w' => ∃ pa pc ws', v = .tuple [.slice pa (putJ (ws.map WayA.kl) m).out.length pc, .bool (putJ (ws.map WayA.kl) m).is, .int .i64 (putJ (ws.map WayA.kl) m).e].toArray ∧ ws'.map WayA.kl = (putJ (ws.map WayA.kl) m).A ∧ WsOk ws' ∧
      St w (jO b r ws).foot [jO b r ws', osl (.slice pa (putJ (ws.map WayA.kl) m).out.length pc) 5 1 (putJ (ws.map WayA.kl) m).out.length (bv (putJ (ws.map WayA.kl) m).out)] w' := by
  have hS1 := jO_open (St.one h (both_live h) (jO_dep b r ws))
  have hOk := putJ_ok hok.ok m
  generalize hF : (jO b r ws).foot = F at *
  refine go_in (n := 75) hS1 Try.func22 rfl rfl ?_
  have none0 : ∀ (ws' : List WayA) (R : List Asrt) (w' : World), St w F (jB b r :: jM r ws' :: bunW ws' :: R) w' → St w F [jO b r ws', osl (.slice none 0 0) 5 1 0 (bv [])] w' := fun ws' R w' hS => (((jO_shut hS).sub (L' := [jO b r ws']) (by exact List.Sublist.cons_cons _ (List.nil_sublist _))).nilsl 5 1).swap
  by_cases hg : check m = 0 ∧ m.kind = 1
  · have ht := text_of_check hg.1 hg.2
    obtain ⟨hck, hki⟩ := hg
    have hg : check m = 0 ∧ m.kind = 1 := ⟨hck, hki⟩
    rcases ws_split ws (kOf m) with hno | ⟨p, x, q, rfl, hxk⟩
    · have hlk := look_no hno
      repeat'(first|(apply CW.reg_heldC)|(apply kp;iterate 2 exact rfl)|apply jJ|(apply jE;exact rfl)|(apply jp;exact rfl)|(apply jc;kernel_rfl)|((first|apply kf|apply kn|apply ke|apply kx|apply kc|apply kb);iterate 2 exact rfl)|((first|apply kz|apply ky);(·exact rfl);(·repeat(first|exact iO|exact iR rfl|apply iT));iterate 2 exact rfl)|(apply kg;iterate 2 exact rfl)|(apply kG;iterate 3 exact rfl)|(apply kB;(iterate 2 exact rfl);intro _)|(apply kA;exact rfl;intro _)|(apply kK;(iterate 4 exact rfl);intro _)|(apply kU;(iterate 2 exact rfl);(·repeat(first|exact sH _ _ _|apply sT));(first|exact nfL_eq rfl|exact rfl);exact rfl)|((first|apply kh|apply kl);(iterate 2 exact rfl);(first|decide|omega);exact rfl)|(apply kq; (· exact rfl); (· intro w1 h1; first | exact CallsTo.q (g48 b r w1 (h1.rd_of_blk (by (repeat (first | exact mH _ _ | apply mT))))) h1 | (have hq := CallsTo.q (d17 m a c w1 (h1.oldRdF hr hd) hz hm hb) h1; show CallsTo Try.prog 43 [m.val a c] w1 _; exact hq) | (have hq := CallsTo.q (g49 x.m m x.a a x.c c (.slice x.ba (joinB x.l).length x.bc) w1 (by omega)) h1; rw [next_goes hokx hlx] at hq; show CallsTo Try.prog 49 _ w1 _; exact hq)))|((first|(apply kR;iterate 2 exact rfl)|(apply kQ;exact rfl));all_goals(intro hc;try simp only[hcs]at hc;try(exfalso;first|contradiction|omega))))
      all_goals (
        apply DW.quiet [0, 1, 2, 3, 4, 5, 6, 7, 8]
        · decide +kernel
        · first | exact fun _ h => h | exact fun _ h => St.sub h (by repeat (first | exact List.Sublist.refl _ | apply List.Sublist.cons_cons | apply List.Sublist.cons))
        repeat'(first|(apply yp;iterate 3 exact rfl)|(apply QL.ev;(·exact rfl);(·first|((first|apply Ez|apply Ey);(·exact rfl);(·repeat(first|exact iO|exact iR rfl|apply iT));exact rfl)|((first|apply Ev.fieldAddr|apply Ev.len|apply EqOf.eq|apply EqOf.ne|apply Ev.conv|apply Ev.buildN);exact rfl)|((first|apply Ev.shr|apply Ev.shl);(iterate 2 exact rfl);first|decide|omega));·exact rfl)|(apply QL.ev; (· exact rfl); (· apply Ev.lookup_no (enc := keyV) (ok := okAll) (l := ws.map WayA.kv) (a := kOf m); (· exact rfl); (· exact rfl); (· exact fun w' hw' => hw'.holds (jM r ws) (by (repeat (first | exact mH _ _ | apply mT)))); (· exact fun _ _ => trivial); (· trivial); (· exact fun p hp => by obtain ⟨x, hx, rfl⟩ := List.mem_map.1 hp; exact hno x hx)); (· exact rfl))|(apply yq;iterate 5 exact rfl)|(apply QL.evg;(iterate 3 exact rfl);(·first|((first|apply Ez|apply Ey);(·exact rfl);(·repeat(first|exact iO|exact iR rfl|apply iT));exact rfl)|((first|apply Ev.fieldAddr|apply Ev.len|apply EqOf.eq|apply EqOf.ne|apply Ev.conv|apply Ev.buildN);exact rfl)|((first|apply Ev.shr|apply Ev.shl);(iterate 2 exact rfl);first|decide|omega));·exact rfl)|(apply yn;iterate 4 exact rfl)|((apply QL.split;iterate 3 exact rfl);all_goals(intro hc;try simp only[hcs]at hc;try(exfalso;first|contradiction|omega)))|apply QL.nil)
        all_goals (show DW _ _ _ _ _ _ _ _))
      all_goals (
        apply DW.loud 9
        · exact rfl
        · decide +kernel
        repeat'(first|(apply kg;iterate 2 exact rfl)|(apply kG;iterate 3 exact rfl)|apply kM|(apply kp;iterate 2 exact rfl)|((first|apply kz|apply ky);(·exact rfl);(·repeat(first|exact iO|exact iR rfl|apply iT));iterate 2 exact rfl)|(apply kK;(iterate 4 exact rfl);intro _)|(apply kU;(iterate 2 exact rfl);(·repeat(first|exact sH _ _ _|apply sT));(first|exact nfL_eq rfl|exact rfl);exact rfl)|(apply kB;(iterate 2 exact rfl);intro _)|(apply kA;exact rfl;intro _))
        all_goals (refine At.stage_same (fun _ h => St.sub h (by repeat (first | exact List.Sublist.refl _ | apply List.Sublist.cons_cons | apply List.Sublist.cons))) ?_))
      all_goals (
        apply DW.loud 10
        · exact rfl
        · decide +kernel
        repeat'(first|(apply kg;iterate 2 exact rfl)|(apply kG;iterate 3 exact rfl)|apply kM|(apply kp;iterate 2 exact rfl)|((first|apply kz|apply ky);(·exact rfl);(·repeat(first|exact iO|exact iR rfl|apply iT));iterate 2 exact rfl)|(apply kK;(iterate 4 exact rfl);intro _)|(apply kU;(iterate 2 exact rfl);(·repeat(first|exact sH _ _ _|apply sT));(first|exact nfL_eq rfl|exact rfl);exact rfl)|(apply kB;(iterate 2 exact rfl);intro _)|(apply kA;exact rfl;intro _))
        all_goals (refine At.stage_same (fun _ h => St.sub h (by repeat (first | exact List.Sublist.refl _ | apply List.Sublist.cons_cons | apply List.Sublist.cons))) ?_))
      all_goals (
        apply DW.quiet [11]
        · decide +kernel
        · first | exact fun _ h => h | exact fun _ h => St.sub h (by repeat (first | exact List.Sublist.refl _ | apply List.Sublist.cons_cons | apply List.Sublist.cons))
        repeat'(first|(apply yp;iterate 3 exact rfl)|(apply QL.ev;(·exact rfl);(·first|((first|apply Ez|apply Ey);(·exact rfl);(·repeat(first|exact iO|exact iR rfl|apply iT));exact rfl)|((first|apply Ev.fieldAddr|apply Ev.len|apply EqOf.eq|apply EqOf.ne|apply Ev.conv|apply Ev.buildN);exact rfl)|((first|apply Ev.shr|apply Ev.shl);(iterate 2 exact rfl);first|decide|omega));·exact rfl)|(apply QL.ev; (· exact rfl); (· apply Ev.lookup_no (enc := keyV) (ok := okAll) (l := ws.map WayA.kv) (a := kOf m); (· exact rfl); (· exact rfl); (· exact fun w' hw' => hw'.holds (jM r ws) (by (repeat (first | exact mH _ _ | apply mT)))); (· exact fun _ _ => trivial); (· trivial); (· exact fun p hp => by obtain ⟨x, hx, rfl⟩ := List.mem_map.1 hp; exact hno x hx)); (· exact rfl))|(apply yq;iterate 5 exact rfl)|(apply QL.evg;(iterate 3 exact rfl);(·first|((first|apply Ez|apply Ey);(·exact rfl);(·repeat(first|exact iO|exact iR rfl|apply iT));exact rfl)|((first|apply Ev.fieldAddr|apply Ev.len|apply EqOf.eq|apply EqOf.ne|apply Ev.conv|apply Ev.buildN);exact rfl)|((first|apply Ev.shr|apply Ev.shl);(iterate 2 exact rfl);first|decide|omega));·exact rfl)|(apply yn;iterate 4 exact rfl)|((apply QL.split;iterate 3 exact rfl);all_goals(intro hc;try simp only[hcs]at hc;try(exfalso;first|contradiction|omega)))|apply QL.nil)
        all_goals (show DW _ _ _ _ _ _ _ _))
      all_goals (first | (apply DW.done_thn; (· decide +kernel)) | (apply DW.done; (· decide +kernel)))
      repeat'(first|(apply CW.reg_sinkC 5; (· exact rfl); (· decide +kernel))|(apply kp;iterate 2 exact rfl)|apply jJ|(apply jE;exact rfl)|(apply jp;exact rfl)|(apply jc;kernel_rfl)|((first|apply kf|apply kn|apply ke|apply kx|apply kc|apply kb);iterate 2 exact rfl)|((first|apply kz|apply ky);(·exact rfl);(·repeat(first|exact iO|exact iR rfl|apply iT));iterate 2 exact rfl)|(apply kg;iterate 2 exact rfl)|(apply kG;iterate 3 exact rfl)|(apply kB;(iterate 2 exact rfl);intro _)|(apply kA;exact rfl;intro _)|(apply kK;(iterate 4 exact rfl);intro _)|(apply kU;(iterate 2 exact rfl);(·repeat(first|exact sH _ _ _|apply sT));(first|exact nfL_eq rfl|exact rfl);exact rfl)|((first|apply kh|apply kl);(iterate 2 exact rfl);(first|decide|omega);exact rfl)|((first|(apply kR;iterate 2 exact rfl)|(apply kQ;exact rfl));all_goals(intro hc;try simp only[hcs]at hc;try(exfalso;first|contradiction|omega))))
      all_goals (
        apply DW.quiet [0, 1, 2, 3, 4]
        · decide +kernel
        · first | exact fun _ h => h | exact fun _ h => St.sub h (by repeat (first | exact List.Sublist.refl _ | apply List.Sublist.cons_cons | apply List.Sublist.cons))
        repeat'(first|(apply yp;iterate 3 exact rfl)|(apply QL.ev;(·exact rfl);(·first|((first|apply Ez|apply Ey);(·exact rfl);(·repeat(first|exact iO|exact iR rfl|apply iT));exact rfl)|((first|apply Ev.fieldAddr|apply Ev.len|apply EqOf.eq|apply EqOf.ne|apply Ev.conv|apply Ev.buildN);exact rfl)|((first|apply Ev.shr|apply Ev.shl);(iterate 2 exact rfl);first|decide|omega));·exact rfl)|(exact absurd)|(apply yq;iterate 5 exact rfl)|(apply QL.evg;(iterate 3 exact rfl);(·first|((first|apply Ez|apply Ey);(·exact rfl);(·repeat(first|exact iO|exact iR rfl|apply iT));exact rfl)|((first|apply Ev.fieldAddr|apply Ev.len|apply EqOf.eq|apply EqOf.ne|apply Ev.conv|apply Ev.buildN);exact rfl)|((first|apply Ev.shr|apply Ev.shl);(iterate 2 exact rfl);first|decide|omega));·exact rfl)|(apply yn;iterate 4 exact rfl)|((apply QL.split;iterate 3 exact rfl);all_goals(intro hc;try simp only[hcs]at hc;try(exfalso;first|contradiction|omega)))|apply QL.nil)
        all_goals (show DW _ _ _ _ _ _ _ _))
      all_goals (apply DW.done; (· decide +kernel))
      all_goals apply At.sink
      refine LR.deleteK (enc := keyV) (ok := okAll) (l := ws.map WayA.kv) (a := kOf m) rfl rfl rfl (by (repeat (first | exact sH _ _ _ | apply sT))) (fun _ _ => trivial) hok.nd trivial ?_
      rw [noK_kv]
      repeat'(first|(apply kp;iterate 2 exact rfl)|apply jJ|(apply jE;exact rfl)|(apply jp;exact rfl)|(apply jc;kernel_rfl)|((first|apply kf|apply kn|apply ke|apply kx|apply kc|apply kb);iterate 2 exact rfl)|((first|apply kz|apply ky);(·exact rfl);(·repeat(first|exact iO|exact iR rfl|apply iT));iterate 2 exact rfl)|(apply kg;iterate 2 exact rfl)|(apply kG;iterate 3 exact rfl)|(apply kB;(iterate 2 exact rfl);intro _)|(apply kA;exact rfl;intro _)|(apply kK;(iterate 4 exact rfl);intro _)|(apply kU;(iterate 2 exact rfl);(·repeat(first|exact sH _ _ _|apply sT));(first|exact nfL_eq rfl|exact rfl);exact rfl)|((first|apply kh|apply kl);(iterate 2 exact rfl);(first|decide|omega);exact rfl)|((first|(apply kR;iterate 2 exact rfl)|(apply kQ;exact rfl));all_goals(intro hc;try simp only[hcs]at hc;try(exfalso;first|contradiction|omega))))
      · have hcont : contJ ((ws).map WayA.kl) m = some [] := by unfold contJ; rw [if_pos (by assumption)]
        have hm0 := (cont_len hok.ok hg hcont).1
        have hjl : (joinB (([] : List Msg) ++ [m])).length = m.body.length := by simp [joinB]
        have hjx : bv (joinB (([] : List Msg) ++ [m])) = bv m.body := by simp [joinB]
        refine LR.sub (D := St w F _) (fun w' hw' => St.bun_subS (l := ws) (l' := noK (ws) (kOf m)) WayA.dep (by (repeat (first | exact sH _ _ _ | apply sT))) List.filter_sublist hw') ?_
        refine LR.append_nil (news := bv m.body) (m := m.body.length) rfl rfl (fun w' hw' => hw'.oldRdF hr hd) (fun hx => ⟨hr.none_len hx, hz hx⟩) (by simp) (bv_one _) (by omega) (by unfold maxLen; omega) rfl ?_
        intro a2 c2
        repeat'(first|(apply CW.reg_sinkC 6; (· exact rfl); (· decide +kernel))|(apply kp;iterate 2 exact rfl)|apply jJ|(apply jE;exact rfl)|(apply jp;exact rfl)|(apply jc;kernel_rfl)|((first|apply kf|apply kn|apply ke|apply kx|apply kc|apply kb);iterate 2 exact rfl)|((first|apply kz|apply ky);(·exact rfl);(·repeat(first|exact iO|exact iR rfl|apply iT));iterate 2 exact rfl)|(apply kg;iterate 2 exact rfl)|(apply kG;iterate 3 exact rfl)|(apply kB;(iterate 2 exact rfl);intro _)|(apply kA;exact rfl;intro _)|(apply kK;(iterate 4 exact rfl);intro _)|(apply kU;(iterate 2 exact rfl);(·repeat(first|exact sH _ _ _|apply sT));(first|exact nfL_eq rfl|exact rfl);exact rfl)|((first|apply kh|apply kl);(iterate 2 exact rfl);(first|decide|omega);exact rfl)|(apply subX;(iterate 2 exact rfl);(iterate 2(first|omega|(dsimp only;omega)));exact rfl)|((first|(apply kR;iterate 2 exact rfl)|(apply kQ;exact rfl));all_goals(intro hc;try simp only[hcs]at hc;try(exfalso;first|contradiction|omega))))
        · apply ret3
          · exact rfl
          intro w' hS
          rw [putJ_whole hg hcont (by omega)]
          refine ⟨a2, c2, (noK (ws) (kOf m)), by rw [hjl]; rfl, (noK_kl _ _).symm, hok.noK _, ?_⟩
          show St w F [jO b r (noK (ws) (kOf m)), osl (.slice a2 (joinB (([] : List Msg) ++ [m])).length c2) 5 1 (joinB (([] : List Msg) ++ [m])).length (bv (joinB (([] : List Msg) ++ [m])))] w'
          rw [hjl, hjx]
          exact (jO_shut (front (front (front hS 6 rfl rfl) 6 rfl rfl) 6 rfl rfl)).sub (by repeat (first | exact List.Sublist.refl _ | exact List.nil_sublist _ | apply List.Sublist.cons_cons | apply List.Sublist.cons))
        all_goals (
          apply DW.quiet [0, 1, 2, 3, 4, 5]
          · decide +kernel
          · first | exact fun _ h => h | exact fun _ h => St.sub h (by repeat (first | exact List.Sublist.refl _ | apply List.Sublist.cons_cons | apply List.Sublist.cons))
          repeat'(first|(apply yp;iterate 3 exact rfl)|(apply QL.ev;(·exact rfl);(·first|((first|apply Ez|apply Ey);(·exact rfl);(·repeat(first|exact iO|exact iR rfl|apply iT));exact rfl)|((first|apply Ev.fieldAddr|apply Ev.len|apply EqOf.eq|apply EqOf.ne|apply Ev.conv|apply Ev.buildN);exact rfl)|((first|apply Ev.shr|apply Ev.shl);(iterate 2 exact rfl);first|decide|omega));·exact rfl)|(exact absurd)|(apply yq;iterate 5 exact rfl)|(apply QL.evg;(iterate 3 exact rfl);(·first|((first|apply Ez|apply Ey);(·exact rfl);(·repeat(first|exact iO|exact iR rfl|apply iT));exact rfl)|((first|apply Ev.fieldAddr|apply Ev.len|apply EqOf.eq|apply EqOf.ne|apply Ev.conv|apply Ev.buildN);exact rfl)|((first|apply Ev.shr|apply Ev.shl);(iterate 2 exact rfl);first|decide|omega));·exact rfl)|(apply yn;iterate 4 exact rfl)|((apply QL.split;iterate 3 exact rfl);all_goals(intro hc;try simp only[hcs]at hc;try(exfalso;first|contradiction|omega)))|apply QL.nil)
          all_goals (show DW _ _ _ _ _ _ _ _))
        all_goals (apply DW.done; (· decide +kernel))
        all_goals apply At.sink
        refine LR.insertK (enc := keyV) (ok := okAll) (l := (noK (ws) (kOf m)).map WayA.kv) (a := kOf m) (v := .agg (m.cells a c ++ [Value.slice a2 (m.body.length) c2]).toArray) rfl rfl rfl (by (repeat (first | exact sH _ _ _ | apply sT))) (fun _ _ => trivial) trivial ?_ ?_
        · intro p hp
          obtain ⟨y, hy, rfl⟩ := List.mem_map.1 hp
          have := (List.mem_filter.1 hy).2
          simpa [WayA.kv] using this
        have hkv : (noK (ws) (kOf m)).map WayA.kv ++ [(kOf m, Value.agg (m.cells a c ++ [Value.slice a2 (m.body.length) c2]).toArray)] = ((noK (ws) (kOf m)) ++ [(WayA.mk (kOf m) (([] : List Msg) ++ [m]) m a c a2 c2)]).map WayA.kv := by
          rw [List.map_append]
          simp only [List.map_cons, List.map_nil, WayA.kv, WayA.cells, hjl]
        rw [hkv]
        repeat'(first|(apply kp;iterate 2 exact rfl)|apply jJ|(apply jE;exact rfl)|(apply jp;exact rfl)|(apply jc;kernel_rfl)|((first|apply kf|apply kn|apply ke|apply kx|apply kc|apply kb);iterate 2 exact rfl)|((first|apply kz|apply ky);(·exact rfl);(·repeat(first|exact iO|exact iR rfl|apply iT));iterate 2 exact rfl)|(apply kg;iterate 2 exact rfl)|(apply kG;iterate 3 exact rfl)|(apply kB;(iterate 2 exact rfl);intro _)|(apply kA;exact rfl;intro _)|(apply kK;(iterate 4 exact rfl);intro _)|(apply kU;(iterate 2 exact rfl);(·repeat(first|exact sH _ _ _|apply sT));(first|exact nfL_eq rfl|exact rfl);exact rfl)|((first|apply kh|apply kl);(iterate 2 exact rfl);(first|decide|omega);exact rfl)|((first|(apply kR;iterate 2 exact rfl)|(apply kQ;exact rfl));all_goals(intro hc;try simp only[hcs]at hc;try(exfalso;first|contradiction|omega))))
        apply ret3
        · exact rfl
        intro w' hS
        have hNk : ((noK (ws) (kOf m)) ++ [(WayA.mk (kOf m) (([] : List Msg) ++ [m]) m a c a2 c2)]).map WayA.kl = restJ ((ws).map WayA.kl) (kOf m) ++ [(kOf m, ([] : List Msg) ++ [m])] := by
          rw [List.map_append, noK_kl]
          rfl
        have hm2 := putJ_more hg hcont (by omega)
        rw [hm2] at hOk ⊢
        refine ⟨none, 0, (noK (ws) (kOf m)) ++ [(WayA.mk (kOf m) (([] : List Msg) ++ [m]) m a c a2 c2)], rfl, hNk, ⟨by rw [hNk]; exact hOk, ?_⟩, ?_⟩
        · intro y hy
          rcases List.mem_append.1 hy with hy | hy
          · exact (hok.noK _).last y hy
          · simp only [List.mem_singleton] at hy
            subst hy
            simp
        · have hyb : osl (.slice a2 (m.body.length) c2) 5 1 (m.body.length) (bv m.body) = WayA.body (WayA.mk (kOf m) (([] : List Msg) ++ [m]) m a c a2 c2) := by
            show _ = osl (.slice a2 (joinB (([] : List Msg) ++ [m])).length c2) 5 1 (joinB (([] : List Msg) ++ [m])).length (bv (joinB (([] : List Msg) ++ [m])))
            rw [hjl, hjx]
          rw [hyb] at hS
          have h2 := St.bun_snoc (f := WayA.body) (x := (WayA.mk (kOf m) (([] : List Msg) ++ [m]) m a c a2 c2)) (l := (noK (ws) (kOf m))) WayA.dep WayA.ex (front hS 6 rfl rfl).swap
          exact none0 _ _ w' (front (front h2 5 rfl rfl) 5 rfl rfl)
      · have hcont : contJ ((ws).map WayA.kl) m = none := by unfold contJ; rw [if_neg (by assumption), hlk]; rfl
        apply ret3
        · exact rfl
        intro w' hS
        rw [putJ_none hg hcont]
        exact ⟨none, 0, noK (ws) (kOf m), rfl, (noK_kl _ _).symm, hok.noK _, none0 _ _ w' (front (front (St.bun_sub (l' := noK (ws) (kOf m)) WayA.dep List.filter_sublist (front hS 5 rfl rfl)) 5 rfl rfl) 5 rfl rfl)⟩
    · have hlk := (look_yes hok).1
      have hno := (look_yes hok).2
      rw [hxk] at hlk hno
      have hokx : OkL x.k x.l := hok.ok.ok x.kl (List.mem_map.2 ⟨x, by simp, rfl⟩)
      have hlx := hok.last x (by simp)
      obtain ⟨hxp, hxm⟩ := OkL.last hokx hlx
      have hxl := OkL.len hokx
      have hxt := text_of_check (hokx.mem hxm).1 (hokx.mem hxm).2.1
      repeat'(first|(apply CW.reg_heldC)|(apply kp;iterate 2 exact rfl)|apply jJ|(apply jE;exact rfl)|(apply jp;exact rfl)|(apply jc;kernel_rfl)|((first|apply kf|apply kn|apply ke|apply kx|apply kc|apply kb);iterate 2 exact rfl)|((first|apply kz|apply ky);(·exact rfl);(·repeat(first|exact iO|exact iR rfl|apply iT));iterate 2 exact rfl)|(apply kg;iterate 2 exact rfl)|(apply kG;iterate 3 exact rfl)|(apply kB;(iterate 2 exact rfl);intro _)|(apply kA;exact rfl;intro _)|(apply kK;(iterate 4 exact rfl);intro _)|(apply kU;(iterate 2 exact rfl);(·repeat(first|exact sH _ _ _|apply sT));(first|exact nfL_eq rfl|exact rfl);exact rfl)|((first|apply kh|apply kl);(iterate 2 exact rfl);(first|decide|omega);exact rfl)|(apply kq; (· exact rfl); (· intro w1 h1; first | exact CallsTo.q (g48 b r w1 (h1.rd_of_blk (by (repeat (first | exact mH _ _ | apply mT))))) h1 | (have hq := CallsTo.q (d17 m a c w1 (h1.oldRdF hr hd) hz hm hb) h1; show CallsTo Try.prog 43 [m.val a c] w1 _; exact hq) | (have hq := CallsTo.q (g49 x.m m x.a a x.c c (.slice x.ba (joinB x.l).length x.bc) w1 (by omega)) h1; rw [next_goes hokx hlx] at hq; show CallsTo Try.prog 49 _ w1 _; exact hq)))|((first|(apply kR;iterate 2 exact rfl)|(apply kQ;exact rfl));all_goals(intro hc;try simp only[hcs]at hc;try(exfalso;first|contradiction|omega))))
      all_goals (
        apply DW.quiet [0, 1, 2, 3, 4, 5, 6, 7, 8]
        · decide +kernel
        · first | exact fun _ h => h | exact fun _ h => St.sub h (by repeat (first | exact List.Sublist.refl _ | apply List.Sublist.cons_cons | apply List.Sublist.cons))
        repeat'(first|(apply yp;iterate 3 exact rfl)|(apply QL.ev;(·exact rfl);(·first|((first|apply Ez|apply Ey);(·exact rfl);(·repeat(first|exact iO|exact iR rfl|apply iT));exact rfl)|((first|apply Ev.fieldAddr|apply Ev.len|apply EqOf.eq|apply EqOf.ne|apply Ev.conv|apply Ev.buildN);exact rfl)|((first|apply Ev.shr|apply Ev.shl);(iterate 2 exact rfl);first|decide|omega));·exact rfl)|(apply QL.ev; (· exact rfl); (· apply Ev.lookup_yes (enc := keyV) (ok := okAll) (l := (p ++ x :: q).map WayA.kv) (a := kOf m) (u := .agg (x.m.cells x.a x.c ++ [Value.slice x.ba (joinB x.l).length x.bc]).toArray); (· exact rfl); (· exact rfl); (· exact fun w' hw' => hw'.holds (jM r (p ++ x :: q)) (by (repeat (first | exact mH _ _ | apply mT)))); (· exact fun _ _ => trivial); (· exact hok.nd); (· exact List.mem_map.2 ⟨x, by simp, by rw [← hxk]; rfl⟩)); (· exact rfl))|(apply yq;iterate 5 exact rfl)|(apply QL.evg;(iterate 3 exact rfl);(·first|((first|apply Ez|apply Ey);(·exact rfl);(·repeat(first|exact iO|exact iR rfl|apply iT));exact rfl)|((first|apply Ev.fieldAddr|apply Ev.len|apply EqOf.eq|apply EqOf.ne|apply Ev.conv|apply Ev.buildN);exact rfl)|((first|apply Ev.shr|apply Ev.shl);(iterate 2 exact rfl);first|decide|omega));·exact rfl)|(apply yn;iterate 4 exact rfl)|((apply QL.split;iterate 3 exact rfl);all_goals(intro hc;try simp only[hcs]at hc;try(exfalso;first|contradiction|omega)))|apply QL.nil)
        all_goals (show DW _ _ _ _ _ _ _ _))
      all_goals (
        apply DW.loud 9
        · exact rfl
        · decide +kernel
        repeat'(first|(apply kg;iterate 2 exact rfl)|(apply kG;iterate 3 exact rfl)|apply kM|(apply kp;iterate 2 exact rfl)|((first|apply kz|apply ky);(·exact rfl);(·repeat(first|exact iO|exact iR rfl|apply iT));iterate 2 exact rfl)|(apply kK;(iterate 4 exact rfl);intro _)|(apply kU;(iterate 2 exact rfl);(·repeat(first|exact sH _ _ _|apply sT));(first|exact nfL_eq rfl|exact rfl);exact rfl)|(apply kB;(iterate 2 exact rfl);intro _)|(apply kA;exact rfl;intro _))
        all_goals (refine At.stage_same (fun _ h => St.sub h (by repeat (first | exact List.Sublist.refl _ | apply List.Sublist.cons_cons | apply List.Sublist.cons))) ?_))
      all_goals (
        apply DW.loud 10
        · exact rfl
        · decide +kernel
        repeat'(first|(apply kg;iterate 2 exact rfl)|(apply kG;iterate 3 exact rfl)|apply kM|(apply kp;iterate 2 exact rfl)|((first|apply kz|apply ky);(·exact rfl);(·repeat(first|exact iO|exact iR rfl|apply iT));iterate 2 exact rfl)|(apply kK;(iterate 4 exact rfl);intro _)|(apply kU;(iterate 2 exact rfl);(·repeat(first|exact sH _ _ _|apply sT));(first|exact nfL_eq rfl|exact rfl);exact rfl)|(apply kB;(iterate 2 exact rfl);intro _)|(apply kA;exact rfl;intro _))
        all_goals (refine At.stage_same (fun _ h => St.sub h (by repeat (first | exact List.Sublist.refl _ | apply List.Sublist.cons_cons | apply List.Sublist.cons))) ?_))
      all_goals (
        apply DW.quiet [11]
        · decide +kernel
        · first | exact fun _ h => h | exact fun _ h => St.sub h (by repeat (first | exact List.Sublist.refl _ | apply List.Sublist.cons_cons | apply List.Sublist.cons))
        repeat'(first|(apply yp;iterate 3 exact rfl)|(apply QL.ev;(·exact rfl);(·first|((first|apply Ez|apply Ey);(·exact rfl);(·repeat(first|exact iO|exact iR rfl|apply iT));exact rfl)|((first|apply Ev.fieldAddr|apply Ev.len|apply EqOf.eq|apply EqOf.ne|apply Ev.conv|apply Ev.buildN);exact rfl)|((first|apply Ev.shr|apply Ev.shl);(iterate 2 exact rfl);first|decide|omega));·exact rfl)|(apply QL.ev; (· exact rfl); (· apply Ev.lookup_yes (enc := keyV) (ok := okAll) (l := (p ++ x :: q).map WayA.kv) (a := kOf m) (u := .agg (x.m.cells x.a x.c ++ [Value.slice x.ba (joinB x.l).length x.bc]).toArray); (· exact rfl); (· exact rfl); (· exact fun w' hw' => hw'.holds (jM r (p ++ x :: q)) (by (repeat (first | exact mH _ _ | apply mT)))); (· exact fun _ _ => trivial); (· exact hok.nd); (· exact List.mem_map.2 ⟨x, by simp, by rw [← hxk]; rfl⟩)); (· exact rfl))|(apply yq;iterate 5 exact rfl)|(apply QL.evg;(iterate 3 exact rfl);(·first|((first|apply Ez|apply Ey);(·exact rfl);(·repeat(first|exact iO|exact iR rfl|apply iT));exact rfl)|((first|apply Ev.fieldAddr|apply Ev.len|apply EqOf.eq|apply EqOf.ne|apply Ev.conv|apply Ev.buildN);exact rfl)|((first|apply Ev.shr|apply Ev.shl);(iterate 2 exact rfl);first|decide|omega));·exact rfl)|(apply yn;iterate 4 exact rfl)|((apply QL.split;iterate 3 exact rfl);all_goals(intro hc;try simp only[hcs]at hc;try(exfalso;first|contradiction|omega)))|apply QL.nil)
        all_goals (show DW _ _ _ _ _ _ _ _))
      all_goals (first | (apply DW.done_thn; (· decide +kernel)) | (apply DW.done; (· decide +kernel)))
      repeat'(first|(apply CW.reg_sinkC 5; (· exact rfl); (· decide +kernel))|(apply kp;iterate 2 exact rfl)|apply jJ|(apply jE;exact rfl)|(apply jp;exact rfl)|(apply jc;kernel_rfl)|((first|apply kf|apply kn|apply ke|apply kx|apply kc|apply kb);iterate 2 exact rfl)|((first|apply kz|apply ky);(·exact rfl);(·repeat(first|exact iO|exact iR rfl|apply iT));iterate 2 exact rfl)|(apply kg;iterate 2 exact rfl)|(apply kG;iterate 3 exact rfl)|(apply kB;(iterate 2 exact rfl);intro _)|(apply kA;exact rfl;intro _)|(apply kK;(iterate 4 exact rfl);intro _)|(apply kU;(iterate 2 exact rfl);(·repeat(first|exact sH _ _ _|apply sT));(first|exact nfL_eq rfl|exact rfl);exact rfl)|((first|apply kh|apply kl);(iterate 2 exact rfl);(first|decide|omega);exact rfl)|((first|(apply kR;iterate 2 exact rfl)|(apply kQ;exact rfl));all_goals(intro hc;try simp only[hcs]at hc;try(exfalso;first|contradiction|omega))))
      all_goals (
        apply DW.quiet [0, 1, 2, 3, 4]
        · decide +kernel
        · first | exact fun _ h => h | exact fun _ h => St.sub h (by repeat (first | exact List.Sublist.refl _ | apply List.Sublist.cons_cons | apply List.Sublist.cons))
        repeat'(first|(apply yp;iterate 3 exact rfl)|(apply QL.ev;(·exact rfl);(·first|((first|apply Ez|apply Ey);(·exact rfl);(·repeat(first|exact iO|exact iR rfl|apply iT));exact rfl)|((first|apply Ev.fieldAddr|apply Ev.len|apply EqOf.eq|apply EqOf.ne|apply Ev.conv|apply Ev.buildN);exact rfl)|((first|apply Ev.shr|apply Ev.shl);(iterate 2 exact rfl);first|decide|omega));·exact rfl)|(exact absurd)|(apply yq;iterate 5 exact rfl)|(apply QL.evg;(iterate 3 exact rfl);(·first|((first|apply Ez|apply Ey);(·exact rfl);(·repeat(first|exact iO|exact iR rfl|apply iT));exact rfl)|((first|apply Ev.fieldAddr|apply Ev.len|apply EqOf.eq|apply EqOf.ne|apply Ev.conv|apply Ev.buildN);exact rfl)|((first|apply Ev.shr|apply Ev.shl);(iterate 2 exact rfl);first|decide|omega));·exact rfl)|(apply yn;iterate 4 exact rfl)|((apply QL.split;iterate 3 exact rfl);all_goals(intro hc;try simp only[hcs]at hc;try(exfalso;first|contradiction|omega)))|apply QL.nil)
        all_goals (show DW _ _ _ _ _ _ _ _))
      all_goals (apply DW.done; (· decide +kernel))
      all_goals apply At.sink
      refine LR.deleteK (enc := keyV) (ok := okAll) (l := (p ++ x :: q).map WayA.kv) (a := kOf m) rfl rfl rfl (by (repeat (first | exact sH _ _ _ | apply sT))) (fun _ _ => trivial) hok.nd trivial ?_
      rw [noK_kv]
      repeat'(first|(apply kp;iterate 2 exact rfl)|apply jJ|(apply jE;exact rfl)|(apply jp;exact rfl)|(apply jc;kernel_rfl)|((first|apply kf|apply kn|apply ke|apply kx|apply kc|apply kb);iterate 2 exact rfl)|((first|apply kz|apply ky);(·exact rfl);(·repeat(first|exact iO|exact iR rfl|apply iT));iterate 2 exact rfl)|(apply kg;iterate 2 exact rfl)|(apply kG;iterate 3 exact rfl)|(apply kB;(iterate 2 exact rfl);intro _)|(apply kA;exact rfl;intro _)|(apply kK;(iterate 4 exact rfl);intro _)|(apply kU;(iterate 2 exact rfl);(·repeat(first|exact sH _ _ _|apply sT));(first|exact nfL_eq rfl|exact rfl);exact rfl)|((first|apply kh|apply kl);(iterate 2 exact rfl);(first|decide|omega);exact rfl)|(apply kq; (· exact rfl); (· intro w1 h1; first | exact CallsTo.q (g48 b r w1 (h1.rd_of_blk (by (repeat (first | exact mH _ _ | apply mT))))) h1 | (have hq := CallsTo.q (d17 m a c w1 (h1.oldRdF hr hd) hz hm hb) h1; show CallsTo Try.prog 43 [m.val a c] w1 _; exact hq) | (have hq := CallsTo.q (g49 x.m m x.a a x.c c (.slice x.ba (joinB x.l).length x.bc) w1 (by omega)) h1; rw [next_goes hokx hlx] at hq; show CallsTo Try.prog 49 _ w1 _; exact hq)))|((first|(apply kR;iterate 2 exact rfl)|(apply kQ;exact rfl));all_goals(intro hc;try simp only[hcs]at hc;try(exfalso;first|contradiction|omega))))
      · have hcont : contJ ((p ++ x :: q).map WayA.kl) m = some [] := by unfold contJ; rw [if_pos (by assumption)]
        have hm0 := (cont_len hok.ok hg hcont).1
        have hjl : (joinB (([] : List Msg) ++ [m])).length = m.body.length := by simp [joinB]
        have hjx : bv (joinB (([] : List Msg) ++ [m])) = bv m.body := by simp [joinB]
        refine LR.sub (D := St w F _) (fun w' hw' => St.bun_subS (l := p ++ x :: q) (l' := noK (p ++ x :: q) (kOf m)) WayA.dep (by (repeat (first | exact sH _ _ _ | apply sT))) List.filter_sublist hw') ?_
        refine LR.append_nil (news := bv m.body) (m := m.body.length) rfl rfl (fun w' hw' => hw'.oldRdF hr hd) (fun hx => ⟨hr.none_len hx, hz hx⟩) (by simp) (bv_one _) (by omega) (by unfold maxLen; omega) rfl ?_
        intro a2 c2
        repeat'(first|(apply CW.reg_sinkC 6; (· exact rfl); (· decide +kernel))|(apply kp;iterate 2 exact rfl)|apply jJ|(apply jE;exact rfl)|(apply jp;exact rfl)|(apply jc;kernel_rfl)|((first|apply kf|apply kn|apply ke|apply kx|apply kc|apply kb);iterate 2 exact rfl)|((first|apply kz|apply ky);(·exact rfl);(·repeat(first|exact iO|exact iR rfl|apply iT));iterate 2 exact rfl)|(apply kg;iterate 2 exact rfl)|(apply kG;iterate 3 exact rfl)|(apply kB;(iterate 2 exact rfl);intro _)|(apply kA;exact rfl;intro _)|(apply kK;(iterate 4 exact rfl);intro _)|(apply kU;(iterate 2 exact rfl);(·repeat(first|exact sH _ _ _|apply sT));(first|exact nfL_eq rfl|exact rfl);exact rfl)|((first|apply kh|apply kl);(iterate 2 exact rfl);(first|decide|omega);exact rfl)|(apply subX;(iterate 2 exact rfl);(iterate 2(first|omega|(dsimp only;omega)));exact rfl)|((first|(apply kR;iterate 2 exact rfl)|(apply kQ;exact rfl));all_goals(intro hc;try simp only[hcs]at hc;try(exfalso;first|contradiction|omega))))
        · apply ret3
          · exact rfl
          intro w' hS
          rw [putJ_whole hg hcont (by omega)]
          refine ⟨a2, c2, (noK (p ++ x :: q) (kOf m)), by rw [hjl]; rfl, (noK_kl _ _).symm, hok.noK _, ?_⟩
          show St w F [jO b r (noK (p ++ x :: q) (kOf m)), osl (.slice a2 (joinB (([] : List Msg) ++ [m])).length c2) 5 1 (joinB (([] : List Msg) ++ [m])).length (bv (joinB (([] : List Msg) ++ [m])))] w'
          rw [hjl, hjx]
          exact (jO_shut (front (front (front hS 6 rfl rfl) 6 rfl rfl) 6 rfl rfl)).sub (by repeat (first | exact List.Sublist.refl _ | exact List.nil_sublist _ | apply List.Sublist.cons_cons | apply List.Sublist.cons))
        all_goals (
          apply DW.quiet [0, 1, 2, 3, 4, 5]
          · decide +kernel
          · first | exact fun _ h => h | exact fun _ h => St.sub h (by repeat (first | exact List.Sublist.refl _ | apply List.Sublist.cons_cons | apply List.Sublist.cons))
          repeat'(first|(apply yp;iterate 3 exact rfl)|(apply QL.ev;(·exact rfl);(·first|((first|apply Ez|apply Ey);(·exact rfl);(·repeat(first|exact iO|exact iR rfl|apply iT));exact rfl)|((first|apply Ev.fieldAddr|apply Ev.len|apply EqOf.eq|apply EqOf.ne|apply Ev.conv|apply Ev.buildN);exact rfl)|((first|apply Ev.shr|apply Ev.shl);(iterate 2 exact rfl);first|decide|omega));·exact rfl)|(exact absurd)|(apply yq;iterate 5 exact rfl)|(apply QL.evg;(iterate 3 exact rfl);(·first|((first|apply Ez|apply Ey);(·exact rfl);(·repeat(first|exact iO|exact iR rfl|apply iT));exact rfl)|((first|apply Ev.fieldAddr|apply Ev.len|apply EqOf.eq|apply EqOf.ne|apply Ev.conv|apply Ev.buildN);exact rfl)|((first|apply Ev.shr|apply Ev.shl);(iterate 2 exact rfl);first|decide|omega));·exact rfl)|(apply yn;iterate 4 exact rfl)|((apply QL.split;iterate 3 exact rfl);all_goals(intro hc;try simp only[hcs]at hc;try(exfalso;first|contradiction|omega)))|apply QL.nil)
          all_goals (show DW _ _ _ _ _ _ _ _))
        all_goals (apply DW.done; (· decide +kernel))
        all_goals apply At.sink
        refine LR.insertK (enc := keyV) (ok := okAll) (l := (noK (p ++ x :: q) (kOf m)).map WayA.kv) (a := kOf m) (v := .agg (m.cells a c ++ [Value.slice a2 (m.body.length) c2]).toArray) rfl rfl rfl (by (repeat (first | exact sH _ _ _ | apply sT))) (fun _ _ => trivial) trivial ?_ ?_
        · intro p hp
          obtain ⟨y, hy, rfl⟩ := List.mem_map.1 hp
          have := (List.mem_filter.1 hy).2
          simpa [WayA.kv] using this
        have hkv : (noK (p ++ x :: q) (kOf m)).map WayA.kv ++ [(kOf m, Value.agg (m.cells a c ++ [Value.slice a2 (m.body.length) c2]).toArray)] = ((noK (p ++ x :: q) (kOf m)) ++ [(WayA.mk (kOf m) (([] : List Msg) ++ [m]) m a c a2 c2)]).map WayA.kv := by
          rw [List.map_append]
          simp only [List.map_cons, List.map_nil, WayA.kv, WayA.cells, hjl]
        rw [hkv]
        repeat'(first|(apply kp;iterate 2 exact rfl)|apply jJ|(apply jE;exact rfl)|(apply jp;exact rfl)|(apply jc;kernel_rfl)|((first|apply kf|apply kn|apply ke|apply kx|apply kc|apply kb);iterate 2 exact rfl)|((first|apply kz|apply ky);(·exact rfl);(·repeat(first|exact iO|exact iR rfl|apply iT));iterate 2 exact rfl)|(apply kg;iterate 2 exact rfl)|(apply kG;iterate 3 exact rfl)|(apply kB;(iterate 2 exact rfl);intro _)|(apply kA;exact rfl;intro _)|(apply kK;(iterate 4 exact rfl);intro _)|(apply kU;(iterate 2 exact rfl);(·repeat(first|exact sH _ _ _|apply sT));(first|exact nfL_eq rfl|exact rfl);exact rfl)|((first|apply kh|apply kl);(iterate 2 exact rfl);(first|decide|omega);exact rfl)|((first|(apply kR;iterate 2 exact rfl)|(apply kQ;exact rfl));all_goals(intro hc;try simp only[hcs]at hc;try(exfalso;first|contradiction|omega))))
        apply ret3
        · exact rfl
        intro w' hS
        have hNk : ((noK (p ++ x :: q) (kOf m)) ++ [(WayA.mk (kOf m) (([] : List Msg) ++ [m]) m a c a2 c2)]).map WayA.kl = restJ ((p ++ x :: q).map WayA.kl) (kOf m) ++ [(kOf m, ([] : List Msg) ++ [m])] := by
          rw [List.map_append, noK_kl]
          rfl
        have hm2 := putJ_more hg hcont (by omega)
        rw [hm2] at hOk ⊢
        refine ⟨none, 0, (noK (p ++ x :: q) (kOf m)) ++ [(WayA.mk (kOf m) (([] : List Msg) ++ [m]) m a c a2 c2)], rfl, hNk, ⟨by rw [hNk]; exact hOk, ?_⟩, ?_⟩
        · intro y hy
          rcases List.mem_append.1 hy with hy | hy
          · exact (hok.noK _).last y hy
          · simp only [List.mem_singleton] at hy
            subst hy
            simp
        · have hyb : osl (.slice a2 (m.body.length) c2) 5 1 (m.body.length) (bv m.body) = WayA.body (WayA.mk (kOf m) (([] : List Msg) ++ [m]) m a c a2 c2) := by
            show _ = osl (.slice a2 (joinB (([] : List Msg) ++ [m])).length c2) 5 1 (joinB (([] : List Msg) ++ [m])).length (bv (joinB (([] : List Msg) ++ [m])))
            rw [hjl, hjx]
          rw [hyb] at hS
          have h2 := St.bun_snoc (f := WayA.body) (x := (WayA.mk (kOf m) (([] : List Msg) ++ [m]) m a c a2 c2)) (l := (noK (p ++ x :: q) (kOf m))) WayA.dep WayA.ex (front hS 6 rfl rfl).swap
          exact none0 _ _ w' (front (front h2 5 rfl rfl) 5 rfl rfl)
      · have hcont : contJ ((p ++ x :: q).map WayA.kl) m = none := by unfold contJ; rw [if_neg (by assumption), hlk]; show (if goesB x.l m = true then some x.l else none) = _; rw [if_neg (by simp_all)]
        apply ret3
        · exact rfl
        intro w' hS
        rw [putJ_none hg hcont]
        exact ⟨none, 0, noK (p ++ x :: q) (kOf m), rfl, (noK_kl _ _).symm, hok.noK _, none0 _ _ w' (front (front (St.bun_sub (l' := noK (p ++ x :: q) (kOf m)) WayA.dep List.filter_sublist (front hS 5 rfl rfl)) 5 rfl rfl) 5 rfl rfl)⟩
      · have hcont : contJ ((p ++ x :: q).map WayA.kl) m = some x.l := by unfold contJ; rw [if_neg (by assumption), hlk]; show (if goesB x.l m = true then some x.l else none) = _; rw [if_pos (by assumption)]
        have hm0 := (cont_len hok.ok hg hcont).1
        have hjl : (joinB (x.l ++ [m])).length = (joinB x.l).length + m.body.length := by rw [joinB_snoc, List.length_append]
        have hjx : bv (joinB (x.l ++ [m])) = bv (joinB x.l) ++ bv m.body := by rw [joinB_snoc]; simp [bv]
        refine LR.sub (D := St w F _) (fun w' hw' => front (front (front (front (front (front (St.bun_pick (q := q) WayA.dep (front hw' 5 rfl rfl)) 6 rfl rfl) 6 rfl rfl) 6 rfl rfl) 6 rfl rfl) 6 rfl rfl) 5 rfl rfl) ?_
        rw [← hno]
        refine LR.append (xs := bv (joinB x.l)) (news := bv m.body) (m := m.body.length) rfl rfl (fun a' c' => by (repeat (first | exact sH _ _ _ | apply sT))) (fun w' hw' => hw'.oldRdF hr hd) (fun hx => ⟨hr.none_len hx, hz hx⟩) (by simp) (bv_one _) (by omega) (by unfold maxLen; omega) rfl ?_
        intro a2 c2
        repeat'(first|(apply CW.reg_sinkC 6; (· exact rfl); (· decide +kernel))|(apply kp;iterate 2 exact rfl)|apply jJ|(apply jE;exact rfl)|(apply jp;exact rfl)|(apply jc;kernel_rfl)|((first|apply kf|apply kn|apply ke|apply kx|apply kc|apply kb);iterate 2 exact rfl)|((first|apply kz|apply ky);(·exact rfl);(·repeat(first|exact iO|exact iR rfl|apply iT));iterate 2 exact rfl)|(apply kg;iterate 2 exact rfl)|(apply kG;iterate 3 exact rfl)|(apply kB;(iterate 2 exact rfl);intro _)|(apply kA;exact rfl;intro _)|(apply kK;(iterate 4 exact rfl);intro _)|(apply kU;(iterate 2 exact rfl);(·repeat(first|exact sH _ _ _|apply sT));(first|exact nfL_eq rfl|exact rfl);exact rfl)|((first|apply kh|apply kl);(iterate 2 exact rfl);(first|decide|omega);exact rfl)|(apply subX;(iterate 2 exact rfl);(iterate 2(first|omega|(dsimp only;omega)));exact rfl)|((first|(apply kR;iterate 2 exact rfl)|(apply kQ;exact rfl));all_goals(intro hc;try simp only[hcs]at hc;try(exfalso;first|contradiction|omega))))
        · apply ret3
          · exact rfl
          intro w' hS
          rw [putJ_whole hg hcont (by omega)]
          refine ⟨a2, c2, (noK (p ++ x :: q) (kOf m)), by rw [hjl]; rfl, (noK_kl _ _).symm, hok.noK _, ?_⟩
          show St w F [jO b r (noK (p ++ x :: q) (kOf m)), osl (.slice a2 (joinB (x.l ++ [m])).length c2) 5 1 (joinB (x.l ++ [m])).length (bv (joinB (x.l ++ [m])))] w'
          rw [hjl, hjx]
          exact (jO_shut (front (front (front hS 6 rfl rfl) 6 rfl rfl) 6 rfl rfl)).sub (by repeat (first | exact List.Sublist.refl _ | exact List.nil_sublist _ | apply List.Sublist.cons_cons | apply List.Sublist.cons))
        all_goals (
          apply DW.quiet [0, 1, 2, 3, 4, 5]
          · decide +kernel
          · first | exact fun _ h => h | exact fun _ h => St.sub h (by repeat (first | exact List.Sublist.refl _ | apply List.Sublist.cons_cons | apply List.Sublist.cons))
          repeat'(first|(apply yp;iterate 3 exact rfl)|(apply QL.ev;(·exact rfl);(·first|((first|apply Ez|apply Ey);(·exact rfl);(·repeat(first|exact iO|exact iR rfl|apply iT));exact rfl)|((first|apply Ev.fieldAddr|apply Ev.len|apply EqOf.eq|apply EqOf.ne|apply Ev.conv|apply Ev.buildN);exact rfl)|((first|apply Ev.shr|apply Ev.shl);(iterate 2 exact rfl);first|decide|omega));·exact rfl)|(exact absurd)|(apply yq;iterate 5 exact rfl)|(apply QL.evg;(iterate 3 exact rfl);(·first|((first|apply Ez|apply Ey);(·exact rfl);(·repeat(first|exact iO|exact iR rfl|apply iT));exact rfl)|((first|apply Ev.fieldAddr|apply Ev.len|apply EqOf.eq|apply EqOf.ne|apply Ev.conv|apply Ev.buildN);exact rfl)|((first|apply Ev.shr|apply Ev.shl);(iterate 2 exact rfl);first|decide|omega));·exact rfl)|(apply yn;iterate 4 exact rfl)|((apply QL.split;iterate 3 exact rfl);all_goals(intro hc;try simp only[hcs]at hc;try(exfalso;first|contradiction|omega)))|apply QL.nil)
          all_goals (show DW _ _ _ _ _ _ _ _))
        all_goals (apply DW.done; (· decide +kernel))
        all_goals apply At.sink
        refine LR.insertK (enc := keyV) (ok := okAll) (l := (noK (p ++ x :: q) (kOf m)).map WayA.kv) (a := kOf m) (v := .agg (m.cells a c ++ [Value.slice a2 ((joinB x.l).length + m.body.length) c2]).toArray) rfl rfl rfl (by (repeat (first | exact sH _ _ _ | apply sT))) (fun _ _ => trivial) trivial ?_ ?_
        · intro p hp
          obtain ⟨y, hy, rfl⟩ := List.mem_map.1 hp
          have := (List.mem_filter.1 hy).2
          simpa [WayA.kv] using this
        have hkv : (noK (p ++ x :: q) (kOf m)).map WayA.kv ++ [(kOf m, Value.agg (m.cells a c ++ [Value.slice a2 ((joinB x.l).length + m.body.length) c2]).toArray)] = ((noK (p ++ x :: q) (kOf m)) ++ [(WayA.mk (kOf m) (x.l ++ [m]) m a c a2 c2)]).map WayA.kv := by
          rw [List.map_append]
          simp only [List.map_cons, List.map_nil, WayA.kv, WayA.cells, hjl]
        rw [hkv]
        repeat'(first|(apply kp;iterate 2 exact rfl)|apply jJ|(apply jE;exact rfl)|(apply jp;exact rfl)|(apply jc;kernel_rfl)|((first|apply kf|apply kn|apply ke|apply kx|apply kc|apply kb);iterate 2 exact rfl)|((first|apply kz|apply ky);(·exact rfl);(·repeat(first|exact iO|exact iR rfl|apply iT));iterate 2 exact rfl)|(apply kg;iterate 2 exact rfl)|(apply kG;iterate 3 exact rfl)|(apply kB;(iterate 2 exact rfl);intro _)|(apply kA;exact rfl;intro _)|(apply kK;(iterate 4 exact rfl);intro _)|(apply kU;(iterate 2 exact rfl);(·repeat(first|exact sH _ _ _|apply sT));(first|exact nfL_eq rfl|exact rfl);exact rfl)|((first|apply kh|apply kl);(iterate 2 exact rfl);(first|decide|omega);exact rfl)|((first|(apply kR;iterate 2 exact rfl)|(apply kQ;exact rfl));all_goals(intro hc;try simp only[hcs]at hc;try(exfalso;first|contradiction|omega))))
        apply ret3
        · exact rfl
        intro w' hS
        have hNk : ((noK (p ++ x :: q) (kOf m)) ++ [(WayA.mk (kOf m) (x.l ++ [m]) m a c a2 c2)]).map WayA.kl = restJ ((p ++ x :: q).map WayA.kl) (kOf m) ++ [(kOf m, x.l ++ [m])] := by
          rw [List.map_append, noK_kl]
          rfl
        have hm2 := putJ_more hg hcont (by omega)
        rw [hm2] at hOk ⊢
        refine ⟨none, 0, (noK (p ++ x :: q) (kOf m)) ++ [(WayA.mk (kOf m) (x.l ++ [m]) m a c a2 c2)], rfl, hNk, ⟨by rw [hNk]; exact hOk, ?_⟩, ?_⟩
        · intro y hy
          rcases List.mem_append.1 hy with hy | hy
          · exact (hok.noK _).last y hy
          · simp only [List.mem_singleton] at hy
            subst hy
            simp
        · have hyb : osl (.slice a2 ((joinB x.l).length + m.body.length) c2) 5 1 ((joinB x.l).length + m.body.length) (bv (joinB x.l) ++ bv m.body) = WayA.body (WayA.mk (kOf m) (x.l ++ [m]) m a c a2 c2) := by
            show _ = osl (.slice a2 (joinB (x.l ++ [m])).length c2) 5 1 (joinB (x.l ++ [m])).length (bv (joinB (x.l ++ [m])))
            rw [hjl, hjx]
          rw [hyb] at hS
          have h2 := St.bun_snoc (f := WayA.body) (x := (WayA.mk (kOf m) (x.l ++ [m]) m a c a2 c2)) (l := (noK (p ++ x :: q) (kOf m))) WayA.dep WayA.ex (front hS 6 rfl rfl).swap
          exact none0 _ _ w' (front (front h2 5 rfl rfl) 5 rfl rfl)
  · rw [putJ_bad hg]
    repeat'(first|(apply kp;iterate 2 exact rfl)|apply jJ|(apply jE;exact rfl)|(apply jp;exact rfl)|(apply jc;kernel_rfl)|((first|apply kf|apply kn|apply ke|apply kx|apply kc|apply kb);iterate 2 exact rfl)|((first|apply kz|apply ky);(·exact rfl);(·repeat(first|exact iO|exact iR rfl|apply iT));iterate 2 exact rfl)|(apply kg;iterate 2 exact rfl)|(apply kG;iterate 3 exact rfl)|(apply kB;(iterate 2 exact rfl);intro _)|(apply kA;exact rfl;intro _)|(apply kK;(iterate 4 exact rfl);intro _)|(apply kU;(iterate 2 exact rfl);(·repeat(first|exact sH _ _ _|apply sT));(first|exact nfL_eq rfl|exact rfl);exact rfl)|((first|apply kh|apply kl);(iterate 2 exact rfl);(first|decide|omega);exact rfl)|(apply kq; (· exact rfl); (· intro w1 h1; first | exact CallsTo.q (g48 b r w1 (h1.rd_of_blk (by (repeat (first | exact mH _ _ | apply mT))))) h1 | (have hq := CallsTo.q (d17 m a c w1 (h1.oldRdF hr hd) hz hm hb) h1; show CallsTo Try.prog 43 [m.val a c] w1 _; exact hq) | (have hq := CallsTo.q (g49 x.m m x.a a x.c c (.slice x.ba (joinB x.l).length x.bc) w1 (by omega)) h1; rw [next_goes hokx hlx] at hq; show CallsTo Try.prog 49 _ w1 _; exact hq)))|((first|(apply kR;iterate 2 exact rfl)|(apply kQ;exact rfl));all_goals(intro hc;try simp only[hcs]at hc;try(exfalso;first|contradiction|omega))))
    all_goals first
      | (exfalso; exact hg ⟨by assumption, by assumption⟩)
      | (apply ret3; (· exact rfl); intro w' hS; exact ⟨none, 0, ws, rfl, rfl, hok, none0 ws [] w' hS.tail1⟩)
end Go.Proofs.Ytphcnaafhcfakaa

namespace Go.Proofs.Ytphcnaafhcfakaa
open Go.Hb
attribute [local irreducible] LR CW At Ev thn blk finK noG again CallsTo DW QL dnext TW DP
set_option linter.unusedSimpArgs false
set_option linter.unusedVariables false
set_option maxRecDepth 100000

structure RW where
  k : Int × Int
  l : List MsgA
  a : Option Addr
  c : Nat
def RW.val (x : RW) : Value := .slice x.a x.l.length x.c
def RW.kl (x : RW) : (Int × Int) × List Msg := (x.k, x.l.map MsgA.m)
def RW.body (x : RW) : Asrt := both (mS x.a x.c x.l) (bunB x.l)
theorem RW.dep (x : RW) : x.body.dep := both_dep (osl.dep _ _ _ _ _) (bun_dep MsgA.dep _)
theorem RW.ex (x : RW) : x.body.excl = true := rfl
abbrev bunR : List RW → Asrt := bun RW.body
abbrev rB (b : Nat) (A : Option Addr) (C n : Nat) : Asrt := .own b (.cells [Value.slice A n C].toArray 98 (0, 0))
abbrev rL (A : Option Addr) (C : Nat) (rs : List RW) : Asrt := odl (.slice A rs.length C) 31 1 rs.length (rs.map RW.val)
def rQ (b : Nat) (A : Option Addr) (C : Nat) (rs : List RW) : Asrt := both (rB b A C rs.length) (rL A C rs)
theorem rQ_dep (b : Nat) (A : Option Addr) (C : Nat) (rs : List RW) : (rQ b A C rs).dep := both_dep (Asrt.dep_own _ _) (odl.dep _ _ _ _ _)
def rO (b : Nat) (A : Option Addr) (C : Nat) (rs : List RW) : Asrt := both (rQ b A C rs) (bunR rs)
theorem rO_dep (b : Nat) (A : Option Addr) (C : Nat) (rs : List RW) : (rO b A C rs).dep := both_dep (rQ_dep b A C rs) (bun_dep RW.dep rs)
theorem rQ_rd {b : Nat} {A : Option Addr} {C : Nat} {rs : List RW} {w : World} (h : (rQ b A C rs).holds w) : Rd w (some ⟨b, 0, none⟩) [.slice A rs.length C] ∧ Rd w A (rs.map RW.val) := by
  refine ⟨fun j v hj => ⟨_, rfl, by rw [addr_add, cell_own (show w.heap[b]? = some (.cells [Value.slice A rs.length C].toArray 98 (0, 0)) from h.1)]; simpa using hj⟩, ownsAt_rd h.2.1⟩
theorem RW.rd {x : RW} {w : World} (h : x.body.holds w) : Rd w x.a (x.l.flatMap MsgA.row) := ownsRow_rd h.1
instance : Build Try.prog 98 [.slice none 0 0] [(0, 1)] := ⟨fun w parts cells h => by
  simp only [Instr.build, Sem.run_bind, Try.zeroValue98, run_underlying Try.underlying98, Result.andThen_ok]
  simp only [List.mapM_toArray, List.mapM_cons, List.mapM_nil, Sem.run_bind, Sem.run_map, Sem.run_pure, Result.andThen_ok, pure_bind, bind_assoc, map_eq_pure_bind, Try.sizeOf96, Value.cells]
  rw [h]
  rfl⟩
theorem g21 (w : World) : CallsTo Try.prog 21 [] w fun v w' => ∃ b, v = .pointer (some ⟨b, 0, none⟩) ∧ St w NoF [rO b none 0 []] w' := by
  refine go_in (n := 3) (St.refl _ NoF) Try.func21 rfl rfl ?_
  repeat'(first|(apply kp;iterate 2 exact rfl)|apply jJ|(apply jE;exact rfl)|(apply jp;exact rfl)|(apply jc;kernel_rfl)|((first|apply kf|apply kn|apply ke|apply kx|apply kc|apply kb);iterate 2 exact rfl)|((first|apply kz|apply ky);(·exact rfl);(·repeat(first|exact iO|exact iR rfl|apply iT));iterate 2 exact rfl)|(apply kg;iterate 2 exact rfl)|(apply kG;iterate 3 exact rfl)|(apply kB;(iterate 2 exact rfl);intro _)|(apply kA;exact rfl;intro _)|(apply kK;(iterate 4 exact rfl);intro _)|(apply kU;(iterate 2 exact rfl);(·repeat(first|exact sH _ _ _|apply sT));(first|exact nfL_eq rfl|exact rfl);exact rfl)|((first|apply kh|apply kl);(iterate 2 exact rfl);(first|decide|omega);exact rfl)|((first|(apply kR;iterate 2 exact rfl)|(apply kQ;exact rfl));all_goals(intro hc;try simp only[hcs]at hc;try(exfalso;first|contradiction|omega))))
  (apply ret1; (· exact rfl); intro w' hS)
  refine ⟨_, rfl, ?_⟩
  have h1 := ((hS.bun_nil RW.dep).nilsl 31 1).osl_odl (sH _ _ _)
  exact ((front (front h1 2 rfl rfl) 1 rfl rfl).swap.join rfl rfl).join rfl rfl
theorem g25 (b : Nat) (A : Option Addr) (C n : Nat) (w : World) (h : Rd w (some ⟨b, 0, none⟩) [.slice A n C]) : CallsTo Try.prog 25 [.pointer (some ⟨b, 0, none⟩)] w fun v w' => v = .int .i64 (n : Int) ∧ Grew w w' := by
  refine go_in (n := 8) (St.rd1 h) Try.func25 rfl rfl ?_
  repeat'(first|(apply kp;iterate 2 exact rfl)|apply jJ|(apply jE;exact rfl)|(apply jp;exact rfl)|(apply jc;kernel_rfl)|((first|apply kf|apply kn|apply ke|apply kx|apply kc|apply kb);iterate 2 exact rfl)|((first|apply kz|apply ky);(·exact rfl);(·repeat(first|exact iO|exact iR rfl|apply iT));iterate 2 exact rfl)|(apply kg;iterate 2 exact rfl)|(apply kG;iterate 3 exact rfl)|(apply kB;(iterate 2 exact rfl);intro _)|(apply kA;exact rfl;intro _)|(apply kK;(iterate 4 exact rfl);intro _)|(apply kU;(iterate 2 exact rfl);(·repeat(first|exact sH _ _ _|apply sT));(first|exact nfL_eq rfl|exact rfl);exact rfl)|((first|apply kh|apply kl);(iterate 2 exact rfl);(first|decide|omega);exact rfl)|((first|(apply kR;iterate 2 exact rfl)|(apply kQ;exact rfl));all_goals(intro hc;try simp only[hcs]at hc;try(exfalso;first|contradiction|omega))))
  (apply ret1; (· exact rfl); intro w' hS)
  exact ⟨rfl, hS.toKeep⟩
theorem g51 (A : Option Addr) (C : Nat) (l : List MsgA) (m : Msg) (a : Option Addr) (c : Nat) (w : World) (h : Rd w A (l.flatMap MsgA.row)) (hn : l ≠ []) : CallsTo Try.prog 51 [.slice A l.length C, m.val a c] w fun v w' => v = .bool (goesB (l.map MsgA.m) m) ∧ Grew w w' := by
  cases l with
  | nil => exact absurd rfl hn
  | cons y r =>
    obtain ⟨bx, ox, rfl⟩ := h.form (rows_ne MsgA.row_len (i := 0) (by omega) (by simp))
    have hl : (y :: r).length = r.length + 1 := rfl
    show CallsTo Try.prog 51 _ w fun v w' => v = .bool (decide (m.id = y.m.id ∧ m.parts = y.m.parts ∧ m.groups = y.m.groups ∧ m.safe = y.m.safe ∧ m.part = (((y :: r).map MsgA.m).length : Int))) ∧ Grew w w'
    rw [List.length_map]
    refine go_in (n := 42) (St.rd1 h) Try.func51 rfl rfl ?_
    repeat'(first|(apply kp;iterate 2 exact rfl)|apply jJ|(apply jE;exact rfl)|(apply jp;exact rfl)|(apply jc;kernel_rfl)|((first|apply kf|apply kn|apply ke|apply kx|apply kc|apply kb);iterate 2 exact rfl)|((first|apply kz|apply ky);(·exact rfl);(·repeat(first|exact iO|exact iR rfl|apply iT));iterate 2 exact rfl)|(apply kg;iterate 2 exact rfl)|(apply kG;iterate 3 exact rfl)|(apply kB;(iterate 2 exact rfl);intro _)|(apply kA;exact rfl;intro _)|(apply kK;(iterate 4 exact rfl);intro _)|(apply kU;(iterate 2 exact rfl);(·repeat(first|exact sH _ _ _|apply sT));(first|exact nfL_eq rfl|exact rfl);exact rfl)|((first|apply kh|apply kl);(iterate 2 exact rfl);(first|decide|omega);exact rfl)|(apply idxX;(iterate 2 exact rfl);(iterate 2(first|omega|(dsimp only;omega)));exact rfl)|(apply LR.ev; (· apply Ev.load_agg_at (cs := y.row); (· exact rfl); (· exact rfl); (· intro w' hw'; exact rd_row (l := y :: r) (i := 0) MsgA.row_len (hw'.rd_of (by (repeat (first | exact mH _ _ | apply mT)))) (by simp) (by simp))); (· exact rfl))|((first|(apply kR;iterate 2 exact rfl)|(apply kQ;exact rfl));all_goals(intro hc;try simp only[hcs]at hc;try(exfalso;first|contradiction|omega))))
    all_goals (
      (apply ret1; (· exact rfl); intro w' hS; refine ⟨congrArg Value.bool ?_, hS.toKeep⟩; rw [Bool.eq_iff_iff]; (try simp only [decide_eq_true_eq, Bool.not_eq_true', decide_eq_false_iff_not, Bool.false_eq_true, Bool.true_eq_false, true_iff, false_iff, iff_true, iff_false, reduceCtorEq, not_true_eq_false, not_false_eq_true, List.cons.injEq, and_true]); first | omega | (simp; done) | (simp; omega) | (simp_all; done))
      )
set_option maxHeartbeats 1000000 in
theorem g50 (b : Nat) (A : Option Addr) (C : Nat) (p q : List RW) (m : Msg) (a : Option Addr) (c : Nat) (w : World) (h : Rd w (some ⟨b, 0, none⟩) [.slice A (p ++ q).length C]) (hA : Rd w A ((p ++ q).map RW.val)) (hR : ∀ x ∈ p ++ q, Rd w x.a (x.l.flatMap MsgA.row)) (hn : ∀ x ∈ p ++ q, x.l.map MsgA.m ≠ [] ∧ OkL x.k (x.l.map MsgA.m)) (hp : ∀ x ∈ p, x.k ≠ kOf m) (hq : ∀ x ∈ q.head?, x.k = kOf m) (hm : (p ++ q).length ≤ 140737488355328) :
    CallsTo Try.prog 50 [.pointer (some ⟨b, 0, none⟩), m.val a c] w fun v w' => v = .int .i64 (if q = [] then -1 else (p.length : Int)) ∧ Grew w w' := by
  refine go_in (n := 44) (St.rd2 h hA) Try.func50 rfl rfl ?_
  repeat'(first|(apply kp;iterate 2 exact rfl)|apply jJ|(apply jE;exact rfl)|(apply jp;exact rfl)|(apply jc;kernel_rfl)|((first|apply kf|apply kn|apply ke|apply kx|apply kc|apply kb);iterate 2 exact rfl)|((first|apply kz|apply ky);(·exact rfl);(·repeat(first|exact iO|exact iR rfl|apply iT));iterate 2 exact rfl)|(apply kg;iterate 2 exact rfl)|(apply kG;iterate 3 exact rfl)|(apply kB;(iterate 2 exact rfl);intro _)|(apply kA;exact rfl;intro _)|(apply kK;(iterate 4 exact rfl);intro _)|(apply kU;(iterate 2 exact rfl);(·repeat(first|exact sH _ _ _|apply sT));(first|exact nfL_eq rfl|exact rfl);exact rfl)|((first|apply kh|apply kl);(iterate 2 exact rfl);(first|decide|omega);exact rfl)|((first|(apply kR;iterate 2 exact rfl)|(apply kQ;exact rfl));all_goals(intro hc;try simp only[hcs]at hc;try(exfalso;first|contradiction|omega))))
  apply CW.loop [4, 5, 6, 7, 8, 9, 10, 11, 12, 13, 14, 15, 16, 17, 18, 19, 20, 21, 22, 23, 24, 25, 26, 27, 28, 29, 30, 31, 32, 33, 34, 35, 36, 37, 38, 39, 40, 41, 42, 43] (fun i : Nat => i ≤ p.length) (fun i => [(5, Value.int .i64 (i : Int))]) (fun i => St w NoF [.own _ (.cells (m.cells a c).toArray 28 (0, 0)), rdA (some ⟨b, 0, none⟩) [.slice A (p ++ q).length C], rdA A ((p ++ q).map RW.val)]) (fun i => p.length + 1 - i)
  · exact fun w' hw' => ⟨0, by simp, ⟨rfl, trivial⟩, hw'⟩
  intro i g hi
  by_cases hlt : i < (p ++ q).length
  · obtain ⟨ba, oa, rfl⟩ := hA.form (fun e => by have := congrArg List.length e; rw [List.length_map] at this; rw [this] at hlt; exact absurd hlt (by simp))
    have hx := hR _ (List.getElem_mem hlt)
    have hok := hn _ (List.getElem_mem hlt)
    obtain ⟨⟨xk, xl, xa, xc⟩, hX⟩ : ∃ X, (p ++ q)[i] = X := ⟨_, rfl⟩
    rw [hX] at hx hok
    simp only at hx hok
    cases xl with
    | nil => exact absurd rfl hok.1
    | cons y r =>
      obtain ⟨bx, ox, rfl⟩ := hx.form (rows_ne MsgA.row_len (i := 0) (by omega) (by simp))
      have hl : (y :: r).length = r.length + 1 := rfl
      have hyk : kOf y.m = xk := (hok.2.mem (m := y.m) (by simp)).2.2
      have ldv : ∀ w', Rd w' (some ⟨ba, oa, none⟩) ((p ++ q).map RW.val) → ∀ k, k = oa + i * 1 → w'.cell? ⟨ba, k, none⟩ = some (.slice (some ⟨bx, ox, none⟩) (y :: r).length xc) := by
        intro w' hw' k hk
        subst hk
        rw [Nat.mul_one]
        exact hw'.cell (by rw [List.getElem?_map, List.getElem?_eq_getElem hlt, hX]; rfl)
      have ldc : ∀ w' : World, Rd w' (some ⟨bx, ox, none⟩) ((y :: r).flatMap MsgA.row) → ∀ (j : Nat) v, y.row[j]? = some v → ∀ k, k = ox + j → w'.cell? ⟨bx, k, none⟩ = some v := by
        intro w' hw' j v hj k hk
        exact row_cell (l := y :: r) (i := 0) MsgA.row_len hw' (by simp) j hj (by omega)
      have hcase : ∀ (e1 : y.m.origin = m.origin) (e2 : y.m.life = m.life), xk = kOf m := fun e1 e2 => by rw [← hyk]; unfold kOf; rw [e1, e2]
      have hin : i < p.length → xk ≠ kOf m := fun h => by
        have := hp _ (List.getElem_mem h)
        rw [List.getElem_append_left h] at hX
        rw [hX] at this
        exact this
      have hout : ¬ i < p.length → xk = kOf m ∧ q ≠ [] ∧ i = p.length := fun h => by
        have hq0 : q ≠ [] := fun e => by subst e; simp at hlt; omega
        obtain ⟨z, q', rfl⟩ := List.exists_cons_of_ne_nil hq0
        have hi2 : i = p.length := by omega
        have := hq z rfl
        subst hi2
        rw [List.getElem_append_right (by omega)] at hX
        simp only [Nat.sub_self, List.getElem_cons_zero] at hX
        rw [hX] at this
        exact ⟨this, by simp, rfl⟩
      repeat'(first|(apply CW.reg_heldC)|(apply kp;iterate 2 exact rfl)|apply jJ|(apply jE;exact rfl)|(apply jp;exact rfl)|(apply jc;kernel_rfl)|((first|apply kf|apply kn|apply ke|apply kx|apply kc|apply kb);iterate 2 exact rfl)|((first|apply kz|apply ky);(·exact rfl);(·repeat(first|exact iO|exact iR rfl|apply iT));iterate 2 exact rfl)|(apply kg;iterate 2 exact rfl)|(apply kG;iterate 3 exact rfl)|(apply kB;(iterate 2 exact rfl);intro _)|(apply kA;exact rfl;intro _)|(apply kK;(iterate 4 exact rfl);intro _)|(apply kU;(iterate 2 exact rfl);(·repeat(first|exact sH _ _ _|apply sT));(first|exact nfL_eq rfl|exact rfl);exact rfl)|((first|apply kh|apply kl);(iterate 2 exact rfl);(first|decide|omega);exact rfl)|(apply idxX;(iterate 2 exact rfl);(iterate 2(first|omega|(dsimp only;omega)));exact rfl)|((first|(apply kR;iterate 2 exact rfl)|(apply kQ;exact rfl));all_goals(intro hc;try simp only[hcs]at hc;try(exfalso;first|contradiction|omega))))
      all_goals (
        apply DW.quiet [0, 1, 2, 3, 4, 5, 6, 7, 8, 9, 10, 11, 12, 13, 14, 15, 16, 17, 18, 19, 20, 21, 22, 23, 24, 25, 26, 27]
        · decide +kernel
        · first | exact fun _ h => h | exact fun _ h => St.sub h (by repeat (first | exact List.Sublist.refl _ | apply List.Sublist.cons_cons | apply List.Sublist.cons))
        repeat'(first|(apply yp;iterate 3 exact rfl)|(apply QL.ev;(·exact rfl);(·first|((first|apply Ez|apply Ey);(·exact rfl);(·repeat(first|exact iO|exact iR rfl|apply iT));exact rfl)|((first|apply Ev.fieldAddr|apply Ev.len|apply EqOf.eq|apply EqOf.ne|apply Ev.conv|apply Ev.buildN);exact rfl)|((first|apply Ev.shr|apply Ev.shl);(iterate 2 exact rfl);first|decide|omega));·exact rfl)|(apply QL.ev; (· exact rfl); (· first | (apply Ev.indexAddr; (· exact rfl); (· exact rfl); (· omega); (· omega)) | (apply Ev.load; (· exact rfl); (· intro w' hw'; first | (refine ldv w' (hw'.rd_of ?_) _ ?_; (· (repeat (first | exact mH _ _ | apply mT))); (· simp; done)) | (refine ldc w' (hw'.oldRd hx) 1 _ rfl _ ?_; (· simp; done)) | (refine ldc w' (hw'.oldRd hx) 2 _ rfl _ ?_; (· simp; done))))); (· exact rfl))|(apply QL.evg; (iterate 3 exact rfl); (· first | (apply Ev.indexAddr; (· exact rfl); (· exact rfl); (· omega); (· omega)) | (apply Ev.load; (· exact rfl); (· intro w' hw'; first | (refine ldv w' (hw'.rd_of ?_) _ ?_; (· (repeat (first | exact mH _ _ | apply mT))); (· simp; done)) | (refine ldc w' (hw'.oldRd hx) 1 _ rfl _ ?_; (· simp; done)) | (refine ldc w' (hw'.oldRd hx) 2 _ rfl _ ?_; (· simp; done))))); (· exact rfl))|(apply yq;iterate 5 exact rfl)|(apply QL.evg;(iterate 3 exact rfl);(·first|((first|apply Ez|apply Ey);(·exact rfl);(·repeat(first|exact iO|exact iR rfl|apply iT));exact rfl)|((first|apply Ev.fieldAddr|apply Ev.len|apply EqOf.eq|apply EqOf.ne|apply Ev.conv|apply Ev.buildN);exact rfl)|((first|apply Ev.shr|apply Ev.shl);(iterate 2 exact rfl);first|decide|omega));·exact rfl)|(apply yn;iterate 4 exact rfl)|((apply QL.split;iterate 3 exact rfl);all_goals(intro hc;try simp only[hcs]at hc;try(exfalso;first|contradiction|omega)))|apply QL.nil)
        all_goals (show DW _ _ _ _ _ _ _ _))
      all_goals (first | (apply DW.done_thn; (· decide +kernel)) | (apply DW.done; (· decide +kernel)))
      repeat'(first|(apply kp;iterate 2 exact rfl)|apply jJ|(apply jE;exact rfl)|(apply jp;exact rfl)|(apply jc;kernel_rfl)|((first|apply kf|apply kn|apply ke|apply kx|apply kc|apply kb);iterate 2 exact rfl)|((first|apply kz|apply ky);(·exact rfl);(·repeat(first|exact iO|exact iR rfl|apply iT));iterate 2 exact rfl)|(apply kg;iterate 2 exact rfl)|(apply kG;iterate 3 exact rfl)|(apply kB;(iterate 2 exact rfl);intro _)|(apply kA;exact rfl;intro _)|(apply kK;(iterate 4 exact rfl);intro _)|(apply kU;(iterate 2 exact rfl);(·repeat(first|exact sH _ _ _|apply sT));(first|exact nfL_eq rfl|exact rfl);exact rfl)|((first|apply kh|apply kl);(iterate 2 exact rfl);(first|decide|omega);exact rfl)|(apply addX;(iterate 2 exact rfl);(iterate 2(first|omega|(dsimp only;omega)));exact rfl)|((first|(apply kR;iterate 2 exact rfl)|(apply kQ;exact rfl));all_goals(intro hc;try simp only[hcs]at hc;try(exfalso;first|contradiction|omega))))
      all_goals first
        | (apply ret1; (· exact rfl); intro w' hS; have hxk := hcase (by assumption) (by assumption); have hii : ¬ i < p.length := fun h => hin h hxk; obtain ⟨_, hq0, hip⟩ := hout hii; rw [if_neg hq0]; exact ⟨by rw [← hip]; rfl, hS.toKeep⟩)
        | skip
      all_goals (
        have hnk : xk ≠ kOf m := by
          rw [← hyk]
          unfold kOf
          intro e
          simp only [Prod.mk.injEq] at e
          first | exact absurd e.1 (by assumption) | exact absurd e.2 (by assumption)
        have hii : i < p.length := Decidable.byContradiction fun h => hnk (hout h).1
        apply At.again (i + 1)
        · show i + 1 ≤ p.length
          omega
        · (repeat (first | exact Out.refl _ _ | exact Out.mix | (apply Out.upd; (· exact rfl)) | (apply Out.updL; (· exact rfl)) | (apply Out.mixs; (· exact rfl))))
        · exact ⟨rfl, trivial⟩
        · exact fun w' hw' => hw'
        · show p.length + 1 - (i + 1) < p.length + 1 - i
          omega)
  · repeat'(first|(apply kp;iterate 2 exact rfl)|apply jJ|(apply jE;exact rfl)|(apply jp;exact rfl)|(apply jc;kernel_rfl)|((first|apply kf|apply kn|apply ke|apply kx|apply kc|apply kb);iterate 2 exact rfl)|((first|apply kz|apply ky);(·exact rfl);(·repeat(first|exact iO|exact iR rfl|apply iT));iterate 2 exact rfl)|(apply kg;iterate 2 exact rfl)|(apply kG;iterate 3 exact rfl)|(apply kB;(iterate 2 exact rfl);intro _)|(apply kA;exact rfl;intro _)|(apply kK;(iterate 4 exact rfl);intro _)|(apply kU;(iterate 2 exact rfl);(·repeat(first|exact sH _ _ _|apply sT));(first|exact nfL_eq rfl|exact rfl);exact rfl)|((first|apply kh|apply kl);(iterate 2 exact rfl);(first|decide|omega);exact rfl)|((first|(apply kR;iterate 2 exact rfl)|(apply kQ;exact rfl));all_goals(intro hc;try simp only[hcs]at hc;try(exfalso;first|contradiction|omega))))
    (apply ret1; (· exact rfl); intro w' hS)
    have hq0 : q = [] := by
      cases q with
      | nil => rfl
      | cons z q' => simp at hlt; omega
    rw [if_pos hq0]
    exact ⟨rfl, hS.toKeep⟩
theorem ownsAt_cap {w : World} {E : TypeId} {sz n c : Nat} {a : Option Addr} {xs : List Value} (h : ownsAt w E sz (.slice a n c) n xs) : n ≤ c := by
  rcases h.2 with ⟨he, hn⟩ | ⟨g, o, cap, cur, he, hg, h1, h2, h3, h4⟩
  · omega
  · simp only [Value.slice.injEq] at he
    omega
theorem splice_one (xs : List Value) (i : Nat) (v : Value) (h : i < xs.length) : splice xs i [v] = xs.set i v := by
  unfold splice
  rw [List.set_eq_take_append_cons_drop, if_pos h]
  simp
theorem drop_perm (p q : List RW) (x y : RW) (hy : (p ++ x :: q).getLast? = some y) : ((p ++ x :: q).set p.length y).dropLast.Perm (p ++ q) := by
  rw [show (p ++ x :: q).set p.length y = p ++ y :: q by simp [List.set_append]]
  rcases List.eq_nil_or_concat q with rfl | ⟨q', z, rfl⟩
  · simp
  · have hz : z = y := by
      rw [List.concat_eq_append, show p ++ x :: (q' ++ [z]) = (p ++ x :: q') ++ [z] by simp, List.getLast?_append] at hy
      simpa using hy
    subst hz
    rw [List.concat_eq_append, show p ++ z :: (q' ++ [z]) = (p ++ z :: q') ++ [z] by simp, List.dropLast_concat]
    have : (z :: q').Perm (q' ++ [z]) := (List.perm_append_singleton z q').symm
    exact this.append_left p
theorem g52n (b : Nat) (w : World) : CallsTo Try.prog 52 [.pointer (some ⟨b, 0, none⟩), .int .i64 (-1)] w fun v w' => v = .tuple #[] ∧ Grew w w' := by
  refine go_in (n := 38) (St.refl _ NoF) Try.func52 rfl rfl ?_
  repeat'(first|(apply kp;iterate 2 exact rfl)|apply jJ|(apply jE;exact rfl)|(apply jp;exact rfl)|(apply jc;kernel_rfl)|((first|apply kf|apply kn|apply ke|apply kx|apply kc|apply kb);iterate 2 exact rfl)|((first|apply kz|apply ky);(·exact rfl);(·repeat(first|exact iO|exact iR rfl|apply iT));iterate 2 exact rfl)|(apply kg;iterate 2 exact rfl)|(apply kG;iterate 3 exact rfl)|(apply kB;(iterate 2 exact rfl);intro _)|(apply kA;exact rfl;intro _)|(apply kK;(iterate 4 exact rfl);intro _)|(apply kU;(iterate 2 exact rfl);(·repeat(first|exact sH _ _ _|apply sT));(first|exact nfL_eq rfl|exact rfl);exact rfl)|((first|apply kh|apply kl);(iterate 2 exact rfl);(first|decide|omega);exact rfl)|((first|(apply kR;iterate 2 exact rfl)|(apply kQ;exact rfl));all_goals(intro hc;try simp only[hcs]at hc;try(exfalso;first|contradiction|omega))))
  apply end0 rfl
  exact fun w' hS => ⟨rfl, hS.toKeep⟩
set_option maxHeartbeats 1000000 in
theorem g52y (b : Nat) (A : Option Addr) (C : Nat) (p q : List RW) (x : RW) (w : World) (h : (rQ b A C (p ++ x :: q)).holds w) (hm : (p ++ x :: q).length ≤ 140737488355328) : CallsTo Try.prog 52 [.pointer (some ⟨b, 0, none⟩), .int .i64 (p.length : Int)] w fun v w' => ∃ rs', rs'.Perm (p ++ q) ∧ Step (rQ b A C (p ++ x :: q)) (rQ b A C rs') w w' := by
  have hS1 := (St.one h (both_live h) (rQ_dep b A C _)).part (Asrt.dep_own _ _) (odl.dep _ _ _ _ _)
  obtain ⟨y, hy⟩ : ∃ y, (p ++ x :: q).getLast? = some y := by
    cases hl : (p ++ x :: q).getLast? with
    | none => simp at hl
    | some y => exact ⟨y, rfl⟩
  have hlen : 0 < (p ++ x :: q).length := by rw [List.length_append, List.length_cons]; omega
  have hpl : p.length < (p ++ x :: q).length := by rw [List.length_append, List.length_cons]; omega
  have hyl : (p ++ x :: q)[(p ++ x :: q).length - 1]? = some y := by rw [← List.getLast?_eq_getElem?]; exact hy
  have fin : ∀ (rs' : List RW) (R : List Asrt) (w' : World), St w (rQ b A C (p ++ x :: q)).foot (rB b A C rs'.length :: rL A C rs' :: R) w' → Step (rQ b A C (p ++ x :: q)) (rQ b A C rs') w w' := fun rs' R w' hS => (hS.join rfl rfl).step rfl
  generalize hF : (rQ b A C (p ++ x :: q)).foot = F at *
  obtain ⟨ba, oa, rfl⟩ := (ownsAt_rd hS1.g1).form (fun e => by have := congrArg List.length e; simp at this)
  have hcap : (p ++ x :: q).length ≤ C := ownsAt_cap hS1.g1
  have ldv : ∀ w', Rd w' (some ⟨ba, oa, none⟩) ((p ++ x :: q).map RW.val) → ∀ k, k = oa + ((p ++ x :: q).length - 1) → w'.cell? ⟨ba, k, none⟩ = some y.val := by
    intro w' hw' k hk
    subst hk
    exact hw'.cell (by rw [List.getElem?_map, hyl]; rfl)
  refine go_in (n := 38) hS1 Try.func52 rfl rfl ?_
  repeat'(first|(apply CW.reg_sinkC 18; (· exact rfl); (· decide +kernel))|(apply kp;iterate 2 exact rfl)|apply jJ|(apply jE;exact rfl)|(apply jp;exact rfl)|(apply jc;kernel_rfl)|((first|apply kf|apply kn|apply ke|apply kx|apply kc|apply kb);iterate 2 exact rfl)|((first|apply kz|apply ky);(·exact rfl);(·repeat(first|exact iO|exact iR rfl|apply iT));iterate 2 exact rfl)|(apply kg;iterate 2 exact rfl)|(apply kG;iterate 3 exact rfl)|(apply kB;(iterate 2 exact rfl);intro _)|(apply kA;exact rfl;intro _)|(apply kK;(iterate 4 exact rfl);intro _)|(apply kU;(iterate 2 exact rfl);(·repeat(first|exact sH _ _ _|apply sT));(first|exact nfL_eq rfl|exact rfl);exact rfl)|((first|apply kh|apply kl);(iterate 2 exact rfl);(first|decide|omega);exact rfl)|((first|(apply kR;iterate 2 exact rfl)|(apply kQ;exact rfl));all_goals(intro hc;try simp only[hcs]at hc;try(exfalso;first|contradiction|omega))))
  all_goals (
    apply DW.quiet [0, 1, 2, 3, 4, 5, 6, 7, 8, 9, 10, 11, 12, 13, 14, 15, 16, 17]
    · decide +kernel
    · first | exact fun _ h => h | exact fun _ h => St.sub h (by repeat (first | exact List.Sublist.refl _ | apply List.Sublist.cons_cons | apply List.Sublist.cons))
    repeat'(first|(apply yp;iterate 3 exact rfl)|(apply QL.ev;(·exact rfl);(·first|((first|apply Ez|apply Ey);(·exact rfl);(·repeat(first|exact iO|exact iR rfl|apply iT));exact rfl)|((first|apply Ev.fieldAddr|apply Ev.len|apply EqOf.eq|apply EqOf.ne|apply Ev.conv|apply Ev.buildN);exact rfl)|((first|apply Ev.shr|apply Ev.shl);(iterate 2 exact rfl);first|decide|omega));·exact rfl)|(apply QL.ev; (· exact rfl); (· first | (apply Ev.indexAddr; (· exact rfl); (· exact rfl); (· omega); (· omega)) | (apply Ev.load; (· exact rfl); (· intro w' hw'; refine ldv w' (hw'.rd_of_odl (by (repeat (first | exact mH _ _ | apply mT)))) _ ?_; (· omega))) | (apply subQ (a := (p ++ x :: q).length) (b := 1) rfl; (· exact rfl); (· exact rfl); (· omega); (· omega)) | (apply hiQ (j := (p ++ x :: q).length - 1); (· exact rfl); (· exact rfl); (· omega))); (· exact rfl))|(apply yq;iterate 5 exact rfl)|(apply QL.evg;(iterate 3 exact rfl);(·first|((first|apply Ez|apply Ey);(·exact rfl);(·repeat(first|exact iO|exact iR rfl|apply iT));exact rfl)|((first|apply Ev.fieldAddr|apply Ev.len|apply EqOf.eq|apply EqOf.ne|apply Ev.conv|apply Ev.buildN);exact rfl)|((first|apply Ev.shr|apply Ev.shl);(iterate 2 exact rfl);first|decide|omega));·exact rfl)|(apply yn;iterate 4 exact rfl)|((apply QL.split;iterate 3 exact rfl);all_goals(intro hc;try simp only[hcs]at hc;try(exfalso;first|contradiction|omega)))|apply QL.nil)
    all_goals (show DW _ _ _ _ _ _ _ _))
  all_goals (apply DW.done; (· decide +kernel))
  all_goals apply At.sink
  have hst : Stores Try.prog 31 ⟨ba, oa + p.length, none⟩ y.val (odl (.slice (some ⟨ba, oa, none⟩) (p ++ x :: q).length C) 31 1 (p ++ x :: q).length ((p ++ x :: q).map RW.val)) (odl (.slice (some ⟨ba, oa, none⟩) (p ++ x :: q).length C) 31 1 (p ++ x :: q).length (((p ++ x :: q).set p.length y).map RW.val)) := by
    have st := Stores.odl (P := Try.prog) (T := 31) (q := 1) (b := ba) (o := oa) (i := p.length) (n := (p ++ x :: q).length) (c := C) (v := y.val) (vs := [y.val]) (xs := (p ++ x :: q).map RW.val) (E := 31) (sz := 1) inferInstance rfl rfl rfl (by rw [List.length_map]; show p.length + 1 ≤ _; omega)
    rw [splice_one _ _ _ (by rw [List.length_map]; omega), ← List.map_set] at st
    exact st
  refine LR.store_obj (v := y.val) (z := rL (some ⟨ba, oa, none⟩) C (p ++ x :: q)) (z' := odl (.slice (some ⟨ba, oa, none⟩) (p ++ x :: q).length C) 31 1 (p ++ x :: q).length (((p ++ x :: q).set p.length y).map RW.val)) rfl rfl (by (repeat (first | exact sH _ _ _ | apply sT))) rfl (by rw [show ((p.length : Int)).toNat * 1 = p.length by omega]; exact hst) (odl.dep _ _ _ _ _) ?_
  repeat'(first|(apply CW.reg_sinkC 14; (· exact rfl); (· decide +kernel))|(apply kp;iterate 2 exact rfl)|apply jJ|(apply jE;exact rfl)|(apply jp;exact rfl)|(apply jc;kernel_rfl)|((first|apply kf|apply kn|apply ke|apply kx|apply kc|apply kb);iterate 2 exact rfl)|((first|apply kz|apply ky);(·exact rfl);(·repeat(first|exact iO|exact iR rfl|apply iT));iterate 2 exact rfl)|(apply kg;iterate 2 exact rfl)|(apply kG;iterate 3 exact rfl)|(apply kB;(iterate 2 exact rfl);intro _)|(apply kA;exact rfl;intro _)|(apply kK;(iterate 4 exact rfl);intro _)|(apply kU;(iterate 2 exact rfl);(·repeat(first|exact sH _ _ _|apply sT));(first|exact nfL_eq rfl|exact rfl);exact rfl)|((first|apply kh|apply kl);(iterate 2 exact rfl);(first|decide|omega);exact rfl)|((first|(apply kR;iterate 2 exact rfl)|(apply kQ;exact rfl));all_goals(intro hc;try simp only[hcs]at hc;try(exfalso;first|contradiction|omega))))
  all_goals (
    apply DW.quiet [0, 1, 2, 3, 4, 5, 6, 7, 8, 9, 10, 11, 12, 13]
    · decide +kernel
    · first | exact fun _ h => h | exact fun _ h => St.sub h (by repeat (first | exact List.Sublist.refl _ | apply List.Sublist.cons_cons | apply List.Sublist.cons))
    repeat'(first|(apply yp;iterate 3 exact rfl)|(apply QL.ev;(·exact rfl);(·first|((first|apply Ez|apply Ey);(·exact rfl);(·repeat(first|exact iO|exact iR rfl|apply iT));exact rfl)|((first|apply Ev.fieldAddr|apply Ev.len|apply EqOf.eq|apply EqOf.ne|apply Ev.conv|apply Ev.buildN);exact rfl)|((first|apply Ev.shr|apply Ev.shl);(iterate 2 exact rfl);first|decide|omega));·exact rfl)|(apply QL.ev; (· exact rfl); (· first | (apply Ev.indexAddr; (· exact rfl); (· exact rfl); (· omega); (· omega)) | (apply Ev.load; (· exact rfl); (· intro w' hw'; refine ldv w' (hw'.rd_of_odl (by (repeat (first | exact mH _ _ | apply mT)))) _ ?_; (· omega))) | (apply subQ (a := (p ++ x :: q).length) (b := 1) rfl; (· exact rfl); (· exact rfl); (· omega); (· omega)) | (apply hiQ (j := (p ++ x :: q).length - 1); (· exact rfl); (· exact rfl); (· omega))); (· exact rfl))|(apply yq;iterate 5 exact rfl)|(apply QL.evg;(iterate 3 exact rfl);(·first|((first|apply Ez|apply Ey);(·exact rfl);(·repeat(first|exact iO|exact iR rfl|apply iT));exact rfl)|((first|apply Ev.fieldAddr|apply Ev.len|apply EqOf.eq|apply EqOf.ne|apply Ev.conv|apply Ev.buildN);exact rfl)|((first|apply Ev.shr|apply Ev.shl);(iterate 2 exact rfl);first|decide|omega));·exact rfl)|(apply yn;iterate 4 exact rfl)|((apply QL.split;iterate 3 exact rfl);all_goals(intro hc;try simp only[hcs]at hc;try(exfalso;first|contradiction|omega)))|apply QL.nil)
    all_goals (show DW _ _ _ _ _ _ _ _))
  all_goals (apply DW.done; (· decide +kernel))
  all_goals apply At.sink
  repeat'(first|(apply kp;iterate 2 exact rfl)|apply jJ|(apply jE;exact rfl)|(apply jp;exact rfl)|(apply jc;kernel_rfl)|((first|apply kf|apply kn|apply ke|apply kx|apply kc|apply kb);iterate 2 exact rfl)|((first|apply kz|apply ky);(·exact rfl);(·repeat(first|exact iO|exact iR rfl|apply iT));iterate 2 exact rfl)|(apply kg;iterate 2 exact rfl)|(apply kG;iterate 3 exact rfl)|(apply kB;(iterate 2 exact rfl);intro _)|(apply kA;exact rfl;intro _)|(apply kK;(iterate 4 exact rfl);intro _)|(apply kU;(iterate 2 exact rfl);(·repeat(first|exact sH _ _ _|apply sT));(first|exact nfL_eq rfl|exact rfl);exact rfl)|((first|apply kh|apply kl);(iterate 2 exact rfl);(first|decide|omega);exact rfl)|((first|(apply kR;iterate 2 exact rfl)|(apply kQ;exact rfl));all_goals(intro hc;try simp only[hcs]at hc;try(exfalso;first|contradiction|omega))))
  apply end0 rfl
  intro w' hS
  have h2 := hS.odl_take (l := (p ++ x :: q).length - 1) (E := 31) (sz := 1) (k := (p ++ x :: q).length) (a := some ⟨ba, oa, none⟩) (c := C) (xs := ((p ++ x :: q).set p.length y).map RW.val) (by (repeat (first | exact sH _ _ _ | apply sT))) (by omega)
  have hl2 : (((p ++ x :: q).set p.length y).dropLast).length = (p ++ x :: q).length - 1 := by rw [List.length_dropLast, List.length_set]
  have e1 : (((p ++ x :: q).set p.length y).map RW.val).take (((p ++ x :: q).length - 1) * 1) = (((p ++ x :: q).set p.length y).dropLast).map RW.val := by
    rw [Nat.mul_one, List.dropLast_eq_take, List.length_set, List.map_take]
  refine ⟨((p ++ x :: q).set p.length y).dropLast, drop_perm p q x y hy, fin _ [] w' ?_⟩
  rw [e1, ← hl2] at h2
  rw [subA_zero] at h2
  exact h2
end Go.Proofs.Ytphcnaafhcfakaa

namespace Go.Proofs.Ytphcnaafhcfakaa
open Go.Hb
attribute [local irreducible] LR CW At Ev thn blk finK noG again CallsTo DW QL dnext TW DP
set_option linter.unusedSimpArgs false
set_option linter.unusedVariables false
set_option maxRecDepth 100000

theorem lookK {P Q : Jn} {k : Int × Int} {l : List Msg} (h : ((P ++ (k, l) :: Q).map Prod.fst).Nodup) : lookJ (P ++ (k, l) :: Q) k = some l ∧ restJ (P ++ (k, l) :: Q) k = P ++ Q ∧ ∀ p ∈ P, p.1 ≠ k := by
  rw [List.map_append, List.map_cons, List.nodup_append] at h
  obtain ⟨h1, h2, h3⟩ := h
  have hp : ∀ p ∈ P, p.1 ≠ k := fun p hp => h3 _ (List.mem_map.2 ⟨p, hp, rfl⟩) _ List.mem_cons_self
  have hq : ∀ p ∈ Q, p.1 ≠ k := fun p hp e => (List.nodup_cons.1 h2).1 (List.mem_map.2 ⟨p, hp, e⟩)
  refine ⟨?_, ?_, hp⟩
  · unfold lookJ
    rw [List.find?_append, List.find?_eq_none.2 (fun p hm => by simp [hp p hm])]
    simp
  · unfold restJ
    rw [List.filter_append, List.filter_cons_of_neg (by simp), List.filter_eq_self.2 (fun y hy => by simp [hp y hy]), List.filter_eq_self.2 (fun y hy => by simp [hq y hy])]
theorem lookK_no {A : Jn} {k : Int × Int} (h : ∀ p ∈ A, p.1 ≠ k) : lookJ A k = none ∧ restJ A k = A := by
  constructor
  · unfold lookJ
    rw [List.find?_eq_none.2 (fun p hm => by simp [h p hm])]
    rfl
  · unfold restJ
    rw [List.filter_eq_self.2 (fun y hy => by simp [h y hy])]
theorem sel_self {L L' : List Asrt} {x y : Asrt} (h : Sel L x y L') (e : x = y) : L' = L := by
  induction h with
  | head => rw [e]
  | tail _ _ ih => rw [ih e]
theorem St.reS {w0 w : World} {F : Nat → Prop} {L L' : List Asrt} {x y : Asrt} (e : x = y) (hs : Sel L x y L') (h : St w0 F L w) : St w0 F L' w := by rw [sel_self hs e]; exact h
theorem rs_split (rs : List RW) (k : Int × Int) : (∀ x ∈ rs, x.k ≠ k) ∨ ∃ p x q, rs = p ++ x :: q ∧ x.k = k := by
  by_cases h : ∃ x ∈ rs, x.k = k
  · obtain ⟨x, hx, hk⟩ := h
    obtain ⟨p, q, rfl⟩ := List.append_of_mem hx
    exact .inr ⟨p, x, q, rfl, hk⟩
  · exact .inl fun x hx hk => h ⟨x, hx, hk⟩
theorem take_joinB (l : List Msg) {i : Nat} (h : i < l.length) : joinB (l.take (i + 1)) = joinB (l.take i) ++ l[i].body := by
  rw [List.take_succ_eq_append_getElem h, joinB_snoc]
theorem bun_rd {rs : List RW} {w : World} (h : (bunR rs).holds w) : ∀ x ∈ rs, Rd w x.a (x.l.flatMap MsgA.row) := fun x hx => RW.rd (h.1 x hx)
set_option maxHeartbeats 8000000 in
theorem g23 (b : Nat) (A : Option Addr) (C : Nat) (rs : List RW) (m : Msg) (a : Option Addr) (c : Nat) (w : World) (h : (rO b A C rs).holds w) (hok : OkJ (rs.map RW.kl)) (hN : rs.length ≤ 1172812402926) (hr : Rd w a (bv m.body)) (hz : a = none → c = 0) (hm : m.body.length ≤ 140737488355328) (hb : Byt m.body) (hd : ∀ k, rdFoot a (bv m.body) k → ¬ (rO b A C rs).foot k) :
    CallsTo Try.prog 23 [.pointer (some ⟨b, 0, none⟩), m.val a c] w fun v w' => ∃ pa pc a' c' rs', v = .tuple [.slice pa (putJ (rs.map RW.kl) m).out.length pc, .bool (putJ (rs.map RW.kl) m).is, .int .i64 (putJ (rs.map RW.kl) m).e].toArray ∧ (rs'.map RW.kl).Perm (putJ (rs.map RW.kl) m).A ∧ rs'.length ≤ rs.length + 1 ∧
      St w (rO b A C rs).foot [rO b a' c' rs', osl (.slice pa (putJ (rs.map RW.kl) m).out.length pc) 5 1 (putJ (rs.map RW.kl) m).out.length (bv (putJ (rs.map RW.kl) m).out)] w' := by
  have hS1 := ((St.one h (both_live h) (rO_dep b A C rs)).part (rQ_dep b A C rs) (bun_dep RW.dep rs)).part (Asrt.dep_own _ _) (odl.dep _ _ _ _ _)
  have hne : ∀ x ∈ rs, x.l.map MsgA.m ≠ [] ∧ OkL x.k (x.l.map MsgA.m) := fun x hx => by
    have := hok.ok x.kl (List.mem_map.2 ⟨x, hx, rfl⟩)
    exact ⟨this.ne, this⟩
  generalize hF : (rO b A C rs).foot = F at *
  have none1 : ∀ (A' : Option Addr) (C' : Nat) (rs' : List RW) (R : List Asrt) (w' : World), St w F (rB b A' C' rs'.length :: rL A' C' rs' :: bunR rs' :: R) w' → St w F [rO b A' C' rs', osl (.slice none 0 0) 5 1 0 (bv [])] w' := fun A' C' rs' R w' hS => ((((hS.join rfl rfl).join rfl rfl).sub (L' := [rO b A' C' rs']) (by exact List.Sublist.cons_cons _ (List.nil_sublist _))).nilsl 5 1).swap
  refine go_in (n := 88) hS1 Try.func23 rfl rfl ?_
  by_cases hg : check m = 0 ∧ m.kind = 1
  · have ht := text_of_check hg.1 hg.2
    obtain ⟨hck, hki⟩ := hg
    have hg : check m = 0 ∧ m.kind = 1 := ⟨hck, hki⟩
    rcases rs_split rs (kOf m) with hno | ⟨p, x, q, rfl, hxk⟩
    · have hlk := lookK_no (A := rs.map RW.kl) (k := kOf m) (fun y hy => by obtain ⟨x, hx, rfl⟩ := List.mem_map.1 hy; exact hno x hx)
      repeat'(first|(apply kp;iterate 2 exact rfl)|apply jJ|(apply jE;exact rfl)|(apply jp;exact rfl)|(apply jc;kernel_rfl)|((first|apply kf|apply kn|apply ke|apply kx|apply kc|apply kb);iterate 2 exact rfl)|((first|apply kz|apply ky);(·exact rfl);(·repeat(first|exact iO|exact iR rfl|apply iT));iterate 2 exact rfl)|(apply kg;iterate 2 exact rfl)|(apply kG;iterate 3 exact rfl)|(apply kB;(iterate 2 exact rfl);intro _)|(apply kA;exact rfl;intro _)|(apply kK;(iterate 4 exact rfl);intro _)|(apply kU;(iterate 2 exact rfl);(·repeat(first|exact sH _ _ _|apply sT));(first|exact nfL_eq rfl|exact rfl);exact rfl)|((first|apply kh|apply kl);(iterate 2 exact rfl);(first|decide|omega);exact rfl)|(apply kq; (· exact rfl); (· intro w1 h1; (have hq := CallsTo.q (d18 m a c w1 (h1.oldRdF hr hd) hz hm hb) h1; show CallsTo Try.prog 47 [m.val a c] w1 _; exact hq)))|(apply kq; (· exact rfl); (· intro w1 h1; first | (have hq := CallsTo.q (g50 b A C rs [] m a c w1 (by simpa using h1.rd_of_blk (by (repeat (first | exact mH _ _ | apply mT)))) (by simpa using h1.rd_of_odl (a := A) (by (repeat (first | exact mH _ _ | apply mT)))) (by simpa using bun_rd (h1.holds (bunR rs) (by (repeat (first | exact mH _ _ | apply mT))))) (by simpa using hne) hno (by simp) (by simp; omega)) h1; rw [if_pos rfl] at hq; show CallsTo Try.prog 50 [.pointer (some ⟨b, 0, none⟩), m.val a c] w1 _; exact hq) | exact CallsTo.q (g52n b w1) h1))|((first|(apply kR;iterate 2 exact rfl)|(apply kQ;exact rfl));all_goals(intro hc;try simp only[hcs]at hc;try(exfalso;first|contradiction|omega))))
      · have hcont : contJ (rs.map RW.kl) m = none := by unfold contJ; rw [if_neg (by omega), hlk.1]; rfl
        apply ret3
        · exact rfl
        intro w' hS
        rw [putJ_none hg hcont, hlk.2]
        exact ⟨none, 0, A, C, rs, rfl, List.Perm.refl _, by omega, none1 A C rs [] w' hS.tail1⟩
      · have hcont : contJ (rs.map RW.kl) m = some (([] : List MsgA).map MsgA.m) := by unfold contJ; rw [if_pos (by omega)]; rfl
        have hPm : (rs.map RW.kl).Perm (restJ (rs.map RW.kl) (kOf m)) := by rw [hlk.2]
        rename_i bm _ _
        apply LR.call
        · exact rfl
        intro w1 h1
        have h1' : St w F [rB b A C rs.length, rL A C rs, bunR rs, mS none 0 ([] : List MsgA), bunB ([] : List MsgA), .own bm (.cells (m.cells a c).toArray 28 (0, 0))] w1 := (front (front (front ((h1.bun_nil MsgA.dep).nilsl 28 13) 5 rfl rfl) 5 rfl rfl) 5 rfl rfl)
        refine CallsTo.mono (show CallsTo Try.prog 12 _ w1 _ from c14 m a c w1 (h1.oldRdF hr hd) hz hm) ?_
        rintro v w2 ⟨a1, c1, rfl, hn1⟩
        refine LR.back (h1'.newSl hn1) ?_
        clear hn1 h1 h1'
        have hcl := cont_len hok hg hcont
        rw [List.length_map] at hcl
        have hXm : (([] : List MsgA) ++ [MsgA.mk m a1 c1]).map MsgA.m = ([] : List MsgA).map MsgA.m ++ [m] := by simp
        have hXl : (([] : List MsgA) ++ [MsgA.mk m a1 c1]).length = ([] : List MsgA).length + 1 := by simp
        have hOkX : OkL (kOf m) ((([] : List MsgA) ++ [MsgA.mk m a1 c1]).map MsgA.m) := by rw [hXm]; exact hcl.2
        have hXn := OkL.len hOkX
        rw [List.length_map, hXl] at hXn
        repeat'(first|(apply kp;iterate 2 exact rfl)|apply jJ|(apply jE;exact rfl)|(apply jp;exact rfl)|(apply jc;kernel_rfl)|((first|apply kf|apply kn|apply ke|apply kx|apply kc|apply kb);iterate 2 exact rfl)|((first|apply kz|apply ky);(·exact rfl);(·repeat(first|exact iO|exact iR rfl|apply iT));iterate 2 exact rfl)|(apply kg;iterate 2 exact rfl)|(apply kG;iterate 3 exact rfl)|(apply kB;(iterate 2 exact rfl);intro _)|(apply kA;exact rfl;intro _)|(apply kK;(iterate 4 exact rfl);intro _)|(apply kU;(iterate 2 exact rfl);(·repeat(first|exact sH _ _ _|apply sT));(first|exact nfL_eq rfl|exact rfl);exact rfl)|((first|apply kh|apply kl);(iterate 2 exact rfl);(first|decide|omega);exact rfl)|((first|(apply kR;iterate 2 exact rfl)|(apply kQ;exact rfl));all_goals(intro hc;try simp only[hcs]at hc;try(exfalso;first|contradiction|omega))))
        apply LR.append (xs := ([] : List MsgA).flatMap MsgA.row) (news := MsgA.row ⟨m, a1, c1⟩) (m := 1)
        · exact rfl
        · exact rfl
        · intro a' c'; (repeat (first | exact sH _ _ _ | apply sT))
        · intro w' hw'; exact hw'.rd_of_blk (mH _ _)
        · intro hx; cases hx
        · exact rfl
        · simp [MsgA.row, Msg.cells, Value.oneCell']
        · omega
        · unfold maxLen; omega
        · exact rfl
        intro a2 c2
        refine LR.sub (D := St w F [rB b A C rs.length, rL A C rs, bunR rs, mS a2 c2 (([] : List MsgA) ++ [MsgA.mk m a1 c1]), bunB (([] : List MsgA) ++ [MsgA.mk m a1 c1]), .own bm (.cells (m.cells a c).toArray 28 (0, 0))]) (fun w' hw' => ?_) ?_
        · have h2 := St.bun_snoc (f := MsgA.body) (x := ⟨m, a1, c1⟩) (l := ([] : List MsgA)) MsgA.dep MsgA.ex (front (front (St.reS (mS_snoc a2 c2 ([] : List MsgA) ⟨m, a1, c1⟩) (by (repeat (first | exact sH _ _ _ | apply sT))) hw') 6 rfl rfl) 2 rfl rfl)
          exact (front (front (front (front h2 5 rfl rfl) 5 rfl rfl) 5 rfl rfl) 5 rfl rfl).sub (by repeat (first | exact List.Sublist.refl _ | exact List.nil_sublist _ | apply List.Sublist.cons_cons | apply List.Sublist.cons))
        repeat'(first|(apply kp;iterate 2 exact rfl)|apply jJ|(apply jE;exact rfl)|(apply jp;exact rfl)|(apply jc;kernel_rfl)|((first|apply kf|apply kn|apply ke|apply kx|apply kc|apply kb);iterate 2 exact rfl)|((first|apply kz|apply ky);(·exact rfl);(·repeat(first|exact iO|exact iR rfl|apply iT));iterate 2 exact rfl)|(apply kg;iterate 2 exact rfl)|(apply kG;iterate 3 exact rfl)|(apply kB;(iterate 2 exact rfl);intro _)|(apply kA;exact rfl;intro _)|(apply kK;(iterate 4 exact rfl);intro _)|(apply kU;(iterate 2 exact rfl);(·repeat(first|exact sH _ _ _|apply sT));(first|exact nfL_eq rfl|exact rfl);exact rfl)|((first|apply kh|apply kl);(iterate 2 exact rfl);(first|decide|omega);exact rfl)|((first|(apply kR;iterate 2 exact rfl)|(apply kQ;exact rfl));all_goals(intro hc;try simp only[hcs]at hc;try(exfalso;first|contradiction|omega))))
        · apply LR.append_odl (a := A) (c := C) (k := rs.length) (xs := rs.map RW.val) (news := [.slice a2 (([] : List MsgA).length + 1) c2]) (m := 1)
          · exact rfl
          · exact rfl
          · intro a' c'; (repeat (first | exact sH _ _ _ | apply sT))
          · intro w' hw'; exact hw'.rd_of_blk (mH _ _)
          · intro hx; cases hx
          · exact rfl
          · exact rfl
          · omega
          · unfold maxLen; omega
          · exact rfl
          intro a3 c3
          repeat'(first|(apply kp;iterate 2 exact rfl)|apply jJ|(apply jE;exact rfl)|(apply jp;exact rfl)|(apply jc;kernel_rfl)|((first|apply kf|apply kn|apply ke|apply kx|apply kc|apply kb);iterate 2 exact rfl)|((first|apply kz|apply ky);(·exact rfl);(·repeat(first|exact iO|exact iR rfl|apply iT));iterate 2 exact rfl)|(apply kg;iterate 2 exact rfl)|(apply kG;iterate 3 exact rfl)|(apply kB;(iterate 2 exact rfl);intro _)|(apply kA;exact rfl;intro _)|(apply kK;(iterate 4 exact rfl);intro _)|(apply kU;(iterate 2 exact rfl);(·repeat(first|exact sH _ _ _|apply sT));(first|exact nfL_eq rfl|exact rfl);exact rfl)|((first|apply kh|apply kl);(iterate 2 exact rfl);(first|decide|omega);exact rfl)|((first|(apply kR;iterate 2 exact rfl)|(apply kQ;exact rfl));all_goals(intro hc;try simp only[hcs]at hc;try(exfalso;first|contradiction|omega))))
          apply ret3
          · exact rfl
          intro w' hS
          rw [putJ_more hg hcont (by rw [List.length_map]; omega)]
          refine ⟨none, 0, a3, c3, rs ++ [RW.mk (kOf m) (([] : List MsgA) ++ [MsgA.mk m a1 c1]) a2 c2], rfl, ?_, by rw [List.length_append]; show rs.length + 1 ≤ _; omega, ?_⟩
          · rw [List.map_append, ← hXm]
            exact hPm.append_right _
          · have h2 : St w F (RW.body (RW.mk (kOf m) (([] : List MsgA) ++ [MsgA.mk m a1 c1]) a2 c2) :: _) w' := (front (front hS 5 rfl rfl) 5 rfl rfl).join rfl rfl
            have h3 := St.bun_snoc (f := RW.body) (x := RW.mk (kOf m) (([] : List MsgA) ++ [MsgA.mk m a1 c1]) a2 c2) (l := rs) RW.dep RW.ex (front h2 4 rfl rfl).swap
            have h4 := front (front h3 3 rfl rfl) 3 rfl rfl
            have e1 : (rs ++ [RW.mk (kOf m) (([] : List MsgA) ++ [MsgA.mk m a1 c1]) a2 c2]).length = rs.length + 1 := by simp
            have e2 : odl (.slice a3 (rs.length + 1) c3) 31 1 (rs.length + 1) (rs.map RW.val ++ [.slice a2 (([] : List MsgA).length + 1) c2]) = rL a3 c3 (rs ++ [RW.mk (kOf m) (([] : List MsgA) ++ [MsgA.mk m a1 c1]) a2 c2]) := by
              show _ = odl (.slice a3 (rs ++ [RW.mk (kOf m) (([] : List MsgA) ++ [MsgA.mk m a1 c1]) a2 c2]).length c3) 31 1 (rs ++ [RW.mk (kOf m) (([] : List MsgA) ++ [MsgA.mk m a1 c1]) a2 c2]).length ((rs ++ [RW.mk (kOf m) (([] : List MsgA) ++ [MsgA.mk m a1 c1]) a2 c2]).map RW.val)
              rw [e1, List.map_append]
              simp [RW.val]
            rw [e2] at h4
            exact none1 a3 c3 _ _ w' (by rw [e1]; exact h4)
        · apply CW.loop [9, 10, 74, 75, 76, 77, 78, 79, 80, 81, 82, 83, 84, 85, 86] (fun s : Nat × Option Addr × Nat => s.1 ≤ (([] : List MsgA) ++ [MsgA.mk m a1 c1]).length) (fun s => [(10, Value.int .i64 (s.1 : Int)), (9, .slice s.2.1 (joinB (((([] : List MsgA) ++ [MsgA.mk m a1 c1]).map MsgA.m).take s.1)).length s.2.2)])
            (fun s => St w F [osl (.slice s.2.1 (joinB (((([] : List MsgA) ++ [MsgA.mk m a1 c1]).map MsgA.m).take s.1)).length s.2.2) 5 1 (joinB (((([] : List MsgA) ++ [MsgA.mk m a1 c1]).map MsgA.m).take s.1)).length (bv (joinB (((([] : List MsgA) ++ [MsgA.mk m a1 c1]).map MsgA.m).take s.1))), rB b A C rs.length, rL A C rs, bunR rs, mS a2 c2 (([] : List MsgA) ++ [MsgA.mk m a1 c1]), bunB (([] : List MsgA) ++ [MsgA.mk m a1 c1])]) (fun s => (([] : List MsgA) ++ [MsgA.mk m a1 c1]).length - s.1)
          · exact fun w' hw' => ⟨(0, none, 0), by simp, ⟨rfl, rfl, trivial⟩, (hw'.sub (by repeat (first | exact List.Sublist.refl _ | exact List.nil_sublist _ | apply List.Sublist.cons_cons | apply List.Sublist.cons))).nilsl 5 1⟩
          rintro ⟨i, oa', oc⟩ g2 hi
          simp only at hi ⊢
          generalize hX : ([] : List MsgA) ++ [MsgA.mk m a1 c1] = X at *
          by_cases hlt : i < X.length
          · have hlm : i < (X.map MsgA.m).length := by rw [List.length_map]; exact hlt
            have htj := take_joinB (X.map MsgA.m) hlm
            rw [List.getElem_map] at htj
            have hbl : ∀ y ∈ (X.map MsgA.m).take i, y.body.length ≤ 48 := fun y hy => (text_of_check (hOkX.mem (List.mem_of_mem_take hy)).1 (hOkX.mem (List.mem_of_mem_take hy)).2.1).2.2.2.2
            have hjl := joinB_len hbl
            rw [List.length_take, List.length_map] at hjl
            have hbi := (text_of_check (hOkX.mem (m := X[i].m) (List.mem_map.2 ⟨_, List.getElem_mem hlt, rfl⟩)).1 (hOkX.mem (m := X[i].m) (List.mem_map.2 ⟨_, List.getElem_mem hlt, rfl⟩)).2.1).2.2.2.2
            refine LR_cls_cw fun w1 hw1 => ?_
            have hxz : X[i].a = none → X[i].m.body.length = 0 ∧ X[i].c = 0 := ownsRow_some ((hw1.holds (bunB X) (by (repeat (first | exact mH _ _ | apply mT)))).1 _ (List.getElem_mem hlt))
            obtain ⟨bx, ox, rfl⟩ := (ownsRow_rd (hw1.holds (mS a2 c2 X) (by (repeat (first | exact mH _ _ | apply mT))))).form (rows_ne MsgA.row_len (i := i) (by omega) hlt)
            refine CW.sub (D := St w F _) ?_ (fun u e => e ▸ hw1)
            clear hw1 w1
            repeat'(first|(apply kp;iterate 2 exact rfl)|apply jJ|(apply jE;exact rfl)|(apply jp;exact rfl)|(apply jc;kernel_rfl)|((first|apply kf|apply kn|apply ke|apply kx|apply kc|apply kb);iterate 2 exact rfl)|((first|apply kz|apply ky);(·exact rfl);(·repeat(first|exact iO|exact iR rfl|apply iT));iterate 2 exact rfl)|(apply kg;iterate 2 exact rfl)|(apply kG;iterate 3 exact rfl)|(apply kB;(iterate 2 exact rfl);intro _)|(apply kA;exact rfl;intro _)|(apply kK;(iterate 4 exact rfl);intro _)|(apply kU;(iterate 2 exact rfl);(·repeat(first|exact sH _ _ _|apply sT));(first|exact nfL_eq rfl|exact rfl);exact rfl)|((first|apply kh|apply kl);(iterate 2 exact rfl);(first|decide|omega);exact rfl)|(apply idxX;(iterate 2 exact rfl);(iterate 2(first|omega|(dsimp only;omega)));exact rfl)|(apply LR.ev; (· apply Ev.load; (· exact rfl); (· intro w' hw'; exact row_cell MsgA.row_len (hw'.rd_of_own (a := some ⟨bx, ox, none⟩) (by (repeat (first | exact mH _ _ | apply mT)))) hlt 12 rfl (by simp))); (· exact rfl))|((first|(apply kR;iterate 2 exact rfl)|(apply kQ;exact rfl));all_goals(intro hc;try simp only[hcs]at hc;try(exfalso;first|contradiction|omega))))
            apply LR.append (xs := bv (joinB ((X.map MsgA.m).take i))) (news := bv X[i].m.body) (m := X[i].m.body.length)
            · exact rfl
            · exact rfl
            · intro a' c'; (repeat (first | exact sH _ _ _ | apply sT))
            · intro w' hw'; exact ownsRow_rd ((hw'.holds (bunB X) (by (repeat (first | exact mH _ _ | apply mT)))).1 _ (List.getElem_mem hlt))
            · exact hxz
            · simp
            · exact bv_one _
            · omega
            · unfold maxLen; omega
            · exact rfl
            intro ay cy
            repeat'(first|(apply kp;iterate 2 exact rfl)|apply jJ|(apply jE;exact rfl)|(apply jp;exact rfl)|(apply jc;kernel_rfl)|((first|apply kf|apply kn|apply ke|apply kx|apply kc|apply kb);iterate 2 exact rfl)|((first|apply kz|apply ky);(·exact rfl);(·repeat(first|exact iO|exact iR rfl|apply iT));iterate 2 exact rfl)|(apply kg;iterate 2 exact rfl)|(apply kG;iterate 3 exact rfl)|(apply kB;(iterate 2 exact rfl);intro _)|(apply kA;exact rfl;intro _)|(apply kK;(iterate 4 exact rfl);intro _)|(apply kU;(iterate 2 exact rfl);(·repeat(first|exact sH _ _ _|apply sT));(first|exact nfL_eq rfl|exact rfl);exact rfl)|((first|apply kh|apply kl);(iterate 2 exact rfl);(first|decide|omega);exact rfl)|(apply addX;(iterate 2 exact rfl);(iterate 2(first|omega|(dsimp only;omega)));exact rfl)|((first|(apply kR;iterate 2 exact rfl)|(apply kQ;exact rfl));all_goals(intro hc;try simp only[hcs]at hc;try(exfalso;first|contradiction|omega))))
            apply At.again (i + 1, ay, cy)
            · show i + 1 ≤ _
              omega
            · (repeat (first | exact Out.refl _ _ | exact Out.mix | (apply Out.upd; (· exact rfl)) | (apply Out.updL; (· exact rfl)) | (apply Out.mixs; (· exact rfl))))
            · refine ⟨rfl, ?_, trivial⟩
              show Value.slice ay _ cy = .slice ay (joinB ((X.map MsgA.m).take (i + 1))).length cy
              rw [htj, List.length_append]
            · intro w' hw'
              show St w F [osl (.slice ay (joinB ((X.map MsgA.m).take (i + 1))).length cy) 5 1 (joinB ((X.map MsgA.m).take (i + 1))).length (bv (joinB ((X.map MsgA.m).take (i + 1)))), _, _, _, _, _] w'
              rw [htj, List.length_append, show bv (joinB ((X.map MsgA.m).take i) ++ X[i].m.body) = bv (joinB ((X.map MsgA.m).take i)) ++ bv X[i].m.body by simp [bv]]
              exact hw'
            · show X.length - (i + 1) < X.length - i
              omega
          · repeat'(first|(apply kp;iterate 2 exact rfl)|apply jJ|(apply jE;exact rfl)|(apply jp;exact rfl)|(apply jc;kernel_rfl)|((first|apply kf|apply kn|apply ke|apply kx|apply kc|apply kb);iterate 2 exact rfl)|((first|apply kz|apply ky);(·exact rfl);(·repeat(first|exact iO|exact iR rfl|apply iT));iterate 2 exact rfl)|(apply kg;iterate 2 exact rfl)|(apply kG;iterate 3 exact rfl)|(apply kB;(iterate 2 exact rfl);intro _)|(apply kA;exact rfl;intro _)|(apply kK;(iterate 4 exact rfl);intro _)|(apply kU;(iterate 2 exact rfl);(·repeat(first|exact sH _ _ _|apply sT));(first|exact nfL_eq rfl|exact rfl);exact rfl)|((first|apply kh|apply kl);(iterate 2 exact rfl);(first|decide|omega);exact rfl)|((first|(apply kR;iterate 2 exact rfl)|(apply kQ;exact rfl));all_goals(intro hc;try simp only[hcs]at hc;try(exfalso;first|contradiction|omega))))
            apply ret3
            · exact rfl
            intro w' hS
            rw [List.take_of_length_le (l := X.map MsgA.m) (i := i) (by rw [List.length_map]; omega)] at hS ⊢
            rw [putJ_whole hg hcont (by rw [List.length_map]; omega), ← hXm]
            exact ⟨oa', oc, A, C, rs, rfl, hPm, by omega, (((front (front (front hS 3 rfl rfl) 3 rfl rfl) 3 rfl rfl).join rfl rfl).join rfl rfl).sub (by repeat (first | exact List.Sublist.refl _ | exact List.nil_sublist _ | apply List.Sublist.cons_cons | apply List.Sublist.cons))⟩
    · have hnd := hok.nd
      have hkl : (p ++ x :: q).map RW.kl = p.map RW.kl ++ (kOf m, x.l.map MsgA.m) :: q.map RW.kl := by rw [List.map_append, List.map_cons, ← hxk]; rfl
      rw [hkl] at hnd
      obtain ⟨hlk, hlk2, hpk⟩ := lookK hnd
      rw [← hkl] at hlk hlk2
      rw [← List.map_append] at hlk2
      have hpk' : ∀ y ∈ p, y.k ≠ kOf m := fun y hy => hpk y.kl (List.mem_map.2 ⟨y, hy, rfl⟩)
      have hokx := (hne x (by simp)).2
      have hxn := OkL.len hokx
      rw [List.length_map] at hxn
      have hx0 : x.l ≠ [] := fun e => (hne x (by simp)).1 (by rw [e]; rfl)
      have hpl : p.length < (p ++ x :: q).length := by rw [List.length_append, List.length_cons]; omega
      obtain ⟨ba, oa, rfl⟩ := (ownsAt_rd hS1.g1).form (fun e => by have := congrArg List.length e; rw [List.length_map] at this; rw [this] at hpl; exact absurd hpl (by simp))
      have ldx : ∀ w', Rd w' (some ⟨ba, oa, none⟩) ((p ++ x :: q).map RW.val) → ∀ k, k = oa + p.length → w'.cell? ⟨ba, k, none⟩ = some (.slice x.a x.l.length x.c) := by
        intro w' hw' k hk
        subst hk
        exact hw'.cell (by rw [List.getElem?_map, List.getElem?_append_right (by omega), Nat.sub_self]; rfl)
      repeat'(first|(apply CW.reg_heldC)|(apply kp;iterate 2 exact rfl)|apply jJ|(apply jE;exact rfl)|(apply jp;exact rfl)|(apply jc;kernel_rfl)|((first|apply kf|apply kn|apply ke|apply kx|apply kc|apply kb);iterate 2 exact rfl)|((first|apply kz|apply ky);(·exact rfl);(·repeat(first|exact iO|exact iR rfl|apply iT));iterate 2 exact rfl)|(apply kg;iterate 2 exact rfl)|(apply kG;iterate 3 exact rfl)|(apply kB;(iterate 2 exact rfl);intro _)|(apply kA;exact rfl;intro _)|(apply kK;(iterate 4 exact rfl);intro _)|(apply kU;(iterate 2 exact rfl);(·repeat(first|exact sH _ _ _|apply sT));(first|exact nfL_eq rfl|exact rfl);exact rfl)|((first|apply kh|apply kl);(iterate 2 exact rfl);(first|decide|omega);exact rfl)|(apply kq; (· exact rfl); (· intro w1 h1; (have hq := CallsTo.q (d18 m a c w1 (h1.oldRdF hr hd) hz hm hb) h1; show CallsTo Try.prog 47 [m.val a c] w1 _; exact hq)))|(apply kq; (· exact rfl); (· intro w1 h1; (have hq := CallsTo.q (g50 b (some ⟨ba, oa, none⟩) C p (x :: q) m a c w1 (h1.rd_of_blk (by (repeat (first | exact mH _ _ | apply mT)))) (h1.rd_of_odl (by (repeat (first | exact mH _ _ | apply mT)))) (bun_rd (h1.holds (bunR (p ++ x :: q)) (by (repeat (first | exact mH _ _ | apply mT))))) hne hpk' (by intro y hy; simp at hy; subst hy; exact hxk) (by omega)) h1; rw [if_neg (by simp)] at hq; show CallsTo Try.prog 50 [.pointer (some ⟨b, 0, none⟩), m.val a c] w1 _; exact hq)))|((first|(apply kR;iterate 2 exact rfl)|(apply kQ;exact rfl));all_goals(intro hc;try simp only[hcs]at hc;try(exfalso;first|contradiction|omega))))
      · skip
        all_goals (
          apply DW.quiet [0, 1, 2, 3, 4, 5, 6, 7, 8, 9, 10]
          · decide +kernel
          · first | exact fun _ h => h | exact fun _ h => St.sub h (by repeat (first | exact List.Sublist.refl _ | apply List.Sublist.cons_cons | apply List.Sublist.cons))
          repeat'(first|(apply yp;iterate 3 exact rfl)|(apply QL.ev;(·exact rfl);(·first|((first|apply Ez|apply Ey);(·exact rfl);(·repeat(first|exact iO|exact iR rfl|apply iT));exact rfl)|((first|apply Ev.fieldAddr|apply Ev.len|apply EqOf.eq|apply EqOf.ne|apply Ev.conv|apply Ev.buildN);exact rfl)|((first|apply Ev.shr|apply Ev.shl);(iterate 2 exact rfl);first|decide|omega));·exact rfl)|(apply QL.ev; (· exact rfl); (· first | (apply Ev.indexAddr; (· exact rfl); (· exact rfl); (· omega); (· omega)) | (apply Ev.load; (· exact rfl); (· intro w' hw'; refine ldx w' (hw'.rd_of_odl (by (repeat (first | exact mH _ _ | apply mT)))) _ ?_; (· omega)))); (· exact rfl))|(apply QL.evg; (iterate 3 exact rfl); (· first | (apply Ev.indexAddr; (· exact rfl); (· exact rfl); (· omega); (· omega)) | (apply Ev.load; (· exact rfl); (· intro w' hw'; refine ldx w' (hw'.rd_of_odl (by (repeat (first | exact mH _ _ | apply mT)))) _ ?_; (· omega)))); (· exact rfl))|(apply yq;iterate 5 exact rfl)|(apply QL.evg;(iterate 3 exact rfl);(·first|((first|apply Ez|apply Ey);(·exact rfl);(·repeat(first|exact iO|exact iR rfl|apply iT));exact rfl)|((first|apply Ev.fieldAddr|apply Ev.len|apply EqOf.eq|apply EqOf.ne|apply Ev.conv|apply Ev.buildN);exact rfl)|((first|apply Ev.shr|apply Ev.shl);(iterate 2 exact rfl);first|decide|omega));·exact rfl)|(apply yn;iterate 4 exact rfl)|((apply QL.split;iterate 3 exact rfl);all_goals(intro hc;try simp only[hcs]at hc;try(exfalso;first|contradiction|omega)))|apply QL.nil)
          all_goals (show DW _ _ _ _ _ _ _ _))
        all_goals (
          apply DW.loud 11
          · exact rfl
          · decide +kernel
          repeat'(first|(apply kg;iterate 2 exact rfl)|(apply kG;iterate 3 exact rfl)|apply kM|(apply kp;iterate 2 exact rfl)|((first|apply kz|apply ky);(·exact rfl);(·repeat(first|exact iO|exact iR rfl|apply iT));iterate 2 exact rfl)|(apply kK;(iterate 4 exact rfl);intro _)|(apply kU;(iterate 2 exact rfl);(·repeat(first|exact sH _ _ _|apply sT));(first|exact nfL_eq rfl|exact rfl);exact rfl)|(apply kB;(iterate 2 exact rfl);intro _)|(apply kA;exact rfl;intro _)|(apply kq; (· exact rfl); (· intro w1 h1; exact CallsTo.q (g51 x.a x.c x.l m a c w1 (bun_rd (h1.holds (bunR (p ++ x :: q)) (by (repeat (first | exact mH _ _ | apply mT)))) x (by simp)) hx0) h1)))
          all_goals (refine At.stage_same (fun _ h => St.sub h (by repeat (first | exact List.Sublist.refl _ | apply List.Sublist.cons_cons | apply List.Sublist.cons))) ?_))
        all_goals (
          apply DW.quiet [12, 13]
          · decide +kernel
          · first | exact fun _ h => h | exact fun _ h => St.sub h (by repeat (first | exact List.Sublist.refl _ | apply List.Sublist.cons_cons | apply List.Sublist.cons))
          repeat'(first|(apply yp;iterate 3 exact rfl)|(apply QL.ev;(·exact rfl);(·first|((first|apply Ez|apply Ey);(·exact rfl);(·repeat(first|exact iO|exact iR rfl|apply iT));exact rfl)|((first|apply Ev.fieldAddr|apply Ev.len|apply EqOf.eq|apply EqOf.ne|apply Ev.conv|apply Ev.buildN);exact rfl)|((first|apply Ev.shr|apply Ev.shl);(iterate 2 exact rfl);first|decide|omega));·exact rfl)|(apply QL.ev; (· exact rfl); (· first | (apply Ev.indexAddr; (· exact rfl); (· exact rfl); (· omega); (· omega)) | (apply Ev.load; (· exact rfl); (· intro w' hw'; refine ldx w' (hw'.rd_of_odl (by (repeat (first | exact mH _ _ | apply mT)))) _ ?_; (· omega)))); (· exact rfl))|(apply QL.evg; (iterate 3 exact rfl); (· first | (apply Ev.indexAddr; (· exact rfl); (· exact rfl); (· omega); (· omega)) | (apply Ev.load; (· exact rfl); (· intro w' hw'; refine ldx w' (hw'.rd_of_odl (by (repeat (first | exact mH _ _ | apply mT)))) _ ?_; (· omega)))); (· exact rfl))|(apply yq;iterate 5 exact rfl)|(apply QL.evg;(iterate 3 exact rfl);(·first|((first|apply Ez|apply Ey);(·exact rfl);(·repeat(first|exact iO|exact iR rfl|apply iT));exact rfl)|((first|apply Ev.fieldAddr|apply Ev.len|apply EqOf.eq|apply EqOf.ne|apply Ev.conv|apply Ev.buildN);exact rfl)|((first|apply Ev.shr|apply Ev.shl);(iterate 2 exact rfl);first|decide|omega));·exact rfl)|(apply yn;iterate 4 exact rfl)|((apply QL.split;iterate 3 exact rfl);all_goals(intro hc;try simp only[hcs]at hc;try(exfalso;first|contradiction|omega)))|apply QL.nil)
          all_goals (show DW _ _ _ _ _ _ _ _))
        all_goals (first | (apply DW.done_thn; (· decide +kernel)) | (apply DW.done; (· decide +kernel)))
        repeat'(first|(apply kp;iterate 2 exact rfl)|apply jJ|(apply jE;exact rfl)|(apply jp;exact rfl)|(apply jc;kernel_rfl)|((first|apply kf|apply kn|apply ke|apply kx|apply kc|apply kb);iterate 2 exact rfl)|((first|apply kz|apply ky);(·exact rfl);(·repeat(first|exact iO|exact iR rfl|apply iT));iterate 2 exact rfl)|(apply kg;iterate 2 exact rfl)|(apply kG;iterate 3 exact rfl)|(apply kB;(iterate 2 exact rfl);intro _)|(apply kA;exact rfl;intro _)|(apply kK;(iterate 4 exact rfl);intro _)|(apply kU;(iterate 2 exact rfl);(·repeat(first|exact sH _ _ _|apply sT));(first|exact nfL_eq rfl|exact rfl);exact rfl)|((first|apply kh|apply kl);(iterate 2 exact rfl);(first|decide|omega);exact rfl)|(apply LR.ev; (· first | (apply Ev.indexAddr; (· exact rfl); (· exact rfl); (· omega); (· omega)) | (apply Ev.load; (· exact rfl); (· intro w' hw'; refine ldx w' (hw'.rd_of_odl (by (repeat (first | exact mH _ _ | apply mT)))) _ ?_; (· omega)))); (· exact rfl))|((first|(apply kR;iterate 2 exact rfl)|(apply kQ;exact rfl));all_goals(intro hc;try simp only[hcs]at hc;try(exfalso;first|contradiction|omega))))
        · have hgo : goesB (x.l.map MsgA.m) m = false := by simp_all
          have hcont : contJ ((p ++ x :: q).map RW.kl) m = none := by unfold contJ; rw [if_neg (by omega), hlk]; show (if goesB (x.l.map MsgA.m) m = true then some (x.l.map MsgA.m) else none) = _; rw [hgo]; rfl
          apply LR.call
          · exact rfl
          intro w1 h1
          have h1' : St w F (rQ b (some ⟨ba, oa, none⟩) C (p ++ x :: q) :: _) w1 := ((front (front h1 1 rfl rfl) 2 rfl rfl).swap).join rfl rfl
          refine (g52y b (some ⟨ba, oa, none⟩) C p q x w1 h1'.g0 (by omega)).mono ?_
          rintro v w2 ⟨rs', hpm, st⟩
          have h2 := (h1'.one' st rfl (rQ_dep _ _ _ _) (sH _ _ _)).part (Asrt.dep_own _ _) (odl.dep _ _ _ _ _)
          have hl1 : rs'.length + 1 = (p ++ x :: q).length := by rw [hpm.length_eq]; simp; omega
          have hPm : (rs'.map RW.kl).Perm (restJ ((p ++ x :: q).map RW.kl) (kOf m)) := by rw [hlk2]; exact hpm.map _
          have h3 := front (front (St.bun_perm RW.dep hpm.symm (St.bun_sub (l' := p ++ q) RW.dep (List.Sublist.append (List.Sublist.refl p) (List.sublist_cons_self x q)) (front h2 3 rfl rfl))) 2 rfl rfl) 2 rfl rfl
          refine LR.back h3 ?_
          clear h3 h2 st h1' h1
          repeat'(first|(apply kp;iterate 2 exact rfl)|apply jJ|(apply jE;exact rfl)|(apply jp;exact rfl)|(apply jc;kernel_rfl)|((first|apply kf|apply kn|apply ke|apply kx|apply kc|apply kb);iterate 2 exact rfl)|((first|apply kz|apply ky);(·exact rfl);(·repeat(first|exact iO|exact iR rfl|apply iT));iterate 2 exact rfl)|(apply kg;iterate 2 exact rfl)|(apply kG;iterate 3 exact rfl)|(apply kB;(iterate 2 exact rfl);intro _)|(apply kA;exact rfl;intro _)|(apply kK;(iterate 4 exact rfl);intro _)|(apply kU;(iterate 2 exact rfl);(·repeat(first|exact sH _ _ _|apply sT));(first|exact nfL_eq rfl|exact rfl);exact rfl)|((first|apply kh|apply kl);(iterate 2 exact rfl);(first|decide|omega);exact rfl)|((first|(apply kR;iterate 2 exact rfl)|(apply kQ;exact rfl));all_goals(intro hc;try simp only[hcs]at hc;try(exfalso;first|contradiction|omega))))
          apply ret3
          · exact rfl
          intro w' hS
          rw [putJ_none hg hcont]
          exact ⟨none, 0, some ⟨ba, oa, none⟩, C, rs', rfl, hPm, by omega, none1 _ C rs' _ w' hS⟩
        · have hgo : goesB (x.l.map MsgA.m) m = true := by simp_all
          have hcont : contJ ((p ++ x :: q).map RW.kl) m = some (x.l.map MsgA.m) := by unfold contJ; rw [if_neg (by omega), hlk]; show (if goesB (x.l.map MsgA.m) m = true then some (x.l.map MsgA.m) else none) = _; rw [hgo]; rfl
          have hxz : x.a = none → x.l.length = 0 ∧ x.c = 0 := ownsRow_some ((hS1.holds (bunR (p ++ x :: q)) (by (repeat (first | exact mH _ _ | apply mT)))).1 x (by simp)).1
          apply LR.append_nil (news := x.l.flatMap MsgA.row) (m := x.l.length)
          · exact rfl
          · exact rfl
          · intro w' hw'; exact bun_rd (hw'.holds (bunR (p ++ x :: q)) (by (repeat (first | exact mH _ _ | apply mT)))) x (by simp)
          · exact hxz
          · exact Go.Hb.rows_len MsgA.row_len x.l
          · exact row_one x.l
          · omega
          · unfold maxLen; omega
          · exact rfl
          intro la lc
          repeat'(first|(apply kp;iterate 2 exact rfl)|apply jJ|(apply jE;exact rfl)|(apply jp;exact rfl)|(apply jc;kernel_rfl)|((first|apply kf|apply kn|apply ke|apply kx|apply kc|apply kb);iterate 2 exact rfl)|((first|apply kz|apply ky);(·exact rfl);(·repeat(first|exact iO|exact iR rfl|apply iT));iterate 2 exact rfl)|(apply kg;iterate 2 exact rfl)|(apply kG;iterate 3 exact rfl)|(apply kB;(iterate 2 exact rfl);intro _)|(apply kA;exact rfl;intro _)|(apply kK;(iterate 4 exact rfl);intro _)|(apply kU;(iterate 2 exact rfl);(·repeat(first|exact sH _ _ _|apply sT));(first|exact nfL_eq rfl|exact rfl);exact rfl)|((first|apply kh|apply kl);(iterate 2 exact rfl);(first|decide|omega);exact rfl)|((first|(apply kR;iterate 2 exact rfl)|(apply kQ;exact rfl));all_goals(intro hc;try simp only[hcs]at hc;try(exfalso;first|contradiction|omega))))
          apply LR.call
          · exact rfl
          intro w1 h1
          have h1' : St w F (rQ b (some ⟨ba, oa, none⟩) C (p ++ x :: q) :: _) w1 := ((front (front h1 2 rfl rfl) 3 rfl rfl).swap).join rfl rfl
          refine (g52y b (some ⟨ba, oa, none⟩) C p q x w1 h1'.g0 (by omega)).mono ?_
          rintro v w2 ⟨rs', hpm, st⟩
          have h2 := (h1'.one' st rfl (rQ_dep _ _ _ _) (sH _ _ _)).part (Asrt.dep_own _ _) (odl.dep _ _ _ _ _)
          have hl1 : rs'.length + 1 = (p ++ x :: q).length := by rw [hpm.length_eq]; simp; omega
          have hPm : (rs'.map RW.kl).Perm (restJ ((p ++ x :: q).map RW.kl) (kOf m)) := by rw [hlk2]; exact hpm.map _
          have h3 := St.bun_pick (q := q) RW.dep (front h2 4 rfl rfl)
          have h4 := (h3.part (osl.dep _ _ _ _ _) (bun_dep MsgA.dep _)).tail1.swap
          have h5 := front (front (front (front (St.bun_perm RW.dep hpm.symm h4) 4 rfl rfl) 1 rfl rfl) 4 rfl rfl) 4 rfl rfl
          refine LR.back h5 ?_
          clear h5 h4 h3 h2 st h1' h1
          repeat'(first|(apply kp;iterate 2 exact rfl)|apply jJ|(apply jE;exact rfl)|(apply jp;exact rfl)|(apply jc;kernel_rfl)|((first|apply kf|apply kn|apply ke|apply kx|apply kc|apply kb);iterate 2 exact rfl)|((first|apply kz|apply ky);(·exact rfl);(·repeat(first|exact iO|exact iR rfl|apply iT));iterate 2 exact rfl)|(apply kg;iterate 2 exact rfl)|(apply kG;iterate 3 exact rfl)|(apply kB;(iterate 2 exact rfl);intro _)|(apply kA;exact rfl;intro _)|(apply kK;(iterate 4 exact rfl);intro _)|(apply kU;(iterate 2 exact rfl);(·repeat(first|exact sH _ _ _|apply sT));(first|exact nfL_eq rfl|exact rfl);exact rfl)|((first|apply kh|apply kl);(iterate 2 exact rfl);(first|decide|omega);exact rfl)|((first|(apply kR;iterate 2 exact rfl)|(apply kQ;exact rfl));all_goals(intro hc;try simp only[hcs]at hc;try(exfalso;first|contradiction|omega))))
          rename_i bm _ _ _
          apply LR.call
          · exact rfl
          intro w1 h1
          have h1' : St w F [rB b (some ⟨ba, oa, none⟩) C rs'.length, rL (some ⟨ba, oa, none⟩) C rs', bunR rs', mS la lc x.l, bunB x.l, .own bm (.cells (m.cells a c).toArray 28 (0, 0))] w1 := h1
          refine CallsTo.mono (show CallsTo Try.prog 12 _ w1 _ from c14 m a c w1 (h1.oldRdF hr hd) hz hm) ?_
          rintro v w2 ⟨a1, c1, rfl, hn1⟩
          refine LR.back (h1'.newSl hn1) ?_
          clear hn1 h1 h1'
          have hcl := cont_len hok hg hcont
          rw [List.length_map] at hcl
          have hXm : (x.l ++ [MsgA.mk m a1 c1]).map MsgA.m = x.l.map MsgA.m ++ [m] := by simp
          have hXl : (x.l ++ [MsgA.mk m a1 c1]).length = x.l.length + 1 := by simp
          have hOkX : OkL (kOf m) ((x.l ++ [MsgA.mk m a1 c1]).map MsgA.m) := by rw [hXm]; exact hcl.2
          have hXn := OkL.len hOkX
          rw [List.length_map, hXl] at hXn
          repeat'(first|(apply kp;iterate 2 exact rfl)|apply jJ|(apply jE;exact rfl)|(apply jp;exact rfl)|(apply jc;kernel_rfl)|((first|apply kf|apply kn|apply ke|apply kx|apply kc|apply kb);iterate 2 exact rfl)|((first|apply kz|apply ky);(·exact rfl);(·repeat(first|exact iO|exact iR rfl|apply iT));iterate 2 exact rfl)|(apply kg;iterate 2 exact rfl)|(apply kG;iterate 3 exact rfl)|(apply kB;(iterate 2 exact rfl);intro _)|(apply kA;exact rfl;intro _)|(apply kK;(iterate 4 exact rfl);intro _)|(apply kU;(iterate 2 exact rfl);(·repeat(first|exact sH _ _ _|apply sT));(first|exact nfL_eq rfl|exact rfl);exact rfl)|((first|apply kh|apply kl);(iterate 2 exact rfl);(first|decide|omega);exact rfl)|((first|(apply kR;iterate 2 exact rfl)|(apply kQ;exact rfl));all_goals(intro hc;try simp only[hcs]at hc;try(exfalso;first|contradiction|omega))))
          apply LR.append (xs := x.l.flatMap MsgA.row) (news := MsgA.row ⟨m, a1, c1⟩) (m := 1)
          · exact rfl
          · exact rfl
          · intro a' c'; (repeat (first | exact sH _ _ _ | apply sT))
          · intro w' hw'; exact hw'.rd_of_blk (mH _ _)
          · intro hx; cases hx
          · exact rfl
          · simp [MsgA.row, Msg.cells, Value.oneCell']
          · omega
          · unfold maxLen; omega
          · exact rfl
          intro a2 c2
          refine LR.sub (D := St w F [rB b (some ⟨ba, oa, none⟩) C rs'.length, rL (some ⟨ba, oa, none⟩) C rs', bunR rs', mS a2 c2 (x.l ++ [MsgA.mk m a1 c1]), bunB (x.l ++ [MsgA.mk m a1 c1]), .own bm (.cells (m.cells a c).toArray 28 (0, 0))]) (fun w' hw' => ?_) ?_
          · have h2 := St.bun_snoc (f := MsgA.body) (x := ⟨m, a1, c1⟩) (l := x.l) MsgA.dep MsgA.ex (front (front (St.reS (mS_snoc a2 c2 x.l ⟨m, a1, c1⟩) (by (repeat (first | exact sH _ _ _ | apply sT))) hw') 6 rfl rfl) 2 rfl rfl)
            exact (front (front (front (front h2 5 rfl rfl) 5 rfl rfl) 5 rfl rfl) 5 rfl rfl).sub (by repeat (first | exact List.Sublist.refl _ | exact List.nil_sublist _ | apply List.Sublist.cons_cons | apply List.Sublist.cons))
          repeat'(first|(apply kp;iterate 2 exact rfl)|apply jJ|(apply jE;exact rfl)|(apply jp;exact rfl)|(apply jc;kernel_rfl)|((first|apply kf|apply kn|apply ke|apply kx|apply kc|apply kb);iterate 2 exact rfl)|((first|apply kz|apply ky);(·exact rfl);(·repeat(first|exact iO|exact iR rfl|apply iT));iterate 2 exact rfl)|(apply kg;iterate 2 exact rfl)|(apply kG;iterate 3 exact rfl)|(apply kB;(iterate 2 exact rfl);intro _)|(apply kA;exact rfl;intro _)|(apply kK;(iterate 4 exact rfl);intro _)|(apply kU;(iterate 2 exact rfl);(·repeat(first|exact sH _ _ _|apply sT));(first|exact nfL_eq rfl|exact rfl);exact rfl)|((first|apply kh|apply kl);(iterate 2 exact rfl);(first|decide|omega);exact rfl)|((first|(apply kR;iterate 2 exact rfl)|(apply kQ;exact rfl));all_goals(intro hc;try simp only[hcs]at hc;try(exfalso;first|contradiction|omega))))
          · apply LR.append_odl (a := (some ⟨ba, oa, none⟩)) (c := C) (k := rs'.length) (xs := rs'.map RW.val) (news := [.slice a2 (x.l.length + 1) c2]) (m := 1)
            · exact rfl
            · exact rfl
            · intro a' c'; (repeat (first | exact sH _ _ _ | apply sT))
            · intro w' hw'; exact hw'.rd_of_blk (mH _ _)
            · intro hx; cases hx
            · exact rfl
            · exact rfl
            · omega
            · unfold maxLen; omega
            · exact rfl
            intro a3 c3
            repeat'(first|(apply kp;iterate 2 exact rfl)|apply jJ|(apply jE;exact rfl)|(apply jp;exact rfl)|(apply jc;kernel_rfl)|((first|apply kf|apply kn|apply ke|apply kx|apply kc|apply kb);iterate 2 exact rfl)|((first|apply kz|apply ky);(·exact rfl);(·repeat(first|exact iO|exact iR rfl|apply iT));iterate 2 exact rfl)|(apply kg;iterate 2 exact rfl)|(apply kG;iterate 3 exact rfl)|(apply kB;(iterate 2 exact rfl);intro _)|(apply kA;exact rfl;intro _)|(apply kK;(iterate 4 exact rfl);intro _)|(apply kU;(iterate 2 exact rfl);(·repeat(first|exact sH _ _ _|apply sT));(first|exact nfL_eq rfl|exact rfl);exact rfl)|((first|apply kh|apply kl);(iterate 2 exact rfl);(first|decide|omega);exact rfl)|((first|(apply kR;iterate 2 exact rfl)|(apply kQ;exact rfl));all_goals(intro hc;try simp only[hcs]at hc;try(exfalso;first|contradiction|omega))))
            apply ret3
            · exact rfl
            intro w' hS
            rw [putJ_more hg hcont (by rw [List.length_map]; omega)]
            refine ⟨none, 0, a3, c3, rs' ++ [RW.mk (kOf m) (x.l ++ [MsgA.mk m a1 c1]) a2 c2], rfl, ?_, by rw [List.length_append]; show rs'.length + 1 ≤ _; omega, ?_⟩
            · rw [List.map_append, ← hXm]
              exact hPm.append_right _
            · have h2 : St w F (RW.body (RW.mk (kOf m) (x.l ++ [MsgA.mk m a1 c1]) a2 c2) :: _) w' := (front (front hS 5 rfl rfl) 5 rfl rfl).join rfl rfl
              have h3 := St.bun_snoc (f := RW.body) (x := RW.mk (kOf m) (x.l ++ [MsgA.mk m a1 c1]) a2 c2) (l := rs') RW.dep RW.ex (front h2 4 rfl rfl).swap
              have h4 := front (front h3 3 rfl rfl) 3 rfl rfl
              have e1 : (rs' ++ [RW.mk (kOf m) (x.l ++ [MsgA.mk m a1 c1]) a2 c2]).length = rs'.length + 1 := by simp
              have e2 : odl (.slice a3 (rs'.length + 1) c3) 31 1 (rs'.length + 1) (rs'.map RW.val ++ [.slice a2 (x.l.length + 1) c2]) = rL a3 c3 (rs' ++ [RW.mk (kOf m) (x.l ++ [MsgA.mk m a1 c1]) a2 c2]) := by
                show _ = odl (.slice a3 (rs' ++ [RW.mk (kOf m) (x.l ++ [MsgA.mk m a1 c1]) a2 c2]).length c3) 31 1 (rs' ++ [RW.mk (kOf m) (x.l ++ [MsgA.mk m a1 c1]) a2 c2]).length ((rs' ++ [RW.mk (kOf m) (x.l ++ [MsgA.mk m a1 c1]) a2 c2]).map RW.val)
                rw [e1, List.map_append]
                simp [RW.val]
              rw [e2] at h4
              exact none1 a3 c3 _ _ w' (by rw [e1]; exact h4)
          · apply CW.loop [9, 10, 74, 75, 76, 77, 78, 79, 80, 81, 82, 83, 84, 85, 86] (fun s : Nat × Option Addr × Nat => s.1 ≤ (x.l ++ [MsgA.mk m a1 c1]).length) (fun s => [(10, Value.int .i64 (s.1 : Int)), (9, .slice s.2.1 (joinB (((x.l ++ [MsgA.mk m a1 c1]).map MsgA.m).take s.1)).length s.2.2)])
              (fun s => St w F [osl (.slice s.2.1 (joinB (((x.l ++ [MsgA.mk m a1 c1]).map MsgA.m).take s.1)).length s.2.2) 5 1 (joinB (((x.l ++ [MsgA.mk m a1 c1]).map MsgA.m).take s.1)).length (bv (joinB (((x.l ++ [MsgA.mk m a1 c1]).map MsgA.m).take s.1))), rB b (some ⟨ba, oa, none⟩) C rs'.length, rL (some ⟨ba, oa, none⟩) C rs', bunR rs', mS a2 c2 (x.l ++ [MsgA.mk m a1 c1]), bunB (x.l ++ [MsgA.mk m a1 c1])]) (fun s => (x.l ++ [MsgA.mk m a1 c1]).length - s.1)
            · exact fun w' hw' => ⟨(0, none, 0), by simp, ⟨rfl, rfl, trivial⟩, (hw'.sub (by repeat (first | exact List.Sublist.refl _ | exact List.nil_sublist _ | apply List.Sublist.cons_cons | apply List.Sublist.cons))).nilsl 5 1⟩
            rintro ⟨i, oa', oc⟩ g2 hi
            simp only at hi ⊢
            generalize hX : x.l ++ [MsgA.mk m a1 c1] = X at *
            by_cases hlt : i < X.length
            · have hlm : i < (X.map MsgA.m).length := by rw [List.length_map]; exact hlt
              have htj := take_joinB (X.map MsgA.m) hlm
              rw [List.getElem_map] at htj
              have hbl : ∀ y ∈ (X.map MsgA.m).take i, y.body.length ≤ 48 := fun y hy => (text_of_check (hOkX.mem (List.mem_of_mem_take hy)).1 (hOkX.mem (List.mem_of_mem_take hy)).2.1).2.2.2.2
              have hjl := joinB_len hbl
              rw [List.length_take, List.length_map] at hjl
              have hbi := (text_of_check (hOkX.mem (m := X[i].m) (List.mem_map.2 ⟨_, List.getElem_mem hlt, rfl⟩)).1 (hOkX.mem (m := X[i].m) (List.mem_map.2 ⟨_, List.getElem_mem hlt, rfl⟩)).2.1).2.2.2.2
              refine LR_cls_cw fun w1 hw1 => ?_
              have hxz : X[i].a = none → X[i].m.body.length = 0 ∧ X[i].c = 0 := ownsRow_some ((hw1.holds (bunB X) (by (repeat (first | exact mH _ _ | apply mT)))).1 _ (List.getElem_mem hlt))
              obtain ⟨bx, ox, rfl⟩ := (ownsRow_rd (hw1.holds (mS a2 c2 X) (by (repeat (first | exact mH _ _ | apply mT))))).form (rows_ne MsgA.row_len (i := i) (by omega) hlt)
              refine CW.sub (D := St w F _) ?_ (fun u e => e ▸ hw1)
              clear hw1 w1
              repeat'(first|(apply kp;iterate 2 exact rfl)|apply jJ|(apply jE;exact rfl)|(apply jp;exact rfl)|(apply jc;kernel_rfl)|((first|apply kf|apply kn|apply ke|apply kx|apply kc|apply kb);iterate 2 exact rfl)|((first|apply kz|apply ky);(·exact rfl);(·repeat(first|exact iO|exact iR rfl|apply iT));iterate 2 exact rfl)|(apply kg;iterate 2 exact rfl)|(apply kG;iterate 3 exact rfl)|(apply kB;(iterate 2 exact rfl);intro _)|(apply kA;exact rfl;intro _)|(apply kK;(iterate 4 exact rfl);intro _)|(apply kU;(iterate 2 exact rfl);(·repeat(first|exact sH _ _ _|apply sT));(first|exact nfL_eq rfl|exact rfl);exact rfl)|((first|apply kh|apply kl);(iterate 2 exact rfl);(first|decide|omega);exact rfl)|(apply idxX;(iterate 2 exact rfl);(iterate 2(first|omega|(dsimp only;omega)));exact rfl)|(apply LR.ev; (· apply Ev.load; (· exact rfl); (· intro w' hw'; exact row_cell MsgA.row_len (hw'.rd_of_own (a := some ⟨bx, ox, none⟩) (by (repeat (first | exact mH _ _ | apply mT)))) hlt 12 rfl (by simp))); (· exact rfl))|((first|(apply kR;iterate 2 exact rfl)|(apply kQ;exact rfl));all_goals(intro hc;try simp only[hcs]at hc;try(exfalso;first|contradiction|omega))))
              apply LR.append (xs := bv (joinB ((X.map MsgA.m).take i))) (news := bv X[i].m.body) (m := X[i].m.body.length)
              · exact rfl
              · exact rfl
              · intro a' c'; (repeat (first | exact sH _ _ _ | apply sT))
              · intro w' hw'; exact ownsRow_rd ((hw'.holds (bunB X) (by (repeat (first | exact mH _ _ | apply mT)))).1 _ (List.getElem_mem hlt))
              · exact hxz
              · simp
              · exact bv_one _
              · omega
              · unfold maxLen; omega
              · exact rfl
              intro ay cy
              repeat'(first|(apply kp;iterate 2 exact rfl)|apply jJ|(apply jE;exact rfl)|(apply jp;exact rfl)|(apply jc;kernel_rfl)|((first|apply kf|apply kn|apply ke|apply kx|apply kc|apply kb);iterate 2 exact rfl)|((first|apply kz|apply ky);(·exact rfl);(·repeat(first|exact iO|exact iR rfl|apply iT));iterate 2 exact rfl)|(apply kg;iterate 2 exact rfl)|(apply kG;iterate 3 exact rfl)|(apply kB;(iterate 2 exact rfl);intro _)|(apply kA;exact rfl;intro _)|(apply kK;(iterate 4 exact rfl);intro _)|(apply kU;(iterate 2 exact rfl);(·repeat(first|exact sH _ _ _|apply sT));(first|exact nfL_eq rfl|exact rfl);exact rfl)|((first|apply kh|apply kl);(iterate 2 exact rfl);(first|decide|omega);exact rfl)|(apply addX;(iterate 2 exact rfl);(iterate 2(first|omega|(dsimp only;omega)));exact rfl)|((first|(apply kR;iterate 2 exact rfl)|(apply kQ;exact rfl));all_goals(intro hc;try simp only[hcs]at hc;try(exfalso;first|contradiction|omega))))
              apply At.again (i + 1, ay, cy)
              · show i + 1 ≤ _
                omega
              · (repeat (first | exact Out.refl _ _ | exact Out.mix | (apply Out.upd; (· exact rfl)) | (apply Out.updL; (· exact rfl)) | (apply Out.mixs; (· exact rfl))))
              · refine ⟨rfl, ?_, trivial⟩
                show Value.slice ay _ cy = .slice ay (joinB ((X.map MsgA.m).take (i + 1))).length cy
                rw [htj, List.length_append]
              · intro w' hw'
                show St w F [osl (.slice ay (joinB ((X.map MsgA.m).take (i + 1))).length cy) 5 1 (joinB ((X.map MsgA.m).take (i + 1))).length (bv (joinB ((X.map MsgA.m).take (i + 1)))), _, _, _, _, _] w'
                rw [htj, List.length_append, show bv (joinB ((X.map MsgA.m).take i) ++ X[i].m.body) = bv (joinB ((X.map MsgA.m).take i)) ++ bv X[i].m.body by simp [bv]]
                exact hw'
              · show X.length - (i + 1) < X.length - i
                omega
            · repeat'(first|(apply kp;iterate 2 exact rfl)|apply jJ|(apply jE;exact rfl)|(apply jp;exact rfl)|(apply jc;kernel_rfl)|((first|apply kf|apply kn|apply ke|apply kx|apply kc|apply kb);iterate 2 exact rfl)|((first|apply kz|apply ky);(·exact rfl);(·repeat(first|exact iO|exact iR rfl|apply iT));iterate 2 exact rfl)|(apply kg;iterate 2 exact rfl)|(apply kG;iterate 3 exact rfl)|(apply kB;(iterate 2 exact rfl);intro _)|(apply kA;exact rfl;intro _)|(apply kK;(iterate 4 exact rfl);intro _)|(apply kU;(iterate 2 exact rfl);(·repeat(first|exact sH _ _ _|apply sT));(first|exact nfL_eq rfl|exact rfl);exact rfl)|((first|apply kh|apply kl);(iterate 2 exact rfl);(first|decide|omega);exact rfl)|((first|(apply kR;iterate 2 exact rfl)|(apply kQ;exact rfl));all_goals(intro hc;try simp only[hcs]at hc;try(exfalso;first|contradiction|omega))))
              apply ret3
              · exact rfl
              intro w' hS
              rw [List.take_of_length_le (l := X.map MsgA.m) (i := i) (by rw [List.length_map]; omega)] at hS ⊢
              rw [putJ_whole hg hcont (by rw [List.length_map]; omega), ← hXm]
              exact ⟨oa', oc, (some ⟨ba, oa, none⟩), C, rs', rfl, hPm, by omega, (((front (front (front hS 3 rfl rfl) 3 rfl rfl) 3 rfl rfl).join rfl rfl).join rfl rfl).sub (by repeat (first | exact List.Sublist.refl _ | exact List.nil_sublist _ | apply List.Sublist.cons_cons | apply List.Sublist.cons))⟩
      · have hcont : contJ ((p ++ x :: q).map RW.kl) m = some (([] : List MsgA).map MsgA.m) := by unfold contJ; rw [if_pos (by omega)]; rfl
        apply LR.call
        · exact rfl
        intro w1 h1
        have h1' : St w F (rQ b (some ⟨ba, oa, none⟩) C (p ++ x :: q) :: _) w1 := ((front (front h1 1 rfl rfl) 2 rfl rfl).swap).join rfl rfl
        refine (g52y b (some ⟨ba, oa, none⟩) C p q x w1 h1'.g0 (by omega)).mono ?_
        rintro v w2 ⟨rs', hpm, st⟩
        have h2 := (h1'.one' st rfl (rQ_dep _ _ _ _) (sH _ _ _)).part (Asrt.dep_own _ _) (odl.dep _ _ _ _ _)
        have hl1 : rs'.length + 1 = (p ++ x :: q).length := by rw [hpm.length_eq]; simp; omega
        have hPm : (rs'.map RW.kl).Perm (restJ ((p ++ x :: q).map RW.kl) (kOf m)) := by rw [hlk2]; exact hpm.map _
        have h3 := front (front (St.bun_perm RW.dep hpm.symm (St.bun_sub (l' := p ++ q) RW.dep (List.Sublist.append (List.Sublist.refl p) (List.sublist_cons_self x q)) (front h2 3 rfl rfl))) 2 rfl rfl) 2 rfl rfl
        refine LR.back h3 ?_
        clear h3 h2 st h1' h1
        repeat'(first|(apply kp;iterate 2 exact rfl)|apply jJ|(apply jE;exact rfl)|(apply jp;exact rfl)|(apply jc;kernel_rfl)|((first|apply kf|apply kn|apply ke|apply kx|apply kc|apply kb);iterate 2 exact rfl)|((first|apply kz|apply ky);(·exact rfl);(·repeat(first|exact iO|exact iR rfl|apply iT));iterate 2 exact rfl)|(apply kg;iterate 2 exact rfl)|(apply kG;iterate 3 exact rfl)|(apply kB;(iterate 2 exact rfl);intro _)|(apply kA;exact rfl;intro _)|(apply kK;(iterate 4 exact rfl);intro _)|(apply kU;(iterate 2 exact rfl);(·repeat(first|exact sH _ _ _|apply sT));(first|exact nfL_eq rfl|exact rfl);exact rfl)|((first|apply kh|apply kl);(iterate 2 exact rfl);(first|decide|omega);exact rfl)|((first|(apply kR;iterate 2 exact rfl)|(apply kQ;exact rfl));all_goals(intro hc;try simp only[hcs]at hc;try(exfalso;first|contradiction|omega))))
        rename_i bm _ _
        apply LR.call
        · exact rfl
        intro w1 h1
        have h1' : St w F [rB b (some ⟨ba, oa, none⟩) C rs'.length, rL (some ⟨ba, oa, none⟩) C rs', bunR rs', mS none 0 ([] : List MsgA), bunB ([] : List MsgA), .own bm (.cells (m.cells a c).toArray 28 (0, 0))] w1 := (front (front (front ((h1.bun_nil MsgA.dep).nilsl 28 13) 4 rfl rfl) 4 rfl rfl) 4 rfl rfl)
        refine CallsTo.mono (show CallsTo Try.prog 12 _ w1 _ from c14 m a c w1 (h1.oldRdF hr hd) hz hm) ?_
        rintro v w2 ⟨a1, c1, rfl, hn1⟩
        refine LR.back (h1'.newSl hn1) ?_
        clear hn1 h1 h1'
        have hcl := cont_len hok hg hcont
        rw [List.length_map] at hcl
        have hXm : (([] : List MsgA) ++ [MsgA.mk m a1 c1]).map MsgA.m = ([] : List MsgA).map MsgA.m ++ [m] := by simp
        have hXl : (([] : List MsgA) ++ [MsgA.mk m a1 c1]).length = ([] : List MsgA).length + 1 := by simp
        have hOkX : OkL (kOf m) ((([] : List MsgA) ++ [MsgA.mk m a1 c1]).map MsgA.m) := by rw [hXm]; exact hcl.2
        have hXn := OkL.len hOkX
        rw [List.length_map, hXl] at hXn
        repeat'(first|(apply kp;iterate 2 exact rfl)|apply jJ|(apply jE;exact rfl)|(apply jp;exact rfl)|(apply jc;kernel_rfl)|((first|apply kf|apply kn|apply ke|apply kx|apply kc|apply kb);iterate 2 exact rfl)|((first|apply kz|apply ky);(·exact rfl);(·repeat(first|exact iO|exact iR rfl|apply iT));iterate 2 exact rfl)|(apply kg;iterate 2 exact rfl)|(apply kG;iterate 3 exact rfl)|(apply kB;(iterate 2 exact rfl);intro _)|(apply kA;exact rfl;intro _)|(apply kK;(iterate 4 exact rfl);intro _)|(apply kU;(iterate 2 exact rfl);(·repeat(first|exact sH _ _ _|apply sT));(first|exact nfL_eq rfl|exact rfl);exact rfl)|((first|apply kh|apply kl);(iterate 2 exact rfl);(first|decide|omega);exact rfl)|((first|(apply kR;iterate 2 exact rfl)|(apply kQ;exact rfl));all_goals(intro hc;try simp only[hcs]at hc;try(exfalso;first|contradiction|omega))))
        apply LR.append (xs := ([] : List MsgA).flatMap MsgA.row) (news := MsgA.row ⟨m, a1, c1⟩) (m := 1)
        · exact rfl
        · exact rfl
        · intro a' c'; (repeat (first | exact sH _ _ _ | apply sT))
        · intro w' hw'; exact hw'.rd_of_blk (mH _ _)
        · intro hx; cases hx
        · exact rfl
        · simp [MsgA.row, Msg.cells, Value.oneCell']
        · omega
        · unfold maxLen; omega
        · exact rfl
        intro a2 c2
        refine LR.sub (D := St w F [rB b (some ⟨ba, oa, none⟩) C rs'.length, rL (some ⟨ba, oa, none⟩) C rs', bunR rs', mS a2 c2 (([] : List MsgA) ++ [MsgA.mk m a1 c1]), bunB (([] : List MsgA) ++ [MsgA.mk m a1 c1]), .own bm (.cells (m.cells a c).toArray 28 (0, 0))]) (fun w' hw' => ?_) ?_
        · have h2 := St.bun_snoc (f := MsgA.body) (x := ⟨m, a1, c1⟩) (l := ([] : List MsgA)) MsgA.dep MsgA.ex (front (front (St.reS (mS_snoc a2 c2 ([] : List MsgA) ⟨m, a1, c1⟩) (by (repeat (first | exact sH _ _ _ | apply sT))) hw') 6 rfl rfl) 2 rfl rfl)
          exact (front (front (front (front h2 5 rfl rfl) 5 rfl rfl) 5 rfl rfl) 5 rfl rfl).sub (by repeat (first | exact List.Sublist.refl _ | exact List.nil_sublist _ | apply List.Sublist.cons_cons | apply List.Sublist.cons))
        repeat'(first|(apply kp;iterate 2 exact rfl)|apply jJ|(apply jE;exact rfl)|(apply jp;exact rfl)|(apply jc;kernel_rfl)|((first|apply kf|apply kn|apply ke|apply kx|apply kc|apply kb);iterate 2 exact rfl)|((first|apply kz|apply ky);(·exact rfl);(·repeat(first|exact iO|exact iR rfl|apply iT));iterate 2 exact rfl)|(apply kg;iterate 2 exact rfl)|(apply kG;iterate 3 exact rfl)|(apply kB;(iterate 2 exact rfl);intro _)|(apply kA;exact rfl;intro _)|(apply kK;(iterate 4 exact rfl);intro _)|(apply kU;(iterate 2 exact rfl);(·repeat(first|exact sH _ _ _|apply sT));(first|exact nfL_eq rfl|exact rfl);exact rfl)|((first|apply kh|apply kl);(iterate 2 exact rfl);(first|decide|omega);exact rfl)|((first|(apply kR;iterate 2 exact rfl)|(apply kQ;exact rfl));all_goals(intro hc;try simp only[hcs]at hc;try(exfalso;first|contradiction|omega))))
        · apply LR.append_odl (a := (some ⟨ba, oa, none⟩)) (c := C) (k := rs'.length) (xs := rs'.map RW.val) (news := [.slice a2 (([] : List MsgA).length + 1) c2]) (m := 1)
          · exact rfl
          · exact rfl
          · intro a' c'; (repeat (first | exact sH _ _ _ | apply sT))
          · intro w' hw'; exact hw'.rd_of_blk (mH _ _)
          · intro hx; cases hx
          · exact rfl
          · exact rfl
          · omega
          · unfold maxLen; omega
          · exact rfl
          intro a3 c3
          repeat'(first|(apply kp;iterate 2 exact rfl)|apply jJ|(apply jE;exact rfl)|(apply jp;exact rfl)|(apply jc;kernel_rfl)|((first|apply kf|apply kn|apply ke|apply kx|apply kc|apply kb);iterate 2 exact rfl)|((first|apply kz|apply ky);(·exact rfl);(·repeat(first|exact iO|exact iR rfl|apply iT));iterate 2 exact rfl)|(apply kg;iterate 2 exact rfl)|(apply kG;iterate 3 exact rfl)|(apply kB;(iterate 2 exact rfl);intro _)|(apply kA;exact rfl;intro _)|(apply kK;(iterate 4 exact rfl);intro _)|(apply kU;(iterate 2 exact rfl);(·repeat(first|exact sH _ _ _|apply sT));(first|exact nfL_eq rfl|exact rfl);exact rfl)|((first|apply kh|apply kl);(iterate 2 exact rfl);(first|decide|omega);exact rfl)|((first|(apply kR;iterate 2 exact rfl)|(apply kQ;exact rfl));all_goals(intro hc;try simp only[hcs]at hc;try(exfalso;first|contradiction|omega))))
          apply ret3
          · exact rfl
          intro w' hS
          rw [putJ_more hg hcont (by rw [List.length_map]; omega)]
          refine ⟨none, 0, a3, c3, rs' ++ [RW.mk (kOf m) (([] : List MsgA) ++ [MsgA.mk m a1 c1]) a2 c2], rfl, ?_, by rw [List.length_append]; show rs'.length + 1 ≤ _; omega, ?_⟩
          · rw [List.map_append, ← hXm]
            exact hPm.append_right _
          · have h2 : St w F (RW.body (RW.mk (kOf m) (([] : List MsgA) ++ [MsgA.mk m a1 c1]) a2 c2) :: _) w' := (front (front hS 5 rfl rfl) 5 rfl rfl).join rfl rfl
            have h3 := St.bun_snoc (f := RW.body) (x := RW.mk (kOf m) (([] : List MsgA) ++ [MsgA.mk m a1 c1]) a2 c2) (l := rs') RW.dep RW.ex (front h2 4 rfl rfl).swap
            have h4 := front (front h3 3 rfl rfl) 3 rfl rfl
            have e1 : (rs' ++ [RW.mk (kOf m) (([] : List MsgA) ++ [MsgA.mk m a1 c1]) a2 c2]).length = rs'.length + 1 := by simp
            have e2 : odl (.slice a3 (rs'.length + 1) c3) 31 1 (rs'.length + 1) (rs'.map RW.val ++ [.slice a2 (([] : List MsgA).length + 1) c2]) = rL a3 c3 (rs' ++ [RW.mk (kOf m) (([] : List MsgA) ++ [MsgA.mk m a1 c1]) a2 c2]) := by
              show _ = odl (.slice a3 (rs' ++ [RW.mk (kOf m) (([] : List MsgA) ++ [MsgA.mk m a1 c1]) a2 c2]).length c3) 31 1 (rs' ++ [RW.mk (kOf m) (([] : List MsgA) ++ [MsgA.mk m a1 c1]) a2 c2]).length ((rs' ++ [RW.mk (kOf m) (([] : List MsgA) ++ [MsgA.mk m a1 c1]) a2 c2]).map RW.val)
              rw [e1, List.map_append]
              simp [RW.val]
            rw [e2] at h4
            exact none1 a3 c3 _ _ w' (by rw [e1]; exact h4)
        · apply CW.loop [9, 10, 74, 75, 76, 77, 78, 79, 80, 81, 82, 83, 84, 85, 86] (fun s : Nat × Option Addr × Nat => s.1 ≤ (([] : List MsgA) ++ [MsgA.mk m a1 c1]).length) (fun s => [(10, Value.int .i64 (s.1 : Int)), (9, .slice s.2.1 (joinB (((([] : List MsgA) ++ [MsgA.mk m a1 c1]).map MsgA.m).take s.1)).length s.2.2)])
            (fun s => St w F [osl (.slice s.2.1 (joinB (((([] : List MsgA) ++ [MsgA.mk m a1 c1]).map MsgA.m).take s.1)).length s.2.2) 5 1 (joinB (((([] : List MsgA) ++ [MsgA.mk m a1 c1]).map MsgA.m).take s.1)).length (bv (joinB (((([] : List MsgA) ++ [MsgA.mk m a1 c1]).map MsgA.m).take s.1))), rB b (some ⟨ba, oa, none⟩) C rs'.length, rL (some ⟨ba, oa, none⟩) C rs', bunR rs', mS a2 c2 (([] : List MsgA) ++ [MsgA.mk m a1 c1]), bunB (([] : List MsgA) ++ [MsgA.mk m a1 c1])]) (fun s => (([] : List MsgA) ++ [MsgA.mk m a1 c1]).length - s.1)
          · exact fun w' hw' => ⟨(0, none, 0), by simp, ⟨rfl, rfl, trivial⟩, (hw'.sub (by repeat (first | exact List.Sublist.refl _ | exact List.nil_sublist _ | apply List.Sublist.cons_cons | apply List.Sublist.cons))).nilsl 5 1⟩
          rintro ⟨i, oa', oc⟩ g2 hi
          simp only at hi ⊢
          generalize hX : ([] : List MsgA) ++ [MsgA.mk m a1 c1] = X at *
          by_cases hlt : i < X.length
          · have hlm : i < (X.map MsgA.m).length := by rw [List.length_map]; exact hlt
            have htj := take_joinB (X.map MsgA.m) hlm
            rw [List.getElem_map] at htj
            have hbl : ∀ y ∈ (X.map MsgA.m).take i, y.body.length ≤ 48 := fun y hy => (text_of_check (hOkX.mem (List.mem_of_mem_take hy)).1 (hOkX.mem (List.mem_of_mem_take hy)).2.1).2.2.2.2
            have hjl := joinB_len hbl
            rw [List.length_take, List.length_map] at hjl
            have hbi := (text_of_check (hOkX.mem (m := X[i].m) (List.mem_map.2 ⟨_, List.getElem_mem hlt, rfl⟩)).1 (hOkX.mem (m := X[i].m) (List.mem_map.2 ⟨_, List.getElem_mem hlt, rfl⟩)).2.1).2.2.2.2
            refine LR_cls_cw fun w1 hw1 => ?_
            have hxz : X[i].a = none → X[i].m.body.length = 0 ∧ X[i].c = 0 := ownsRow_some ((hw1.holds (bunB X) (by (repeat (first | exact mH _ _ | apply mT)))).1 _ (List.getElem_mem hlt))
            obtain ⟨bx, ox, rfl⟩ := (ownsRow_rd (hw1.holds (mS a2 c2 X) (by (repeat (first | exact mH _ _ | apply mT))))).form (rows_ne MsgA.row_len (i := i) (by omega) hlt)
            refine CW.sub (D := St w F _) ?_ (fun u e => e ▸ hw1)
            clear hw1 w1
            repeat'(first|(apply kp;iterate 2 exact rfl)|apply jJ|(apply jE;exact rfl)|(apply jp;exact rfl)|(apply jc;kernel_rfl)|((first|apply kf|apply kn|apply ke|apply kx|apply kc|apply kb);iterate 2 exact rfl)|((first|apply kz|apply ky);(·exact rfl);(·repeat(first|exact iO|exact iR rfl|apply iT));iterate 2 exact rfl)|(apply kg;iterate 2 exact rfl)|(apply kG;iterate 3 exact rfl)|(apply kB;(iterate 2 exact rfl);intro _)|(apply kA;exact rfl;intro _)|(apply kK;(iterate 4 exact rfl);intro _)|(apply kU;(iterate 2 exact rfl);(·repeat(first|exact sH _ _ _|apply sT));(first|exact nfL_eq rfl|exact rfl);exact rfl)|((first|apply kh|apply kl);(iterate 2 exact rfl);(first|decide|omega);exact rfl)|(apply idxX;(iterate 2 exact rfl);(iterate 2(first|omega|(dsimp only;omega)));exact rfl)|(apply LR.ev; (· apply Ev.load; (· exact rfl); (· intro w' hw'; exact row_cell MsgA.row_len (hw'.rd_of_own (a := some ⟨bx, ox, none⟩) (by (repeat (first | exact mH _ _ | apply mT)))) hlt 12 rfl (by simp))); (· exact rfl))|((first|(apply kR;iterate 2 exact rfl)|(apply kQ;exact rfl));all_goals(intro hc;try simp only[hcs]at hc;try(exfalso;first|contradiction|omega))))
            apply LR.append (xs := bv (joinB ((X.map MsgA.m).take i))) (news := bv X[i].m.body) (m := X[i].m.body.length)
            · exact rfl
            · exact rfl
            · intro a' c'; (repeat (first | exact sH _ _ _ | apply sT))
            · intro w' hw'; exact ownsRow_rd ((hw'.holds (bunB X) (by (repeat (first | exact mH _ _ | apply mT)))).1 _ (List.getElem_mem hlt))
            · exact hxz
            · simp
            · exact bv_one _
            · omega
            · unfold maxLen; omega
            · exact rfl
            intro ay cy
            repeat'(first|(apply kp;iterate 2 exact rfl)|apply jJ|(apply jE;exact rfl)|(apply jp;exact rfl)|(apply jc;kernel_rfl)|((first|apply kf|apply kn|apply ke|apply kx|apply kc|apply kb);iterate 2 exact rfl)|((first|apply kz|apply ky);(·exact rfl);(·repeat(first|exact iO|exact iR rfl|apply iT));iterate 2 exact rfl)|(apply kg;iterate 2 exact rfl)|(apply kG;iterate 3 exact rfl)|(apply kB;(iterate 2 exact rfl);intro _)|(apply kA;exact rfl;intro _)|(apply kK;(iterate 4 exact rfl);intro _)|(apply kU;(iterate 2 exact rfl);(·repeat(first|exact sH _ _ _|apply sT));(first|exact nfL_eq rfl|exact rfl);exact rfl)|((first|apply kh|apply kl);(iterate 2 exact rfl);(first|decide|omega);exact rfl)|(apply addX;(iterate 2 exact rfl);(iterate 2(first|omega|(dsimp only;omega)));exact rfl)|((first|(apply kR;iterate 2 exact rfl)|(apply kQ;exact rfl));all_goals(intro hc;try simp only[hcs]at hc;try(exfalso;first|contradiction|omega))))
            apply At.again (i + 1, ay, cy)
            · show i + 1 ≤ _
              omega
            · (repeat (first | exact Out.refl _ _ | exact Out.mix | (apply Out.upd; (· exact rfl)) | (apply Out.updL; (· exact rfl)) | (apply Out.mixs; (· exact rfl))))
            · refine ⟨rfl, ?_, trivial⟩
              show Value.slice ay _ cy = .slice ay (joinB ((X.map MsgA.m).take (i + 1))).length cy
              rw [htj, List.length_append]
            · intro w' hw'
              show St w F [osl (.slice ay (joinB ((X.map MsgA.m).take (i + 1))).length cy) 5 1 (joinB ((X.map MsgA.m).take (i + 1))).length (bv (joinB ((X.map MsgA.m).take (i + 1)))), _, _, _, _, _] w'
              rw [htj, List.length_append, show bv (joinB ((X.map MsgA.m).take i) ++ X[i].m.body) = bv (joinB ((X.map MsgA.m).take i)) ++ bv X[i].m.body by simp [bv]]
              exact hw'
            · show X.length - (i + 1) < X.length - i
              omega
          · repeat'(first|(apply kp;iterate 2 exact rfl)|apply jJ|(apply jE;exact rfl)|(apply jp;exact rfl)|(apply jc;kernel_rfl)|((first|apply kf|apply kn|apply ke|apply kx|apply kc|apply kb);iterate 2 exact rfl)|((first|apply kz|apply ky);(·exact rfl);(·repeat(first|exact iO|exact iR rfl|apply iT));iterate 2 exact rfl)|(apply kg;iterate 2 exact rfl)|(apply kG;iterate 3 exact rfl)|(apply kB;(iterate 2 exact rfl);intro _)|(apply kA;exact rfl;intro _)|(apply kK;(iterate 4 exact rfl);intro _)|(apply kU;(iterate 2 exact rfl);(·repeat(first|exact sH _ _ _|apply sT));(first|exact nfL_eq rfl|exact rfl);exact rfl)|((first|apply kh|apply kl);(iterate 2 exact rfl);(first|decide|omega);exact rfl)|((first|(apply kR;iterate 2 exact rfl)|(apply kQ;exact rfl));all_goals(intro hc;try simp only[hcs]at hc;try(exfalso;first|contradiction|omega))))
            apply ret3
            · exact rfl
            intro w' hS
            rw [List.take_of_length_le (l := X.map MsgA.m) (i := i) (by rw [List.length_map]; omega)] at hS ⊢
            rw [putJ_whole hg hcont (by rw [List.length_map]; omega), ← hXm]
            exact ⟨oa', oc, (some ⟨ba, oa, none⟩), C, rs', rfl, hPm, by omega, (((front (front (front hS 3 rfl rfl) 3 rfl rfl) 3 rfl rfl).join rfl rfl).join rfl rfl).sub (by repeat (first | exact List.Sublist.refl _ | exact List.nil_sublist _ | apply List.Sublist.cons_cons | apply List.Sublist.cons))⟩
  · rw [putJ_bad hg]
    repeat'(first|(apply kp;iterate 2 exact rfl)|apply jJ|(apply jE;exact rfl)|(apply jp;exact rfl)|(apply jc;kernel_rfl)|((first|apply kf|apply kn|apply ke|apply kx|apply kc|apply kb);iterate 2 exact rfl)|((first|apply kz|apply ky);(·exact rfl);(·repeat(first|exact iO|exact iR rfl|apply iT));iterate 2 exact rfl)|(apply kg;iterate 2 exact rfl)|(apply kG;iterate 3 exact rfl)|(apply kB;(iterate 2 exact rfl);intro _)|(apply kA;exact rfl;intro _)|(apply kK;(iterate 4 exact rfl);intro _)|(apply kU;(iterate 2 exact rfl);(·repeat(first|exact sH _ _ _|apply sT));(first|exact nfL_eq rfl|exact rfl);exact rfl)|((first|apply kh|apply kl);(iterate 2 exact rfl);(first|decide|omega);exact rfl)|(apply kq; (· exact rfl); (· intro w1 h1; (have hq := CallsTo.q (d18 m a c w1 (h1.oldRdF hr hd) hz hm hb) h1; show CallsTo Try.prog 47 [m.val a c] w1 _; exact hq)))|((first|(apply kR;iterate 2 exact rfl)|(apply kQ;exact rfl));all_goals(intro hc;try simp only[hcs]at hc;try(exfalso;first|contradiction|omega))))
    all_goals first
      | (exfalso; exact hg ⟨by assumption, by assumption⟩)
      | (apply ret3; (· exact rfl); intro w' hS; exact ⟨none, 0, A, C, rs, rfl, List.Perm.refl _, by omega, none1 A C rs [] w' hS.tail1⟩)
end Go.Proofs.Ytphcnaafhcfakaa

namespace Go.Proofs.Ytphcnaafhcfakaa
open Go.Hb
attribute [local irreducible] LR CW At Ev thn blk finK noG again CallsTo DW QL dnext TW DP
set_option linter.unusedSimpArgs false
set_option linter.unusedVariables false
set_option maxRecDepth 100000

set_option maxHeartbeats 4000000 in
theorem g15 (m : Msg) (a : Option Addr) (c : Nat) (pa : Option Addr) (pc : Nat) (p : List Int) (w : World) (hr : Rd w a (bv m.body)) (hz : a = none → c = 0) (hm : m.body.length ≤ 140737488355328) (hb : Byt m.body)
    (hpr : Rd w pa (bv p)) (hpz : pa = none → pc = 0) (hpc : p.length ≤ pc) (hpm : p.length ≤ 140737488355328) :
    CallsTo Try.prog 15 [m.val a c, .slice pa p.length pc] w fun v w' => ∃ a' c' l, v = .tuple [.slice a' l.length c', .int .i64 (splitE m p.length)].toArray ∧ l.map MsgA.m = splitR m p ∧ St w NoF [mS a' c' l, bunB l] w' := by
  refine go_in (n := 82) (St.refl _ NoF) Try.func15 rfl rfl ?_
  by_cases hg : splitOk m
  · have hg' := hg
    obtain ⟨hk, ⟨h1, h2, h3, h4⟩, hck⟩ := hg'
    simp only [List.cons.injEq, and_true] at h4
    by_cases hn : p.length ≤ 200
    · have hP : max 1 ((p.length + 48 - 1) / 48) = npart p.length := by unfold npart; omega
      have hnp : npart p.length = max ((p.length + 47) / 48) 1 := rfl
      repeat'(first|(apply kp;iterate 2 exact rfl)|apply jJ|(apply jE;exact rfl)|(apply jp;exact rfl)|(apply jc;kernel_rfl)|((first|apply kf|apply kn|apply ke|apply kx|apply kc|apply kb);iterate 2 exact rfl)|((first|apply kz|apply ky);(·exact rfl);(·repeat(first|exact iO|exact iR rfl|apply iT));iterate 2 exact rfl)|(apply kg;iterate 2 exact rfl)|(apply kG;iterate 3 exact rfl)|(apply kB;(iterate 2 exact rfl);intro _)|(apply kA;exact rfl;intro _)|(apply kK;(iterate 4 exact rfl);intro _)|(apply kU;(iterate 2 exact rfl);(·repeat(first|exact sH _ _ _|apply sT));(first|exact nfL_eq rfl|exact rfl);exact rfl)|((first|apply kh|apply kl);(iterate 2 exact rfl);(first|decide|omega);exact rfl)|(apply kq; (· exact rfl); (· intro w1 h1; have hq := CallsTo.q (d18 (oneM m) a c w1 (h1.oldRd hr) hz hm hb) h1; rw [hck] at hq; show CallsTo Try.prog 47 [(oneM m).val a c] w1 _; exact hq))|(apply LR.ev; (· first | (apply addQ (a := p.length) (b := 48) rfl; (· exact rfl); (· exact rfl); (· omega)) | (apply subQ (a := p.length + 48) (b := 1) rfl; (· exact rfl); (· exact rfl); (· omega); (· omega)) | (apply quoQ (a := p.length + 48 - 1) (b := 48) rfl; (· exact rfl); (· exact rfl); (· omega); (· omega)) | (apply maxQ hP; (· exact rfl); (· exact rfl))); (· exact rfl))|((first|(apply kR;iterate 2 exact rfl)|(apply kQ;exact rfl));all_goals(intro hc;try simp only[hcs]at hc;try(exfalso;first|contradiction|omega))))
      rename_i bm b1 _ _ _ _ _
      apply CW.loop [8, 9, 10, 52, 53, 54, 55, 56, 57, 58, 59, 60, 61, 62, 63, 64, 65, 66, 67, 68, 69, 70, 71, 72, 73, 74, 75, 76, 77, 78, 79, 80] (fun s : List MsgA × Option Addr × Nat => s.1.length ≤ npart p.length ∧ s.1.map MsgA.m = (List.range s.1.length).map (partM m (npart p.length) p)) (fun s => [(9, Value.int .i64 (s.1.length : Int)), (8, .slice s.2.1 s.1.length s.2.2)])
        (fun s => St w NoF [mS s.2.1 s.2.2 s.1, bunB s.1, .own bm (.cells (m.cells a c).toArray 28 (0, 0))]) (fun s => npart p.length - s.1.length)
      · exact fun w' hw' => ⟨([], none, 0), ⟨by simp, rfl⟩, ⟨rfl, rfl, trivial⟩, (hw'.tail1.bun_nil MsgA.dep).nilsl 28 13⟩
      rintro ⟨lo, ao, co⟩ g ⟨hi, hlo⟩
      simp only at hi hlo ⊢
      by_cases hlt : lo.length < npart p.length
      · have hcl := chunk_len p lo.length
        have hrc : Rd w (subA pa pc (lo.length * 48) 1) (bv (chunk p lo.length)) := rd_mid (n := lo.length * 48) (k := 48) hpr hpc
        have hq : min p.length ((lo.length + 1) * 48) - lo.length * 48 = (chunk p lo.length).length := by omega
        repeat'(first|(apply CW.reg_sinkC 14; (· exact rfl); (· decide +kernel))|(apply kp;iterate 2 exact rfl)|apply jJ|(apply jE;exact rfl)|(apply jp;exact rfl)|(apply jc;kernel_rfl)|((first|apply kf|apply kn|apply ke|apply kx|apply kc|apply kb);iterate 2 exact rfl)|((first|apply kz|apply ky);(·exact rfl);(·repeat(first|exact iO|exact iR rfl|apply iT));iterate 2 exact rfl)|(apply kg;iterate 2 exact rfl)|(apply kG;iterate 3 exact rfl)|(apply kB;(iterate 2 exact rfl);intro _)|(apply kA;exact rfl;intro _)|(apply kK;(iterate 4 exact rfl);intro _)|(apply kU;(iterate 2 exact rfl);(·repeat(first|exact sH _ _ _|apply sT));(first|exact nfL_eq rfl|exact rfl);exact rfl)|((first|apply kh|apply kl);(iterate 2 exact rfl);(first|decide|omega);exact rfl)|((first|(apply kR;iterate 2 exact rfl)|(apply kQ;exact rfl));all_goals(intro hc;try simp only[hcs]at hc;try(exfalso;first|contradiction|omega))))
        all_goals (
          apply DW.quiet [0, 1, 2, 3, 4, 5, 6, 7, 8, 9, 10, 11]
          · decide +kernel
          · first | exact fun _ h => h | exact fun _ h => St.sub h (by repeat (first | exact List.Sublist.refl _ | apply List.Sublist.cons_cons | apply List.Sublist.cons))
          repeat'(first|(apply yp;iterate 3 exact rfl)|(apply QL.ev;(·exact rfl);(·first|((first|apply Ez|apply Ey);(·exact rfl);(·repeat(first|exact iO|exact iR rfl|apply iT));exact rfl)|((first|apply Ev.fieldAddr|apply Ev.len|apply EqOf.eq|apply EqOf.ne|apply Ev.conv|apply Ev.buildN);exact rfl)|((first|apply Ev.shr|apply Ev.shl);(iterate 2 exact rfl);first|decide|omega));·exact rfl)|(apply QL.ev; (· exact rfl); (· first | (apply mulQ (a := lo.length) (b := 48) rfl; (· exact rfl); (· exact rfl); (· omega)) | (apply addQ (a := lo.length) (b := 1) rfl; (· exact rfl); (· exact rfl); (· omega)) | (apply mulQ (a := lo.length + 1) (b := 48) rfl; (· exact rfl); (· exact rfl); (· omega)) | (apply minQ (a := (lo.length + 1) * 48) (b := p.length) rfl; (· exact rfl); (· exact rfl)) | (apply lohiQ hq; (· exact rfl); (· exact rfl); (· exact rfl); (· omega); (· omega))); (· exact rfl))|(apply yq;iterate 5 exact rfl)|(apply QL.evg;(iterate 3 exact rfl);(·first|((first|apply Ez|apply Ey);(·exact rfl);(·repeat(first|exact iO|exact iR rfl|apply iT));exact rfl)|((first|apply Ev.fieldAddr|apply Ev.len|apply EqOf.eq|apply EqOf.ne|apply Ev.conv|apply Ev.buildN);exact rfl)|((first|apply Ev.shr|apply Ev.shl);(iterate 2 exact rfl);first|decide|omega));·exact rfl)|(apply yn;iterate 4 exact rfl)|((apply QL.split;iterate 3 exact rfl);all_goals(intro hc;try simp only[hcs]at hc;try(exfalso;first|contradiction|omega)))|apply QL.nil)
          all_goals (show DW _ _ _ _ _ _ _ _))
        all_goals (
          apply DW.loud 12
          · exact rfl
          · decide +kernel
          repeat'(first|(apply kg;iterate 2 exact rfl)|(apply kG;iterate 3 exact rfl)|apply kM|(apply kp;iterate 2 exact rfl)|((first|apply kz|apply ky);(·exact rfl);(·repeat(first|exact iO|exact iR rfl|apply iT));iterate 2 exact rfl)|(apply kK;(iterate 4 exact rfl);intro _)|(apply kU;(iterate 2 exact rfl);(·repeat(first|exact sH _ _ _|apply sT));(first|exact nfL_eq rfl|exact rfl);exact rfl)|(apply kB;(iterate 2 exact rfl);intro _)|(apply kA;exact rfl;intro _)|(apply LR.append_nil (news := bv (chunk p lo.length)) (m := (chunk p lo.length).length) (ax := subA pa pc (lo.length * 48) 1) (cx := pc - lo.length * 48); (· exact rfl); (· exact rfl); (· intro w' hw'; exact hw'.oldRd hrc); (· exact fun hx => ⟨hrc.none_len hx, subA_none hpz hx⟩); (· simp); (· exact bv_one _); (· omega); (· unfold maxLen; omega); (· exact rfl); (intro a2 c2; apply kM)))
          all_goals (refine At.stage_same (fun _ h => St.sub h (by repeat (first | exact List.Sublist.refl _ | apply List.Sublist.cons_cons | apply List.Sublist.cons))) ?_))
        all_goals (
          apply DW.quiet [13]
          · decide +kernel
          · first | exact fun _ h => h | exact fun _ h => St.sub h (by repeat (first | exact List.Sublist.refl _ | apply List.Sublist.cons_cons | apply List.Sublist.cons))
          repeat'(first|(apply yp;iterate 3 exact rfl)|(apply QL.ev;(·exact rfl);(·first|((first|apply Ez|apply Ey);(·exact rfl);(·repeat(first|exact iO|exact iR rfl|apply iT));exact rfl)|((first|apply Ev.fieldAddr|apply Ev.len|apply EqOf.eq|apply EqOf.ne|apply Ev.conv|apply Ev.buildN);exact rfl)|((first|apply Ev.shr|apply Ev.shl);(iterate 2 exact rfl);first|decide|omega));·exact rfl)|(apply QL.ev; (· exact rfl); (· first | (apply mulQ (a := lo.length) (b := 48) rfl; (· exact rfl); (· exact rfl); (· omega)) | (apply addQ (a := lo.length) (b := 1) rfl; (· exact rfl); (· exact rfl); (· omega)) | (apply mulQ (a := lo.length + 1) (b := 48) rfl; (· exact rfl); (· exact rfl); (· omega)) | (apply minQ (a := (lo.length + 1) * 48) (b := p.length) rfl; (· exact rfl); (· exact rfl)) | (apply lohiQ hq; (· exact rfl); (· exact rfl); (· exact rfl); (· omega); (· omega))); (· exact rfl))|(apply yq;iterate 5 exact rfl)|(apply QL.evg;(iterate 3 exact rfl);(·first|((first|apply Ez|apply Ey);(·exact rfl);(·repeat(first|exact iO|exact iR rfl|apply iT));exact rfl)|((first|apply Ev.fieldAddr|apply Ev.len|apply EqOf.eq|apply EqOf.ne|apply Ev.conv|apply Ev.buildN);exact rfl)|((first|apply Ev.shr|apply Ev.shl);(iterate 2 exact rfl);first|decide|omega));·exact rfl)|(apply yn;iterate 4 exact rfl)|((apply QL.split;iterate 3 exact rfl);all_goals(intro hc;try simp only[hcs]at hc;try(exfalso;first|contradiction|omega)))|apply QL.nil)
          all_goals (show DW _ _ _ _ _ _ _ _))
        all_goals (apply DW.done; (· decide +kernel))
        all_goals apply At.sink
        repeat'(first|(apply kp;iterate 2 exact rfl)|apply jJ|(apply jE;exact rfl)|(apply jp;exact rfl)|(apply jc;kernel_rfl)|((first|apply kf|apply kn|apply ke|apply kx|apply kc|apply kb);iterate 2 exact rfl)|((first|apply kz|apply ky);(·exact rfl);(·repeat(first|exact iO|exact iR rfl|apply iT));iterate 2 exact rfl)|(apply kg;iterate 2 exact rfl)|(apply kG;iterate 3 exact rfl)|(apply kB;(iterate 2 exact rfl);intro _)|(apply kA;exact rfl;intro _)|(apply kK;(iterate 4 exact rfl);intro _)|(apply kU;(iterate 2 exact rfl);(·repeat(first|exact sH _ _ _|apply sT));(first|exact nfL_eq rfl|exact rfl);exact rfl)|((first|apply kh|apply kl);(iterate 2 exact rfl);(first|decide|omega);exact rfl)|((first|(apply kR;iterate 2 exact rfl)|(apply kQ;exact rfl));all_goals(intro hc;try simp only[hcs]at hc;try(exfalso;first|contradiction|omega))))
        refine LR.append (xs := lo.flatMap MsgA.row) (news := MsgA.row ⟨partM m (npart p.length) p lo.length, a2, c2⟩) (m := 1) rfl rfl (fun a' c' => by (repeat (first | exact sH _ _ _ | apply sT))) (fun w' hw' => hw'.rd_of_blk (mH _ _)) (fun hx => by cases hx) rfl (by simp [MsgA.row, Msg.cells, Value.oneCell']) (by omega) (by unfold maxLen; omega) rfl ?_
        intro ay cy
        repeat'(first|(apply kp;iterate 2 exact rfl)|apply jJ|(apply jE;exact rfl)|(apply jp;exact rfl)|(apply jc;kernel_rfl)|((first|apply kf|apply kn|apply ke|apply kx|apply kc|apply kb);iterate 2 exact rfl)|((first|apply kz|apply ky);(·exact rfl);(·repeat(first|exact iO|exact iR rfl|apply iT));iterate 2 exact rfl)|(apply kg;iterate 2 exact rfl)|(apply kG;iterate 3 exact rfl)|(apply kB;(iterate 2 exact rfl);intro _)|(apply kA;exact rfl;intro _)|(apply kK;(iterate 4 exact rfl);intro _)|(apply kU;(iterate 2 exact rfl);(·repeat(first|exact sH _ _ _|apply sT));(first|exact nfL_eq rfl|exact rfl);exact rfl)|((first|apply kh|apply kl);(iterate 2 exact rfl);(first|decide|omega);exact rfl)|(apply addX;(iterate 2 exact rfl);(iterate 2(first|omega|(dsimp only;omega)));exact rfl)|((first|(apply kR;iterate 2 exact rfl)|(apply kQ;exact rfl));all_goals(intro hc;try simp only[hcs]at hc;try(exfalso;first|contradiction|omega))))
        apply At.again (lo ++ [⟨partM m (npart p.length) p lo.length, a2, c2⟩], ay, cy)
        · refine ⟨by simp; omega, ?_⟩
          show (lo ++ [MsgA.mk (partM m (npart p.length) p lo.length) a2 c2]).map MsgA.m = (List.range (lo ++ [MsgA.mk (partM m (npart p.length) p lo.length) a2 c2]).length).map (partM m (npart p.length) p)
          rw [List.length_append, List.length_singleton, List.range_succ, List.map_append, List.map_append, hlo]
          rfl
        · (repeat (first | exact Out.refl _ _ | exact Out.mix | (apply Out.upd; (· exact rfl)) | (apply Out.updL; (· exact rfl)) | (apply Out.mixs; (· exact rfl))))
        · refine ⟨?_, ?_, trivial⟩
          · show Value.int .i64 ((lo.length : Int) + 1) = .int .i64 ((lo ++ [MsgA.mk (partM m (npart p.length) p lo.length) a2 c2]).length : Int)
            simp
          · show Value.slice ay (lo.length + 1) cy = .slice ay (lo ++ [MsgA.mk (partM m (npart p.length) p lo.length) a2 c2]).length cy
            simp
        · intro w' hw'
          have h2 := St.bun_snoc (f := MsgA.body) (x := ⟨partM m (npart p.length) p lo.length, a2, c2⟩) (l := lo) MsgA.dep MsgA.ex (front (front hw' 4 rfl rfl) 2 rfl rfl)
          rw [mS_snoc] at h2
          exact (front h2 3 rfl rfl).sub (by repeat (first | exact List.Sublist.refl _ | apply List.Sublist.cons_cons | apply List.Sublist.cons))
        · show npart p.length - (lo ++ [MsgA.mk (partM m (npart p.length) p lo.length) a2 c2]).length < npart p.length - lo.length
          rw [List.length_append, List.length_singleton]
          omega
      · have hl : lo.length = npart p.length := by omega
        repeat'(first|(apply kp;iterate 2 exact rfl)|apply jJ|(apply jE;exact rfl)|(apply jp;exact rfl)|(apply jc;kernel_rfl)|((first|apply kf|apply kn|apply ke|apply kx|apply kc|apply kb);iterate 2 exact rfl)|((first|apply kz|apply ky);(·exact rfl);(·repeat(first|exact iO|exact iR rfl|apply iT));iterate 2 exact rfl)|(apply kg;iterate 2 exact rfl)|(apply kG;iterate 3 exact rfl)|(apply kB;(iterate 2 exact rfl);intro _)|(apply kA;exact rfl;intro _)|(apply kK;(iterate 4 exact rfl);intro _)|(apply kU;(iterate 2 exact rfl);(·repeat(first|exact sH _ _ _|apply sT));(first|exact nfL_eq rfl|exact rfl);exact rfl)|((first|apply kh|apply kl);(iterate 2 exact rfl);(first|decide|omega);exact rfl)|((first|(apply kR;iterate 2 exact rfl)|(apply kQ;exact rfl));all_goals(intro hc;try simp only[hcs]at hc;try(exfalso;first|contradiction|omega))))
        (apply ret2; (· exact rfl); intro w' hS)
        rw [splitR, splitE_ok hg hn, if_pos rfl]
        refine ⟨ao, co, lo, rfl, by rw [hlo, splitL, ← hl], hS.sub (by repeat (first | exact List.Sublist.refl _ | exact List.nil_sublist _ | apply List.Sublist.cons_cons | apply List.Sublist.cons))⟩
    · repeat'(first|(apply kp;iterate 2 exact rfl)|apply jJ|(apply jE;exact rfl)|(apply jp;exact rfl)|(apply jc;kernel_rfl)|((first|apply kf|apply kn|apply ke|apply kx|apply kc|apply kb);iterate 2 exact rfl)|((first|apply kz|apply ky);(·exact rfl);(·repeat(first|exact iO|exact iR rfl|apply iT));iterate 2 exact rfl)|(apply kg;iterate 2 exact rfl)|(apply kG;iterate 3 exact rfl)|(apply kB;(iterate 2 exact rfl);intro _)|(apply kA;exact rfl;intro _)|(apply kK;(iterate 4 exact rfl);intro _)|(apply kU;(iterate 2 exact rfl);(·repeat(first|exact sH _ _ _|apply sT));(first|exact nfL_eq rfl|exact rfl);exact rfl)|((first|apply kh|apply kl);(iterate 2 exact rfl);(first|decide|omega);exact rfl)|(apply kq; (· exact rfl); (· intro w1 h1; have hq := CallsTo.q (d18 (oneM m) a c w1 (h1.oldRd hr) hz hm hb) h1; rw [hck] at hq; show CallsTo Try.prog 47 [(oneM m).val a c] w1 _; exact hq))|((first|(apply kR;iterate 2 exact rfl)|(apply kQ;exact rfl));all_goals(intro hc;try simp only[hcs]at hc;try(exfalso;first|contradiction|omega))))
      (apply ret2; (· exact rfl); intro w' hS)
      rw [splitR, splitE_big hg hn]
      exact ⟨none, 0, [], rfl, rfl, (((hS.sub (L' := []) (by repeat (first | exact List.Sublist.refl _ | exact List.nil_sublist _ | apply List.Sublist.cons_cons | apply List.Sublist.cons))).bun_nil MsgA.dep).nilsl 28 13)⟩
  · rw [splitR, splitE_bad hg]
    repeat'(first|(apply kp;iterate 2 exact rfl)|apply jJ|(apply jE;exact rfl)|(apply jp;exact rfl)|(apply jc;kernel_rfl)|((first|apply kf|apply kn|apply ke|apply kx|apply kc|apply kb);iterate 2 exact rfl)|((first|apply kz|apply ky);(·exact rfl);(·repeat(first|exact iO|exact iR rfl|apply iT));iterate 2 exact rfl)|(apply kg;iterate 2 exact rfl)|(apply kG;iterate 3 exact rfl)|(apply kB;(iterate 2 exact rfl);intro _)|(apply kA;exact rfl;intro _)|(apply kK;(iterate 4 exact rfl);intro _)|(apply kU;(iterate 2 exact rfl);(·repeat(first|exact sH _ _ _|apply sT));(first|exact nfL_eq rfl|exact rfl);exact rfl)|((first|apply kh|apply kl);(iterate 2 exact rfl);(first|decide|omega);exact rfl)|(apply kq; (· exact rfl); (· intro w1 h1; have hq := CallsTo.q (d18 (oneM m) a c w1 (h1.oldRd hr) hz hm hb) h1; show CallsTo Try.prog 47 [(oneM m).val a c] w1 _; exact hq))|((first|(apply kR;iterate 2 exact rfl)|(apply kQ;exact rfl));all_goals(intro hc;try simp only[hcs]at hc;try(exfalso;first|contradiction|omega))))
    all_goals first
      | (exfalso; exact hg ⟨by assumption, ⟨by assumption, by assumption, by omega, by simp only [List.cons.injEq, and_true]; assumption⟩, by assumption⟩)
      | (apply ret2; (· exact rfl); intro w' hS; exact ⟨none, 0, [], rfl, rfl, (((hS.sub (L' := []) (by repeat (first | exact List.Sublist.refl _ | exact List.nil_sublist _ | apply List.Sublist.cons_cons | apply List.Sublist.cons))).bun_nil MsgA.dep).nilsl 28 13)⟩)
end Go.Proofs.Ytphcnaafhcfakaa

namespace Go.Proofs.Ytphcnaafhcfakaa
open Go.Hb
attribute [local irreducible] LR CW At Ev thn blk finK noG again CallsTo DW QL dnext TW DP
set_option linter.unusedSimpArgs false
set_option linter.unusedVariables false
set_option maxRecDepth 100000

theorem g20 (w : World) : CallsTo Try.prog 20 [] w fun v w' => ∃ b r, v = .pointer (some ⟨b, 0, none⟩) ∧ St w NoF [jO b r []] w' := by
  refine go_in (n := 4) (St.refl _ NoF) Try.func20 rfl rfl ?_
  repeat'(first|(apply kp;iterate 2 exact rfl)|apply jJ|(apply jE;exact rfl)|(apply jp;exact rfl)|(apply jc;kernel_rfl)|((first|apply kf|apply kn|apply ke|apply kx|apply kc|apply kb);iterate 2 exact rfl)|((first|apply kz|apply ky);(·exact rfl);(·repeat(first|exact iO|exact iR rfl|apply iT));iterate 2 exact rfl)|(apply kg;iterate 2 exact rfl)|(apply kG;iterate 3 exact rfl)|(apply kB;(iterate 2 exact rfl);intro _)|(apply kA;exact rfl;intro _)|(apply kK;(iterate 4 exact rfl);intro _)|(apply kU;(iterate 2 exact rfl);(·repeat(first|exact sH _ _ _|apply sT));(first|exact nfL_eq rfl|exact rfl);exact rfl)|((first|apply kh|apply kl);(iterate 2 exact rfl);(first|decide|omega);exact rfl)|(apply LR.makeMapK (enc := keyV) (ok := okAll); (· exact rfl); intro r)|((first|(apply kR;iterate 2 exact rfl)|(apply kQ;exact rfl));all_goals(intro hc;try simp only[hcs]at hc;try(exfalso;first|contradiction|omega))))
  (apply ret1; (· exact rfl); intro w' hS)
  exact ⟨_, _, rfl, jO_shut (front (front (hS.bun_nil WayA.dep) 2 rfl rfl) 2 rfl rfl)⟩
def tM : Msg := pieceT 1 9
def tB : List Int := bytesL 49 7
def M0 : Msg := partM tM 2 tB 0
def M1 : Msg := partM tM 2 tB 1
theorem t_ok : splitOk tM := by decide +kernel
theorem t_split : splitR tM tB = [M0, M1] := by
  rw [splitR, splitE_ok t_ok (by decide +kernel), if_pos rfl]
  kernel_rfl
theorem t_put0 : putJ [] M0 = ⟨[((1, 1), [M0])], [], false, 0⟩ := by kernel_rfl
theorem t_put1 : putJ [((1, 1), [M0])] M1 = ⟨[], tB, true, 0⟩ := by kernel_rfl
theorem WsOk.nil : WsOk [] := ⟨⟨by simp, by simp⟩, by simp⟩
theorem splitR_byt {m : Msg} {p : List Int} (h : Byt p) : ∀ x ∈ splitR m p, Byt x.body ∧ x.body.length ≤ 48 := by
  intro x hx
  unfold splitR at hx
  split at hx
  · obtain ⟨i, _, rfl⟩ := List.mem_map.1 hx
    exact ⟨chunk_byt h i, by show (chunk p i).length ≤ 48; rw [chunk_len]; omega⟩
  · cases hx
/-- A message of one's own, lent to a joiner. -/
theorem put_own {w0 w1 : World} {R : List Asrt} {b r : Nat} {ws : List WayA} {l : List MsgA} {x : MsgA} (h1 : St w0 NoF (bunB l :: R) w1) (hj : jO b r ws ∈ R) (hok : WsOk ws) (hx : x ∈ l) (hb : Byt x.m.body) (hm : x.m.body.length ≤ 140737488355328) :
    CallsTo Try.prog 22 [.pointer (some ⟨b, 0, none⟩), x.m.val x.a x.c] w1 fun v w' => ∃ pa pc ws', v = .tuple [.slice pa (putJ (ws.map WayA.kl) x.m).out.length pc, .bool (putJ (ws.map WayA.kl) x.m).is, .int .i64 (putJ (ws.map WayA.kl) x.m).e].toArray ∧ ws'.map WayA.kl = (putJ (ws.map WayA.kl) x.m).A ∧ WsOk ws' ∧
      St w1 (jO b r ws).foot [jO b r ws', osl (.slice pa (putJ (ws.map WayA.kl) x.m).out.length pc) 5 1 (putJ (ws.map WayA.kl) x.m).out.length (bv (putJ (ws.map WayA.kl) x.m).out)] w' :=
  have hB := (h1.g0.1 x hx : x.body.holds w1)
  g22 b r ws x.m x.a x.c w1 (h1.holds _ (mT _ hj)) hok (ownsRow_rd hB) (fun e => (ownsRow_some hB e).2) hm hb (fun k hk => h1.apart hj rfl k (bun_foot hx hk))
theorem jO_rd {b r : Nat} {ws : List WayA} {w : World} (h : (jO b r ws).holds w) : Rd w (some ⟨b, 0, none⟩) [.map (some r)] ∧ kmH keyV r (ws.map WayA.kv) w :=
  ⟨fun j v hj => ⟨_, rfl, by rw [addr_add, cell_own (show w.heap[b]? = some (.cells [Value.map (some r)].toArray 62 (0, 0)) from h.1)]; simpa using hj⟩, h.2.1.1⟩
set_option maxHeartbeats 4000000 in
theorem g19 (w : World) : CallsTo Try.prog 19 [] w fun v w' => v = .bool true ∧ Grew w w' := by
  refine go_in (n := 94) (St.refl _ NoF) Try.func19 rfl rfl ?_
  repeat'(first|(apply kp;iterate 2 exact rfl)|apply jJ|(apply jE;exact rfl)|(apply jp;exact rfl)|(apply jc;kernel_rfl)|((first|apply kf|apply kn|apply ke|apply kx|apply kc|apply kb);iterate 2 exact rfl)|((first|apply kz|apply ky);(·exact rfl);(·repeat(first|exact iO|exact iR rfl|apply iT));iterate 2 exact rfl)|(apply kg;iterate 2 exact rfl)|(apply kG;iterate 3 exact rfl)|(apply kB;(iterate 2 exact rfl);intro _)|(apply kA;exact rfl;intro _)|(apply kK;(iterate 4 exact rfl);intro _)|(apply kU;(iterate 2 exact rfl);(·repeat(first|exact sH _ _ _|apply sT));(first|exact nfL_eq rfl|exact rfl);exact rfl)|((first|apply kh|apply kl);(iterate 2 exact rfl);(first|decide|omega);exact rfl)|(apply kq; (· exact rfl); (· intro w1 h1; exact CallsTo.q (g27 1 9 w1) h1))|((first|(apply kR;iterate 2 exact rfl)|(apply kQ;exact rfl));all_goals(intro hc;try simp only[hcs]at hc;try(exfalso;first|contradiction|omega))))
  apply LR.call
  · exact rfl
  intro w1 h1
  refine (g28 49 7 w1 (by omega) (by omega)).mono ?_
  rintro v w2 ⟨ab, cb, rfl, hn⟩
  refine LR.back (h1.newSl hn) ?_
  clear h1 hn
  have hbl : (bytesL 49 7).length = 49 := rfl
  repeat'(first|(apply kp;iterate 2 exact rfl)|apply jJ|(apply jE;exact rfl)|(apply jp;exact rfl)|(apply jc;kernel_rfl)|((first|apply kf|apply kn|apply ke|apply kx|apply kc|apply kb);iterate 2 exact rfl)|((first|apply kz|apply ky);(·exact rfl);(·repeat(first|exact iO|exact iR rfl|apply iT));iterate 2 exact rfl)|(apply kg;iterate 2 exact rfl)|(apply kG;iterate 3 exact rfl)|(apply kB;(iterate 2 exact rfl);intro _)|(apply kA;exact rfl;intro _)|(apply kK;(iterate 4 exact rfl);intro _)|(apply kU;(iterate 2 exact rfl);(·repeat(first|exact sH _ _ _|apply sT));(first|exact nfL_eq rfl|exact rfl);exact rfl)|((first|apply kh|apply kl);(iterate 2 exact rfl);(first|decide|omega);exact rfl)|((first|(apply kR;iterate 2 exact rfl)|(apply kQ;exact rfl));all_goals(intro hc;try simp only[hcs]at hc;try(exfalso;first|contradiction|omega))))
  apply LR.call
  · exact rfl
  intro w1 h1
  have hcap := ownsRow_cap h1.g0
  refine CallsTo.mono (show CallsTo Try.prog 14 _ w1 _ from g14 (pieceT 1 9) none 0 ab cb (bytesL 49 7) w1 (Rd.nil _ _) (fun _ => rfl) (by simp [pieceT]) (by simp [pieceT, Byt]) (ownsRow_rd h1.g0) (fun e => (ownsRow_some h1.g0 e).2) hcap (by omega)) ?_
  rintro v w2 ⟨a1, c1, l1, rfl, hl1, st⟩
  rw [show splitR (pieceT 1 9) (bytesL 49 7) = [M0, M1] from t_split] at hl1
  obtain ⟨ba, oa, rfl⟩ := (ownsRow_rd st.g0).form (rows_ne MsgA.row_len (i := 0) (by omega) (by have := congrArg List.length hl1; simp at this; omega))
  refine LR.back (h1.pushL st excl2) ?_
  clear h1 st
  rw [show splitE (pieceT 1 9) (bytesL 49 7).length = 0 from splitE_ok t_ok (by omega)]
  obtain ⟨⟨m0, a0, c0⟩, ⟨m1, a1', c1'⟩, rfl⟩ : ∃ x y, l1 = [x, y] := by
    match l1, hl1 with
    | [x, y], _ => exact ⟨x, y, rfl⟩
    | [], h => simp at h
    | [x], h => simp at h
    | x :: y :: z :: r, h => simp at h
  simp only [List.map_cons, List.map_nil, List.cons.injEq, and_true] at hl1
  obtain ⟨rfl, rfl⟩ := hl1
  repeat'(first|(apply kp;iterate 2 exact rfl)|apply jJ|(apply jE;exact rfl)|(apply jp;exact rfl)|(apply jc;kernel_rfl)|((first|apply kf|apply kn|apply ke|apply kx|apply kc|apply kb);iterate 2 exact rfl)|((first|apply kz|apply ky);(·exact rfl);(·repeat(first|exact iO|exact iR rfl|apply iT));iterate 2 exact rfl)|(apply kg;iterate 2 exact rfl)|(apply kG;iterate 3 exact rfl)|(apply kB;(iterate 2 exact rfl);intro _)|(apply kA;exact rfl;intro _)|(apply kK;(iterate 4 exact rfl);intro _)|(apply kU;(iterate 2 exact rfl);(·repeat(first|exact sH _ _ _|apply sT));(first|exact nfL_eq rfl|exact rfl);exact rfl)|((first|apply kh|apply kl);(iterate 2 exact rfl);(first|decide|omega);exact rfl)|((first|(apply kR;iterate 2 exact rfl)|(apply kQ;exact rfl));all_goals(intro hc;try simp only[hcs]at hc;try(exfalso;first|contradiction|omega))))
  apply LR.call
  · exact rfl
  intro w1 h1
  refine (g20 w1).mono ?_
  rintro v w2 ⟨b, r, rfl, st⟩
  refine LR.back (h1.pushL st (fun x hx => by simp at hx; subst hx; rfl)) ?_
  clear h1 st
  refine LR.sub (D := St w NoF _) (fun w' hw' => (front (front hw' 2 rfl rfl) 2 rfl rfl).sub (L' := [mS (some ⟨ba, oa, none⟩) c1 [⟨M0, a0, c0⟩, ⟨M1, a1', c1'⟩], bunB [⟨M0, a0, c0⟩, ⟨M1, a1', c1'⟩], jO b r []]) (by repeat (first | exact List.Sublist.refl _ | exact List.nil_sublist _ | apply List.Sublist.cons_cons | apply List.Sublist.cons))) ?_
  have l2 : ([⟨M0, a0, c0⟩, ⟨M1, a1', c1'⟩] : List MsgA).length = 2 := rfl
  have k0 : M0.body.length = 48 := by kernel_rfl
  have kb : ∀ x ∈ ([⟨M0, a0, c0⟩, ⟨M1, a1', c1'⟩] : List MsgA), Byt x.m.body ∧ x.m.body.length ≤ 140737488355328 := by
    have h0 : ∀ x ∈ [M0, M1], Byt x.body ∧ x.body.length ≤ 48 := by rw [← t_split]; exact splitR_byt (bytesL_byt _ _)
    intro x hx
    have := h0 x.m (by simp at hx; rcases hx with rfl | rfl <;> simp)
    exact ⟨this.1, by omega⟩
  have ldc : ∀ w' : World, Rd w' (some ⟨ba, oa, none⟩) (([⟨M0, a0, c0⟩, ⟨M1, a1', c1'⟩] : List MsgA).flatMap MsgA.row) → ∀ (i : Nat) (hi : i < 2) (j : Nat) v, (([⟨M0, a0, c0⟩, ⟨M1, a1', c1'⟩] : List MsgA)[i]'hi).row[j]? = some v → ∀ k, k = oa + i * 13 + j → w'.cell? ⟨ba, k, none⟩ = some v := by
    intro w' hw' i hi j v hj k hk
    exact row_cell MsgA.row_len hw' hi j hj hk
  repeat'(first|(apply kp;iterate 2 exact rfl)|apply jJ|(apply jE;exact rfl)|(apply jp;exact rfl)|(apply jc;kernel_rfl)|((first|apply kf|apply kn|apply ke|apply kx|apply kc|apply kb);iterate 2 exact rfl)|((first|apply kz|apply ky);(·exact rfl);(·repeat(first|exact iO|exact iR rfl|apply iT));iterate 2 exact rfl)|(apply kg;iterate 2 exact rfl)|(apply kG;iterate 3 exact rfl)|(apply kB;(iterate 2 exact rfl);intro _)|(apply kA;exact rfl;intro _)|(apply kK;(iterate 4 exact rfl);intro _)|(apply kU;(iterate 2 exact rfl);(·repeat(first|exact sH _ _ _|apply sT));(first|exact nfL_eq rfl|exact rfl);exact rfl)|((first|apply kh|apply kl);(iterate 2 exact rfl);(first|decide|omega);exact rfl)|(apply idxX;(iterate 2 exact rfl);(iterate 2(first|omega|(dsimp only;omega)));exact rfl)|(apply LR.ev; (· apply Ev.load; (· exact rfl); (· intro w' hw'; first | (refine ldc w' (hw'.rd_of_own (by (repeat (first | exact mH _ _ | apply mT)))) 0 (by omega) 12 _ rfl _ ?_; (· simp; done)) | (refine ldc w' (hw'.rd_of_own (by (repeat (first | exact mH _ _ | apply mT)))) 1 (by omega) 4 _ rfl _ ?_; (· simp; done)) | (refine ldc w' (hw'.rd_of_own (by (repeat (first | exact mH _ _ | apply mT)))) 1 (by omega) 5 _ rfl _ ?_; (· simp; done)) | (refine ldc w' (hw'.rd_of_own (by (repeat (first | exact mH _ _ | apply mT)))) 1 (by omega) 3 _ rfl _ ?_; (· simp; done)))); (· exact rfl))|(apply LR.ev; (· apply Ev.load_agg_at (cs := MsgA.row ⟨M0, a0, c0⟩); (· exact rfl); (· exact rfl); (· intro w' hw'; refine rd_row (l := [⟨M0, a0, c0⟩, ⟨M1, a1', c1'⟩]) (i := 0) MsgA.row_len (hw'.rd_of_own (by (repeat (first | exact mH _ _ | apply mT)))) ?_ ?_; (· simp; done); (· simp; done))); (· exact rfl))|((first|(apply kR;iterate 2 exact rfl)|(apply kQ;exact rfl));all_goals(intro hc;try simp only[hcs]at hc;try(exfalso;first|contradiction|omega))))
  apply LR.call
  · exact rfl
  intro w1 h1
  have hp := put_own (b := b) (r := r) (ws := []) (l := [⟨M0, a0, c0⟩, ⟨M1, a1', c1'⟩]) (x := ⟨M0, a0, c0⟩) h1.tail1 (mH _ _) WsOk.nil (by simp) (kb _ (by simp)).1 (kb _ (by simp)).2
  rw [show putJ (([] : List WayA).map WayA.kl) M0 = _ from t_put0] at hp
  refine CallsTo.mono (show CallsTo Try.prog 22 _ w1 _ from hp) ?_
  rintro v w2 ⟨pa, pc, ws1, rfl, hA1, hok1, st⟩
  have h2 := h1.two st rfl rfl rfl (by (repeat (first | exact sH _ _ _ | apply sT)))
  refine LR.back h2 ?_
  clear h2 h1 st hp
  repeat'(first|(apply kp;iterate 2 exact rfl)|apply jJ|(apply jE;exact rfl)|(apply jp;exact rfl)|(apply jc;kernel_rfl)|((first|apply kf|apply kn|apply ke|apply kx|apply kc|apply kb);iterate 2 exact rfl)|((first|apply kz|apply ky);(·exact rfl);(·repeat(first|exact iO|exact iR rfl|apply iT));iterate 2 exact rfl)|(apply kg;iterate 2 exact rfl)|(apply kG;iterate 3 exact rfl)|(apply kB;(iterate 2 exact rfl);intro _)|(apply kA;exact rfl;intro _)|(apply kK;(iterate 4 exact rfl);intro _)|(apply kU;(iterate 2 exact rfl);(·repeat(first|exact sH _ _ _|apply sT));(first|exact nfL_eq rfl|exact rfl);exact rfl)|((first|apply kh|apply kl);(iterate 2 exact rfl);(first|decide|omega);exact rfl)|(apply idxX;(iterate 2 exact rfl);(iterate 2(first|omega|(dsimp only;omega)));exact rfl)|(apply LR.ev; (· apply Ev.load_agg_at (cs := MsgA.row ⟨M1, a1', c1'⟩); (· exact rfl); (· exact rfl); (· intro w' hw'; refine rd_row (l := [⟨M0, a0, c0⟩, ⟨M1, a1', c1'⟩]) (i := 1) MsgA.row_len (hw'.rd_of_own (by (repeat (first | exact mH _ _ | apply mT)))) ?_ ?_; (· simp; done); (· simp; done))); (· exact rfl))|((first|(apply kR;iterate 2 exact rfl)|(apply kQ;exact rfl));all_goals(intro hc;try simp only[hcs]at hc;try(exfalso;first|contradiction|omega))))
  apply LR.call
  · exact rfl
  intro w1 h1
  have hp := put_own (b := b) (r := r) (ws := ws1) (l := [⟨M0, a0, c0⟩, ⟨M1, a1', c1'⟩]) (x := ⟨M1, a1', c1'⟩) (front h1 2 rfl rfl) (mT _ (mT _ (mH _ _))) hok1 (by simp) (kb _ (by simp)).1 (kb _ (by simp)).2
  rw [show ws1.map WayA.kl = [((1, 1), [M0])] from hA1, show putJ [((1, 1), [M0])] M1 = _ from t_put1] at hp
  refine CallsTo.mono (show CallsTo Try.prog 22 _ w1 _ from hp) ?_
  rintro v w2 ⟨pb, pd, ws2, rfl, hA2, hok2, st⟩
  have h2 := h1.two st rfl rfl rfl (by (repeat (first | exact sH _ _ _ | apply sT)))
  refine LR.back h2 ?_
  clear h2 h1 st hp
  have hw2 : ws2 = [] := List.map_eq_nil_iff.1 hA2
  subst hw2
  repeat'(first|(apply kp;iterate 2 exact rfl)|apply jJ|(apply jE;exact rfl)|(apply jp;exact rfl)|(apply jc;kernel_rfl)|((first|apply kf|apply kn|apply ke|apply kx|apply kc|apply kb);iterate 2 exact rfl)|((first|apply kz|apply ky);(·exact rfl);(·repeat(first|exact iO|exact iR rfl|apply iT));iterate 2 exact rfl)|(apply kg;iterate 2 exact rfl)|(apply kG;iterate 3 exact rfl)|(apply kB;(iterate 2 exact rfl);intro _)|(apply kA;exact rfl;intro _)|(apply kK;(iterate 4 exact rfl);intro _)|(apply kU;(iterate 2 exact rfl);(·repeat(first|exact sH _ _ _|apply sT));(first|exact nfL_eq rfl|exact rfl);exact rfl)|((first|apply kh|apply kl);(iterate 2 exact rfl);(first|decide|omega);exact rfl)|(apply LR.call; (· exact rfl); (intro w1 h1; refine (g28 49 7 w1 (by omega) (by omega)).mono ?_; rintro v w2 ⟨ae, ce, rfl, hn⟩; refine LR.back (h1.newSl hn) ?_; clear h1 hn))|(apply kq; (· exact rfl); (· intro w1 h1; first | exact CallsTo.q (c19 pb ae pd ce tB (bytesL 49 7) w1 (h1.rd_of_own (by (repeat (first | exact mH _ _ | apply mT)))) (h1.rd_of_own (by (repeat (first | exact mH _ _ | apply mT)))) (by show (bytesL 49 7).length ≤ _; omega)) h1 | (have hj := jO_rd (h1.holds (jO b r []) (by (repeat (first | exact mH _ _ | apply mT)))); exact CallsTo.q (g24 b r [] w1 hj.1 hj.2) h1)))|((first|(apply kR;iterate 2 exact rfl)|(apply kQ;exact rfl));all_goals(intro hc;try simp only[hcs]at hc;try(exfalso;first|contradiction|omega))))
  (apply ret1; (· exact rfl); intro w' hS)
  exact ⟨by show Value.bool _ = .bool true; simp [tB], hS.toKeep⟩
end Go.Proofs.Ytphcnaafhcfakaa

namespace Go.Proofs.Ytphcnaafhcfakaa
open Go.Hb
attribute [local irreducible] LR CW At Ev thn blk finK noG again CallsTo DW QL dnext TW DP
set_option linter.unusedSimpArgs false
set_option linter.unusedVariables false
set_option maxRecDepth 100000

theorem bun_each {l : List MsgA} {w : World} (h : (bunB l).holds w) (hb : ∀ x ∈ l, x.m.body.length ≤ 140737488355328) : ∀ x ∈ l, Rd w x.a (bv x.m.body) ∧ x.m.body.length ≤ 140737488355328 := fun x hx =>
  ⟨ownsRow_rd (h.1 x hx : x.body.holds w), hb x hx⟩
set_option maxHeartbeats 8000000 in
theorem g3 (m : Msg) (a : Option Addr) (c : Nat) (pa : Option Addr) (pc : Nat) (p : List Int) (w : World) (hr : Rd w a (bv m.body)) (hz : a = none → c = 0) (hm : m.body.length ≤ 140737488355328) (hb : Byt m.body)
    (hpr : Rd w pa (bv p)) (hpz : pa = none → pc = 0) (hpc : p.length ≤ pc) (hpm : p.length ≤ 140737488355328) (hpb : Byt p) :
    CallsTo Try.prog 3 [m.val a c, .slice pa p.length pc] w fun v w' => v = .bool true ∧ Grew w w' := by
  refine go_in (n := 121) (St.refl _ NoF) Try.func3 rfl rfl ?_
  repeat'(first|(apply kp;iterate 2 exact rfl)|apply jJ|(apply jE;exact rfl)|(apply jp;exact rfl)|(apply jc;kernel_rfl)|((first|apply kf|apply kn|apply ke|apply kx|apply kc|apply kb);iterate 2 exact rfl)|((first|apply kz|apply ky);(·exact rfl);(·repeat(first|exact iO|exact iR rfl|apply iT));iterate 2 exact rfl)|(apply kg;iterate 2 exact rfl)|(apply kG;iterate 3 exact rfl)|(apply kB;(iterate 2 exact rfl);intro _)|(apply kA;exact rfl;intro _)|(apply kK;(iterate 4 exact rfl);intro _)|(apply kU;(iterate 2 exact rfl);(·repeat(first|exact sH _ _ _|apply sT));(first|exact nfL_eq rfl|exact rfl);exact rfl)|((first|apply kh|apply kl);(iterate 2 exact rfl);(first|decide|omega);exact rfl)|((first|(apply kR;iterate 2 exact rfl)|(apply kQ;exact rfl));all_goals(intro hc;try simp only[hcs]at hc;try(exfalso;first|contradiction|omega))))
  apply LR.call
  · exact rfl
  intro w1 h1
  refine CallsTo.mono (show CallsTo Try.prog 12 _ w1 _ from c14 m a c w1 (h1.oldRd hr) hz hm) ?_
  rintro v w2 ⟨ai, ci, rfl, hn1⟩
  refine LR.back (h1.newSl hn1) ?_
  clear hn1 h1
  repeat'(first|(apply kp;iterate 2 exact rfl)|apply jJ|(apply jE;exact rfl)|(apply jp;exact rfl)|(apply jc;kernel_rfl)|((first|apply kf|apply kn|apply ke|apply kx|apply kc|apply kb);iterate 2 exact rfl)|((first|apply kz|apply ky);(·exact rfl);(·repeat(first|exact iO|exact iR rfl|apply iT));iterate 2 exact rfl)|(apply kg;iterate 2 exact rfl)|(apply kG;iterate 3 exact rfl)|(apply kB;(iterate 2 exact rfl);intro _)|(apply kA;exact rfl;intro _)|(apply kK;(iterate 4 exact rfl);intro _)|(apply kU;(iterate 2 exact rfl);(·repeat(first|exact sH _ _ _|apply sT));(first|exact nfL_eq rfl|exact rfl);exact rfl)|((first|apply kh|apply kl);(iterate 2 exact rfl);(first|decide|omega);exact rfl)|((first|(apply kR;iterate 2 exact rfl)|(apply kQ;exact rfl));all_goals(intro hc;try simp only[hcs]at hc;try(exfalso;first|contradiction|omega))))
  apply LR.call
  · exact rfl
  intro w1 h1
  refine CallsTo.mono (show CallsTo Try.prog 13 _ w1 _ from c22 pa pc p w1 (h1.oldRd hpr) hpz hpm) ?_
  rintro v w2 ⟨ab, cb, rfl, hn1⟩
  refine LR.back (h1.newSl hn1) ?_
  clear hn1 h1
  repeat'(first|(apply kp;iterate 2 exact rfl)|apply jJ|(apply jE;exact rfl)|(apply jp;exact rfl)|(apply jc;kernel_rfl)|((first|apply kf|apply kn|apply ke|apply kx|apply kc|apply kb);iterate 2 exact rfl)|((first|apply kz|apply ky);(·exact rfl);(·repeat(first|exact iO|exact iR rfl|apply iT));iterate 2 exact rfl)|(apply kg;iterate 2 exact rfl)|(apply kG;iterate 3 exact rfl)|(apply kB;(iterate 2 exact rfl);intro _)|(apply kA;exact rfl;intro _)|(apply kK;(iterate 4 exact rfl);intro _)|(apply kU;(iterate 2 exact rfl);(·repeat(first|exact sH _ _ _|apply sT));(first|exact nfL_eq rfl|exact rfl);exact rfl)|((first|apply kh|apply kl);(iterate 2 exact rfl);(first|decide|omega);exact rfl)|((first|(apply kR;iterate 2 exact rfl)|(apply kQ;exact rfl));all_goals(intro hc;try simp only[hcs]at hc;try(exfalso;first|contradiction|omega))))
  apply LR.call
  · exact rfl
  intro w1 h1
  have ho := h1.holds (osl (.slice ab p.length cb) 5 1 p.length (bv p)) (by (repeat (first | exact mH _ _ | apply mT)))
  have hi := h1.holds (osl (.slice ai m.body.length ci) 5 1 m.body.length (bv m.body)) (by (repeat (first | exact mH _ _ | apply mT)))
  refine CallsTo.mono (show CallsTo Try.prog 14 _ w1 _ from g14 m ai ci ab cb p w1 (ownsRow_rd hi) (fun e => (ownsRow_some hi e).2) hm hb (ownsRow_rd ho) (fun e => (ownsRow_some ho e).2) (ownsRow_cap ho) hpm) ?_
  rintro v w2 ⟨a1, c1, l1, rfl, hl1, st⟩
  refine LR.back (h1.pushL st excl2) ?_
  clear ho hi h1 st
  repeat'(first|(apply kp;iterate 2 exact rfl)|apply jJ|(apply jE;exact rfl)|(apply jp;exact rfl)|(apply jc;kernel_rfl)|((first|apply kf|apply kn|apply ke|apply kx|apply kc|apply kb);iterate 2 exact rfl)|((first|apply kz|apply ky);(·exact rfl);(·repeat(first|exact iO|exact iR rfl|apply iT));iterate 2 exact rfl)|(apply kg;iterate 2 exact rfl)|(apply kG;iterate 3 exact rfl)|(apply kB;(iterate 2 exact rfl);intro _)|(apply kA;exact rfl;intro _)|(apply kK;(iterate 4 exact rfl);intro _)|(apply kU;(iterate 2 exact rfl);(·repeat(first|exact sH _ _ _|apply sT));(first|exact nfL_eq rfl|exact rfl);exact rfl)|((first|apply kh|apply kl);(iterate 2 exact rfl);(first|decide|omega);exact rfl)|((first|(apply kR;iterate 2 exact rfl)|(apply kQ;exact rfl));all_goals(intro hc;try simp only[hcs]at hc;try(exfalso;first|contradiction|omega))))
  apply LR.call
  · exact rfl
  intro w1 h1
  refine CallsTo.mono (show CallsTo Try.prog 15 _ w1 _ from g15 m a c pa pc p w1 (h1.oldRd hr) hz hm hb (h1.oldRd hpr) hpz hpc hpm) ?_
  rintro v w2 ⟨a2, c2, l2, rfl, hl2, st⟩
  refine LR.back (h1.pushL st excl2) ?_
  clear h1 st
  have hll : l1.map MsgA.m = l2.map MsgA.m := by rw [hl1, hl2]
  have hn12 : l1.length = l2.length := by have := congrArg List.length hll; simpa using this
  have hs := splitR_byt (m := m) hpb
  have hn1 : l1.length ≤ 100000000000 := by
    have := congrArg List.length hl1
    rw [List.length_map] at this
    rw [this]
    unfold splitR
    split
    · rename_i he
      simp only [splitL, List.length_map, List.length_range]
      by_cases hok : splitOk m
      · by_cases h2 : p.length ≤ 200
        · unfold npart; omega
        · rw [splitE_big hok h2] at he; cases he
      · rw [splitE_bad hok] at he; cases he
    · simp
  have k1 : ∀ x ∈ l1, x.m.body.length ≤ 140737488355328 := fun x hx => by
    have := (hs x.m (by rw [← hl1]; exact List.mem_map.2 ⟨x, hx, rfl⟩)).2
    omega
  have k2 : ∀ x ∈ l2, x.m.body.length ≤ 140737488355328 := fun x hx => by
    have := (hs x.m (by rw [← hl2]; exact List.mem_map.2 ⟨x, hx, rfl⟩)).2
    omega
  repeat'(first|(apply kp;iterate 2 exact rfl)|apply jJ|(apply jE;exact rfl)|(apply jp;exact rfl)|(apply jc;kernel_rfl)|((first|apply kf|apply kn|apply ke|apply kx|apply kc|apply kb);iterate 2 exact rfl)|((first|apply kz|apply ky);(·exact rfl);(·repeat(first|exact iO|exact iR rfl|apply iT));iterate 2 exact rfl)|(apply kg;iterate 2 exact rfl)|(apply kG;iterate 3 exact rfl)|(apply kB;(iterate 2 exact rfl);intro _)|(apply kA;exact rfl;intro _)|(apply kK;(iterate 4 exact rfl);intro _)|(apply kU;(iterate 2 exact rfl);(·repeat(first|exact sH _ _ _|apply sT));(first|exact nfL_eq rfl|exact rfl);exact rfl)|((first|apply kh|apply kl);(iterate 2 exact rfl);(first|decide|omega);exact rfl)|(apply kq; (· exact rfl); (· intro w1 h1; first | exact CallsTo.q (g16 a1 a2 c1 c2 l1 l2 w1 (h1.rd_of_own (by (repeat (first | exact mH _ _ | apply mT)))) (h1.rd_of_own (by (repeat (first | exact mH _ _ | apply mT)))) (bun_each (h1.holds (bunB l1) (by (repeat (first | exact mH _ _ | apply mT)))) k1) (fun x hx => (bun_each (h1.holds (bunB l2) (by (repeat (first | exact mH _ _ | apply mT)))) k2 x hx).1) hll (by omega)) h1 | exact CallsTo.q (c19 ab pa cb pc p p w1 (h1.rd_of_own (by (repeat (first | exact mH _ _ | apply mT)))) (h1.oldRd hpr) (by omega)) h1 | (have hq := CallsTo.q (c20 m m ai a ci c w1 (h1.rd_of_own (by (repeat (first | exact mH _ _ | apply mT)))) (h1.oldRd hr) hm) h1; rw [sameB_self] at hq; show CallsTo Try.prog 17 [m.val ai ci, m.val a c] w1 _; exact hq)))|((first|(apply kR;iterate 2 exact rfl)|(apply kQ;exact rfl));all_goals(intro hc;try simp only[hcs]at hc;try(exfalso;first|contradiction|omega))))
  apply CW.loop [11, 51, 52, 53, 54, 55, 56, 57, 58, 59, 60, 61, 62, 63, 64] (fun s : Nat × List Int => s.1 ≤ p.length ∧ s.2.length = p.length) (fun s => [(11, Value.int .i64 (s.1 : Int))])
    (fun s => St w NoF [osl (.slice ab p.length cb) 5 1 p.length (bv s.2), mS a1 c1 l1, bunB l1, mS a2 c2 l2, bunB l2]) (fun s => p.length - s.1)
  · exact fun w' hw' => ⟨(0, p), ⟨by simp, rfl⟩, ⟨rfl, trivial⟩, (front (front (front (front hw' 5 rfl rfl) 4 rfl rfl) 4 rfl rfl) 2 rfl rfl).sub (by repeat (first | exact List.Sublist.refl _ | exact List.nil_sublist _ | apply List.Sublist.cons_cons | apply List.Sublist.cons))⟩
  rintro ⟨i, bs⟩ g ⟨hi, hbs⟩
  simp only at hi hbs ⊢
  by_cases hlt : i < p.length
  · have hne : (bv bs) ≠ [] := fun e => by
      have e2 : bs.length = 0 := by simpa [bv] using congrArg List.length e
      omega
    refine LR_cls_cw fun w1 hw1 => ?_
    obtain ⟨bx, ox, rfl⟩ := (ownsRow_rd hw1.g0).form hne
    refine CW.sub (D := St w NoF _) ?_ (fun u e => e ▸ hw1)
    clear hw1 w1
    repeat'(first|(apply kp;iterate 2 exact rfl)|apply jJ|(apply jE;exact rfl)|(apply jp;exact rfl)|(apply jc;kernel_rfl)|((first|apply kf|apply kn|apply ke|apply kx|apply kc|apply kb);iterate 2 exact rfl)|((first|apply kz|apply ky);(·exact rfl);(·repeat(first|exact iO|exact iR rfl|apply iT));iterate 2 exact rfl)|(apply kg;iterate 2 exact rfl)|(apply kG;iterate 3 exact rfl)|(apply kB;(iterate 2 exact rfl);intro _)|(apply kA;exact rfl;intro _)|(apply kK;(iterate 4 exact rfl);intro _)|(apply kU;(iterate 2 exact rfl);(·repeat(first|exact sH _ _ _|apply sT));(first|exact nfL_eq rfl|exact rfl);exact rfl)|((first|apply kh|apply kl);(iterate 2 exact rfl);(first|decide|omega);exact rfl)|(apply idxX;(iterate 2 exact rfl);(iterate 2(first|omega|(dsimp only;omega)));exact rfl)|(apply LR.ev; (· apply Ev.load_osl; (· exact rfl); (· (repeat (first | exact mH _ _ | apply mT))); (· exact bv_at (l := bs) (i := i) (by simp) (by omega))); (· exact rfl))|(apply LR.ev; (· apply Ev.addW; (· exact rfl); (· exact rfl)); (· exact rfl))|((first|(apply kR;iterate 2 exact rfl)|(apply kQ;exact rfl));all_goals(intro hc;try simp only[hcs]at hc;try(exfalso;first|contradiction|omega))))
    refine LR.store_obj (v := .int .u8 (IntKind.wrap .u8 (bs[i] + 1))) (z' := osl (.slice (some ⟨bx, ox, none⟩) p.length cb) 5 1 p.length (bv (bs.set i (IntKind.wrap .u8 (bs[i] + 1))))) rfl rfl (sH _ _ _) rfl ?_ (osl.dep _ _ _ _ _) ?_
    · have st := Stores.osl (P := Try.prog) (T := 5) (q := 1) (b := bx) (o := ox) (i := (i : Int).toNat * 1) (n := p.length) (c := cb) (v := .int .u8 (IntKind.wrap .u8 (bs[i] + 1))) (vs := [.int .u8 (IntKind.wrap .u8 (bs[i] + 1))]) (xs := bv bs) (E := 5) (sz := 1) inferInstance rfl rfl rfl (by simp; omega)
      rw [show (i : Int).toNat * 1 = i by omega] at st ⊢
      rwa [splice_bv _ _ _ (by omega)] at st
    repeat'(first|(apply kp;iterate 2 exact rfl)|apply jJ|(apply jE;exact rfl)|(apply jp;exact rfl)|(apply jc;kernel_rfl)|((first|apply kf|apply kn|apply ke|apply kx|apply kc|apply kb);iterate 2 exact rfl)|((first|apply kz|apply ky);(·exact rfl);(·repeat(first|exact iO|exact iR rfl|apply iT));iterate 2 exact rfl)|(apply kg;iterate 2 exact rfl)|(apply kG;iterate 3 exact rfl)|(apply kB;(iterate 2 exact rfl);intro _)|(apply kA;exact rfl;intro _)|(apply kK;(iterate 4 exact rfl);intro _)|(apply kU;(iterate 2 exact rfl);(·repeat(first|exact sH _ _ _|apply sT));(first|exact nfL_eq rfl|exact rfl);exact rfl)|((first|apply kh|apply kl);(iterate 2 exact rfl);(first|decide|omega);exact rfl)|(apply addX;(iterate 2 exact rfl);(iterate 2(first|omega|(dsimp only;omega)));exact rfl)|((first|(apply kR;iterate 2 exact rfl)|(apply kQ;exact rfl));all_goals(intro hc;try simp only[hcs]at hc;try(exfalso;first|contradiction|omega))))
    apply At.again (i + 1, bs.set i (IntKind.wrap .u8 (bs[i] + 1))) ⟨by show i + 1 ≤ _; omega, by simp [hbs]⟩
    · (repeat (first | exact Out.refl _ _ | exact Out.mix | (apply Out.upd; (· exact rfl)) | (apply Out.updL; (· exact rfl)) | (apply Out.mixs; (· exact rfl))))
    · exact ⟨rfl, trivial⟩
    · exact fun w' hw' => hw'
    · show p.length - (i + 1) < p.length - i
      omega
  repeat'(first|(apply kp;iterate 2 exact rfl)|apply jJ|(apply jE;exact rfl)|(apply jp;exact rfl)|(apply jc;kernel_rfl)|((first|apply kf|apply kn|apply ke|apply kx|apply kc|apply kb);iterate 2 exact rfl)|((first|apply kz|apply ky);(·exact rfl);(·repeat(first|exact iO|exact iR rfl|apply iT));iterate 2 exact rfl)|(apply kg;iterate 2 exact rfl)|(apply kG;iterate 3 exact rfl)|(apply kB;(iterate 2 exact rfl);intro _)|(apply kA;exact rfl;intro _)|(apply kK;(iterate 4 exact rfl);intro _)|(apply kU;(iterate 2 exact rfl);(·repeat(first|exact sH _ _ _|apply sT));(first|exact nfL_eq rfl|exact rfl);exact rfl)|((first|apply kh|apply kl);(iterate 2 exact rfl);(first|decide|omega);exact rfl)|(apply kq; (· exact rfl); (· intro w1 h1; exact CallsTo.q (g16 a1 a2 c1 c2 l1 l2 w1 (h1.rd_of_own (by (repeat (first | exact mH _ _ | apply mT)))) (h1.rd_of_own (by (repeat (first | exact mH _ _ | apply mT)))) (bun_each (h1.holds (bunB l1) (by (repeat (first | exact mH _ _ | apply mT)))) k1) (fun x hx => (bun_each (h1.holds (bunB l2) (by (repeat (first | exact mH _ _ | apply mT)))) k2 x hx).1) hll (by omega)) h1))|((first|(apply kR;iterate 2 exact rfl)|(apply kQ;exact rfl));all_goals(intro hc;try simp only[hcs]at hc;try(exfalso;first|contradiction|omega))))
  apply CW.loop [4, 12, 13, 69, 70, 71, 72, 73, 74, 75, 76, 77, 78, 79, 80, 81, 82, 83, 84, 85, 86, 87, 88, 89, 90, 91, 92, 93, 94, 95, 96, 97, 98, 99, 100, 101, 102, 103, 104, 105, 106, 107, 108, 109, 110, 111, 112, 113, 114, 115, 116, 117, 118, 119] (fun s : Nat × List MsgA => s.1 ≤ l1.length ∧ s.2.flatMap MsgA.row = l1.flatMap MsgA.row ∧ (∀ j, s.1 ≤ j → s.2[j]? = l1[j]?)) (fun s => [(12, Value.int .i64 (s.1 : Int))])
    (fun s => St w NoF [mS a1 c1 l1, bunB s.2, mS a2 c2 l2, bunB l2]) (fun s => l1.length - s.1)
  · exact fun w' hw' => ⟨(0, l1), ⟨by simp, rfl, fun _ _ => rfl⟩, ⟨rfl, trivial⟩, hw'.tail1⟩
  rintro ⟨i', l'⟩ g' ⟨hi', hrow, hsm⟩
  simp only at hi' hrow hsm ⊢
  have hl' : l'.length = l1.length := by
    have := congrArg List.length hrow
    rw [Go.Hb.rows_len MsgA.row_len, Go.Hb.rows_len MsgA.row_len] at this
    omega
  by_cases hlt1 : i' < l1.length
  · have hlt2 : i' < l2.length := by omega
    obtain ⟨pp, x, qq, rfl, hp⟩ : ∃ pp x qq, l' = pp ++ x :: qq ∧ pp.length = i' := ⟨l'.take i', l'[i']'(by omega), l'.drop (i' + 1), by rw [← List.drop_eq_getElem_cons (by omega), List.take_append_drop], by simp; omega⟩
    have hx1 : l1[i'] = x := by
      have := hsm i' (Nat.le_refl _)
      rw [List.getElem?_append_right (by omega), hp, Nat.sub_self, List.getElem?_eq_getElem hlt1] at this
      simpa using this.symm
    have hxb := k1 _ (List.getElem_mem hlt1)
    rw [hx1] at hxb
    refine LR_cls_cw fun w1 hw1 => ?_
    obtain ⟨ba, oa, rfl⟩ := (ownsRow_rd hw1.g0).form (rows_ne MsgA.row_len (i := i') (by omega) hlt1)
    obtain ⟨bz, oz, rfl⟩ := (ownsRow_rd hw1.g2).form (rows_ne MsgA.row_len (i := i') (by omega) hlt2)
    refine CW.sub (D := St w NoF _) ?_ (fun u e => e ▸ hw1)
    clear hw1 w1
    have ldb : ∀ w', Rd w' (some ⟨ba, oa, none⟩) (l1.flatMap MsgA.row) → ∀ k, k = oa + i' * 13 + 12 → w'.cell? ⟨ba, k, none⟩ = some (.slice x.a x.m.body.length x.c) := by
      intro w' hw' k hk
      exact row_cell MsgA.row_len hw' hlt1 12 (by rw [hx1]; rfl) hk
    repeat'(first|(apply kp;iterate 2 exact rfl)|apply jJ|(apply jE;exact rfl)|(apply jp;exact rfl)|(apply jc;kernel_rfl)|((first|apply kf|apply kn|apply ke|apply kx|apply kc|apply kb);iterate 2 exact rfl)|((first|apply kz|apply ky);(·exact rfl);(·repeat(first|exact iO|exact iR rfl|apply iT));iterate 2 exact rfl)|(apply kg;iterate 2 exact rfl)|(apply kG;iterate 3 exact rfl)|(apply kB;(iterate 2 exact rfl);intro _)|(apply kA;exact rfl;intro _)|(apply kK;(iterate 4 exact rfl);intro _)|(apply kU;(iterate 2 exact rfl);(·repeat(first|exact sH _ _ _|apply sT));(first|exact nfL_eq rfl|exact rfl);exact rfl)|((first|apply kh|apply kl);(iterate 2 exact rfl);(first|decide|omega);exact rfl)|((first|(apply kR;iterate 2 exact rfl)|(apply kQ;exact rfl));all_goals(intro hc;try simp only[hcs]at hc;try(exfalso;first|contradiction|omega))))
    apply CW.loop [13, 75, 76, 77, 78, 79, 80, 81, 82, 83, 84, 85, 86, 87, 88, 89, 90, 91, 92, 93, 94, 95, 96, 97, 98, 99, 100] (fun s : Nat × List Int => s.1 ≤ x.m.body.length ∧ s.2.length = x.m.body.length) (fun s => [(13, Value.int .i64 (s.1 : Int))])
      (fun s => St w NoF [osl (.slice x.a x.m.body.length x.c) 5 1 x.m.body.length (bv s.2), bunB (pp ++ qq), mS (some ⟨ba, oa, none⟩) c1 l1, mS (some ⟨bz, oz, none⟩) c2 l2, bunB l2]) (fun s => x.m.body.length - s.1)
    · exact fun w' hw' => ⟨(0, x.m.body), ⟨by simp, rfl⟩, ⟨rfl, trivial⟩, St.bun_pick MsgA.dep (front hw' 1 rfl rfl)⟩
    rintro ⟨k, bs⟩ g2 ⟨hk, hbs⟩
    simp only at hk hbs ⊢
    by_cases hlt3 : k < x.m.body.length
    · have hne : (bv bs) ≠ [] := fun e => by
        have e2 : bs.length = 0 := by simpa [bv] using congrArg List.length e
        omega
      refine LR_cls_cw fun w1 hw1 => ?_
      obtain ⟨bx, ox, hxa⟩ := (ownsRow_rd hw1.g0).form hne
      refine CW.sub (D := St w NoF _) ?_ (fun u e => e ▸ hw1)
      clear hw1 w1
      rw [hxa] at ldb ⊢
      repeat'(first|(apply CW.reg_sinkC 16; (· exact rfl); (· decide +kernel))|(apply kp;iterate 2 exact rfl)|apply jJ|(apply jE;exact rfl)|(apply jp;exact rfl)|(apply jc;kernel_rfl)|((first|apply kf|apply kn|apply ke|apply kx|apply kc|apply kb);iterate 2 exact rfl)|((first|apply kz|apply ky);(·exact rfl);(·repeat(first|exact iO|exact iR rfl|apply iT));iterate 2 exact rfl)|(apply kg;iterate 2 exact rfl)|(apply kG;iterate 3 exact rfl)|(apply kB;(iterate 2 exact rfl);intro _)|(apply kA;exact rfl;intro _)|(apply kK;(iterate 4 exact rfl);intro _)|(apply kU;(iterate 2 exact rfl);(·repeat(first|exact sH _ _ _|apply sT));(first|exact nfL_eq rfl|exact rfl);exact rfl)|((first|apply kh|apply kl);(iterate 2 exact rfl);(first|decide|omega);exact rfl)|(apply idxX;(iterate 2 exact rfl);(iterate 2(first|omega|(dsimp only;omega)));exact rfl)|(apply LR.ev; (· apply Ev.load; (· exact rfl); (· intro w' hw'; refine ldb w' (hw'.rd_of_own (by (repeat (first | exact mH _ _ | apply mT)))) _ ?_; (· simp; done))); (· exact rfl))|((first|(apply kR;iterate 2 exact rfl)|(apply kQ;exact rfl));all_goals(intro hc;try simp only[hcs]at hc;try(exfalso;first|contradiction|omega))))
      all_goals (
        apply DW.quiet [0, 1, 2, 3, 4, 5, 6, 7, 8, 9, 10, 11, 12, 13, 14, 15]
        · decide +kernel
        · first | exact fun _ h => h | exact fun _ h => St.sub h (by repeat (first | exact List.Sublist.refl _ | apply List.Sublist.cons_cons | apply List.Sublist.cons))
        repeat'(first|(apply yp;iterate 3 exact rfl)|(apply QL.ev;(·exact rfl);(·first|((first|apply Ez|apply Ey);(·exact rfl);(·repeat(first|exact iO|exact iR rfl|apply iT));exact rfl)|((first|apply Ev.fieldAddr|apply Ev.len|apply EqOf.eq|apply EqOf.ne|apply Ev.conv|apply Ev.buildN);exact rfl)|((first|apply Ev.shr|apply Ev.shl);(iterate 2 exact rfl);first|decide|omega));·exact rfl)|(apply QL.ev; (· exact rfl); (· first | (apply Ev.indexAddr; (· exact rfl); (· exact rfl); (· omega); (· omega)) | (apply Ev.load; (· exact rfl); (· intro w' hw'; refine ldb w' (hw'.rd_of_own (a := some ⟨ba, oa, none⟩) (by (repeat (first | exact mH _ _ | apply mT)))) _ ?_; (· simp; done))) | (apply Ev.load_osl; (· exact rfl); (· (repeat (first | exact mH _ _ | apply mT))); (· exact bv_at (l := bs) (i := k) (by simp) (by omega)))); (· exact rfl))|(apply yq;iterate 5 exact rfl)|(apply QL.evg;(iterate 3 exact rfl);(·first|((first|apply Ez|apply Ey);(·exact rfl);(·repeat(first|exact iO|exact iR rfl|apply iT));exact rfl)|((first|apply Ev.fieldAddr|apply Ev.len|apply EqOf.eq|apply EqOf.ne|apply Ev.conv|apply Ev.buildN);exact rfl)|((first|apply Ev.shr|apply Ev.shl);(iterate 2 exact rfl);first|decide|omega));·exact rfl)|(apply yn;iterate 4 exact rfl)|((apply QL.split;iterate 3 exact rfl);all_goals(intro hc;try simp only[hcs]at hc;try(exfalso;first|contradiction|omega)))|apply QL.nil)
        all_goals (show DW _ _ _ _ _ _ _ _))
      all_goals (apply DW.done; (· decide +kernel))
      all_goals apply At.sink
      refine LR.store_obj (v := .int .u8 (xorI .u8 bs[k] 255)) (z' := osl (.slice (some ⟨bx, ox, none⟩) x.m.body.length x.c) 5 1 x.m.body.length (bv (bs.set k (xorI .u8 bs[k] 255)))) rfl rfl (sH _ _ _) rfl ?_ (osl.dep _ _ _ _ _) ?_
      · have st := Stores.osl (P := Try.prog) (T := 5) (q := 1) (b := bx) (o := ox) (i := (k : Int).toNat * 1) (n := x.m.body.length) (c := x.c) (v := .int .u8 (xorI .u8 bs[k] 255)) (vs := [.int .u8 (xorI .u8 bs[k] 255)]) (xs := bv bs) (E := 5) (sz := 1) inferInstance rfl rfl rfl (by simp; omega)
        rw [show (k : Int).toNat * 1 = k by omega] at st ⊢
        rwa [splice_bv _ _ _ (by omega)] at st
      repeat'(first|(apply kp;iterate 2 exact rfl)|apply jJ|(apply jE;exact rfl)|(apply jp;exact rfl)|(apply jc;kernel_rfl)|((first|apply kf|apply kn|apply ke|apply kx|apply kc|apply kb);iterate 2 exact rfl)|((first|apply kz|apply ky);(·exact rfl);(·repeat(first|exact iO|exact iR rfl|apply iT));iterate 2 exact rfl)|(apply kg;iterate 2 exact rfl)|(apply kG;iterate 3 exact rfl)|(apply kB;(iterate 2 exact rfl);intro _)|(apply kA;exact rfl;intro _)|(apply kK;(iterate 4 exact rfl);intro _)|(apply kU;(iterate 2 exact rfl);(·repeat(first|exact sH _ _ _|apply sT));(first|exact nfL_eq rfl|exact rfl);exact rfl)|((first|apply kh|apply kl);(iterate 2 exact rfl);(first|decide|omega);exact rfl)|(apply addX;(iterate 2 exact rfl);(iterate 2(first|omega|(dsimp only;omega)));exact rfl)|((first|(apply kR;iterate 2 exact rfl)|(apply kQ;exact rfl));all_goals(intro hc;try simp only[hcs]at hc;try(exfalso;first|contradiction|omega))))
      apply At.again (k + 1, bs.set k (xorI .u8 bs[k] 255)) ⟨by show k + 1 ≤ _; omega, by simp [hbs]⟩
      · (repeat (first | exact Out.refl _ _ | exact Out.mix | (apply Out.upd; (· exact rfl)) | (apply Out.updL; (· exact rfl)) | (apply Out.mixs; (· exact rfl))))
      · exact ⟨rfl, trivial⟩
      · exact fun w' hw' => hw'
      · show x.m.body.length - (k + 1) < x.m.body.length - k
        omega
    · have hyb : osl (.slice x.a x.m.body.length x.c) 5 1 x.m.body.length (bv bs) = MsgA.body ⟨{ x.m with body := bs }, x.a, x.c⟩ := by
        show _ = osl (.slice x.a bs.length x.c) 5 1 bs.length (bv bs)
        rw [hbs]
      have hyr : MsgA.row ⟨{ x.m with body := bs }, x.a, x.c⟩ = x.row := by
        simp only [MsgA.row, Msg.cells, hbs]
      have hrow2 : (pp ++ ⟨{ x.m with body := bs }, x.a, x.c⟩ :: qq).flatMap MsgA.row = l1.flatMap MsgA.row := by
        rw [← hrow, List.flatMap_append, List.flatMap_append, List.flatMap_cons, List.flatMap_cons, hyr]
      have hsm2 : ∀ j, i' + 1 ≤ j → (pp ++ ⟨{ x.m with body := bs }, x.a, x.c⟩ :: qq)[j]? = l1[j]? := by
        intro j hj
        rw [← hsm j (by omega), List.getElem?_append_right (by omega), List.getElem?_append_right (by omega), show j - pp.length = (j - pp.length - 1) + 1 by omega, List.getElem?_cons_succ, List.getElem?_cons_succ]
      refine CW.sub (D := St w NoF [mS (some ⟨ba, oa, none⟩) c1 l1, bunB (pp ++ ⟨{ x.m with body := bs }, x.a, x.c⟩ :: qq), mS (some ⟨bz, oz, none⟩) c2 l2, bunB l2]) ?_ (fun w' hw' => by rw [hyb] at hw'; exact front (St.bun_put MsgA.dep MsgA.ex hw') 1 rfl rfl)
      by_cases hnx : i' + 1 < l1.length
      · have hnx2 : i' + 1 < l2.length := by omega
        have hek : l1[i' + 1].m = l2[i' + 1].m := by
          have := congrArg (fun z => z[i' + 1]?) hll
          simpa [hnx, hnx2] using this
        have hmem : l1[i' + 1] ∈ pp ++ ⟨{ x.m with body := bs }, x.a, x.c⟩ :: qq := List.mem_of_getElem? (i := i' + 1) (by rw [hsm2 _ (Nat.le_refl _), List.getElem?_eq_getElem hnx])
        repeat'(first|(apply CW.reg_heldC)|(apply kp;iterate 2 exact rfl)|apply jJ|(apply jE;exact rfl)|(apply jp;exact rfl)|(apply jc;kernel_rfl)|((first|apply kf|apply kn|apply ke|apply kx|apply kc|apply kb);iterate 2 exact rfl)|((first|apply kz|apply ky);(·exact rfl);(·repeat(first|exact iO|exact iR rfl|apply iT));iterate 2 exact rfl)|(apply kg;iterate 2 exact rfl)|(apply kG;iterate 3 exact rfl)|(apply kB;(iterate 2 exact rfl);intro _)|(apply kA;exact rfl;intro _)|(apply kK;(iterate 4 exact rfl);intro _)|(apply kU;(iterate 2 exact rfl);(·repeat(first|exact sH _ _ _|apply sT));(first|exact nfL_eq rfl|exact rfl);exact rfl)|((first|apply kh|apply kl);(iterate 2 exact rfl);(first|decide|omega);exact rfl)|(apply idxX;(iterate 2 exact rfl);(iterate 2(first|omega|(dsimp only;omega)));exact rfl)|(apply LR.ev; (· apply Ev.load; (· exact rfl); (· intro w' hw'; refine ldb w' (hw'.rd_of_own (by (repeat (first | exact mH _ _ | apply mT)))) _ ?_; (· simp; done))); (· exact rfl))|((first|(apply kR;iterate 2 exact rfl)|(apply kQ;exact rfl));all_goals(intro hc;try simp only[hcs]at hc;try(exfalso;first|contradiction|omega))))
        all_goals (
          apply DW.quiet [0, 1, 2, 3, 4, 5, 6, 7, 8, 9, 10, 11, 12, 13, 14, 15]
          · decide +kernel
          · first | exact fun _ h => h | exact fun _ h => St.sub h (by repeat (first | exact List.Sublist.refl _ | apply List.Sublist.cons_cons | apply List.Sublist.cons))
          repeat'(first|(apply yp;iterate 3 exact rfl)|(apply QL.ev;(·exact rfl);(·first|((first|apply Ez|apply Ey);(·exact rfl);(·repeat(first|exact iO|exact iR rfl|apply iT));exact rfl)|((first|apply Ev.fieldAddr|apply Ev.len|apply EqOf.eq|apply EqOf.ne|apply Ev.conv|apply Ev.buildN);exact rfl)|((first|apply Ev.shr|apply Ev.shl);(iterate 2 exact rfl);first|decide|omega));·exact rfl)|(apply QL.ev; (· exact rfl); (· first | (apply addQ (a := i') (b := 1) rfl; (· exact rfl); (· exact rfl); (· omega)) | (apply Ev.indexAddr; (· exact rfl); (· exact rfl); (· omega); (· omega)) | (apply Ev.load_agg_at (cs := (l1[i' + 1]'hnx).row); (· exact rfl); (· exact rfl); (· intro w' hw'; refine rd_row (l := l1) (i := i' + 1) MsgA.row_len (hw'.rd_of_own (a := some ⟨ba, oa, none⟩) (by (repeat (first | exact mH _ _ | apply mT)))) hnx ?_; (· simp; done))) | (apply Ev.load_agg_at (cs := (l2[i' + 1]'hnx2).row); (· exact rfl); (· exact rfl); (· intro w' hw'; refine rd_row (l := l2) (i := i' + 1) MsgA.row_len (hw'.rd_of_own (a := some ⟨bz, oz, none⟩) (by (repeat (first | exact mH _ _ | apply mT)))) hnx2 ?_; (· simp; done)))); (· exact rfl))|(apply QL.evg; (iterate 3 exact rfl); (· first | (apply addQ (a := i') (b := 1) rfl; (· exact rfl); (· exact rfl); (· omega)) | (apply Ev.indexAddr; (· exact rfl); (· exact rfl); (· omega); (· omega)) | (apply Ev.load_agg_at (cs := (l1[i' + 1]'hnx).row); (· exact rfl); (· exact rfl); (· intro w' hw'; refine rd_row (l := l1) (i := i' + 1) MsgA.row_len (hw'.rd_of_own (a := some ⟨ba, oa, none⟩) (by (repeat (first | exact mH _ _ | apply mT)))) hnx ?_; (· simp; done))) | (apply Ev.load_agg_at (cs := (l2[i' + 1]'hnx2).row); (· exact rfl); (· exact rfl); (· intro w' hw'; refine rd_row (l := l2) (i := i' + 1) MsgA.row_len (hw'.rd_of_own (a := some ⟨bz, oz, none⟩) (by (repeat (first | exact mH _ _ | apply mT)))) hnx2 ?_; (· simp; done)))); (· exact rfl))|(apply yq;iterate 5 exact rfl)|(apply QL.evg;(iterate 3 exact rfl);(·first|((first|apply Ez|apply Ey);(·exact rfl);(·repeat(first|exact iO|exact iR rfl|apply iT));exact rfl)|((first|apply Ev.fieldAddr|apply Ev.len|apply EqOf.eq|apply EqOf.ne|apply Ev.conv|apply Ev.buildN);exact rfl)|((first|apply Ev.shr|apply Ev.shl);(iterate 2 exact rfl);first|decide|omega));·exact rfl)|(apply yn;iterate 4 exact rfl)|((apply QL.split;iterate 3 exact rfl);all_goals(intro hc;try simp only[hcs]at hc;try(exfalso;first|contradiction|omega)))|apply QL.nil)
          all_goals (show DW _ _ _ _ _ _ _ _))
        all_goals (
          apply DW.loud 16
          · exact rfl
          · decide +kernel
          repeat'(first|(apply kg;iterate 2 exact rfl)|(apply kG;iterate 3 exact rfl)|apply kM|(apply kp;iterate 2 exact rfl)|((first|apply kz|apply ky);(·exact rfl);(·repeat(first|exact iO|exact iR rfl|apply iT));iterate 2 exact rfl)|(apply kK;(iterate 4 exact rfl);intro _)|(apply kU;(iterate 2 exact rfl);(·repeat(first|exact sH _ _ _|apply sT));(first|exact nfL_eq rfl|exact rfl);exact rfl)|(apply kB;(iterate 2 exact rfl);intro _)|(apply kA;exact rfl;intro _)|(apply kq; (· exact rfl); (· intro w1 h1; (have hq := CallsTo.q (c20 l1[i' + 1].m l2[i' + 1].m l1[i' + 1].a l2[i' + 1].a l1[i' + 1].c l2[i' + 1].c w1 (ownsRow_rd ((h1.holds (bunB (pp ++ ⟨{ x.m with body := bs }, x.a, x.c⟩ :: qq)) (by (repeat (first | exact mH _ _ | apply mT)))).1 _ hmem)) (bun_each (h1.holds (bunB l2) (by (repeat (first | exact mH _ _ | apply mT)))) k2 _ (List.getElem_mem hnx2)).1 (k1 _ (List.getElem_mem hnx))) h1; rw [show sameB l1[i' + 1].m l2[i' + 1].m = true by rw [hek]; exact sameB_self _] at hq; show CallsTo Try.prog 17 [l1[i' + 1].m.val l1[i' + 1].a l1[i' + 1].c, l2[i' + 1].m.val l2[i' + 1].a l2[i' + 1].c] w1 _; exact hq))))
          all_goals (refine At.stage_same (fun _ h => St.sub h (by repeat (first | exact List.Sublist.refl _ | apply List.Sublist.cons_cons | apply List.Sublist.cons))) ?_))
        all_goals (
          apply DW.quiet [17, 18]
          · decide +kernel
          · first | exact fun _ h => h | exact fun _ h => St.sub h (by repeat (first | exact List.Sublist.refl _ | apply List.Sublist.cons_cons | apply List.Sublist.cons))
          repeat'(first|(apply yp;iterate 3 exact rfl)|(apply QL.ev;(·exact rfl);(·first|((first|apply Ez|apply Ey);(·exact rfl);(·repeat(first|exact iO|exact iR rfl|apply iT));exact rfl)|((first|apply Ev.fieldAddr|apply Ev.len|apply EqOf.eq|apply EqOf.ne|apply Ev.conv|apply Ev.buildN);exact rfl)|((first|apply Ev.shr|apply Ev.shl);(iterate 2 exact rfl);first|decide|omega));·exact rfl)|(apply QL.ev; (· exact rfl); (· first | (apply addQ (a := i') (b := 1) rfl; (· exact rfl); (· exact rfl); (· omega)) | (apply Ev.indexAddr; (· exact rfl); (· exact rfl); (· omega); (· omega)) | (apply Ev.load_agg_at (cs := (l1[i' + 1]'hnx).row); (· exact rfl); (· exact rfl); (· intro w' hw'; refine rd_row (l := l1) (i := i' + 1) MsgA.row_len (hw'.rd_of_own (a := some ⟨ba, oa, none⟩) (by (repeat (first | exact mH _ _ | apply mT)))) hnx ?_; (· simp; done))) | (apply Ev.load_agg_at (cs := (l2[i' + 1]'hnx2).row); (· exact rfl); (· exact rfl); (· intro w' hw'; refine rd_row (l := l2) (i := i' + 1) MsgA.row_len (hw'.rd_of_own (a := some ⟨bz, oz, none⟩) (by (repeat (first | exact mH _ _ | apply mT)))) hnx2 ?_; (· simp; done)))); (· exact rfl))|(apply QL.evg; (iterate 3 exact rfl); (· first | (apply addQ (a := i') (b := 1) rfl; (· exact rfl); (· exact rfl); (· omega)) | (apply Ev.indexAddr; (· exact rfl); (· exact rfl); (· omega); (· omega)) | (apply Ev.load_agg_at (cs := (l1[i' + 1]'hnx).row); (· exact rfl); (· exact rfl); (· intro w' hw'; refine rd_row (l := l1) (i := i' + 1) MsgA.row_len (hw'.rd_of_own (a := some ⟨ba, oa, none⟩) (by (repeat (first | exact mH _ _ | apply mT)))) hnx ?_; (· simp; done))) | (apply Ev.load_agg_at (cs := (l2[i' + 1]'hnx2).row); (· exact rfl); (· exact rfl); (· intro w' hw'; refine rd_row (l := l2) (i := i' + 1) MsgA.row_len (hw'.rd_of_own (a := some ⟨bz, oz, none⟩) (by (repeat (first | exact mH _ _ | apply mT)))) hnx2 ?_; (· simp; done)))); (· exact rfl))|(apply yq;iterate 5 exact rfl)|(apply QL.evg;(iterate 3 exact rfl);(·first|((first|apply Ez|apply Ey);(·exact rfl);(·repeat(first|exact iO|exact iR rfl|apply iT));exact rfl)|((first|apply Ev.fieldAddr|apply Ev.len|apply EqOf.eq|apply EqOf.ne|apply Ev.conv|apply Ev.buildN);exact rfl)|((first|apply Ev.shr|apply Ev.shl);(iterate 2 exact rfl);first|decide|omega));·exact rfl)|(apply yn;iterate 4 exact rfl)|((apply QL.split;iterate 3 exact rfl);all_goals(intro hc;try simp only[hcs]at hc;try(exfalso;first|contradiction|omega)))|apply QL.nil)
          all_goals (show DW _ _ _ _ _ _ _ _))
        all_goals (first | (apply DW.done_thn; (· decide +kernel)) | (apply DW.done; (· decide +kernel)))
        repeat'(first|(apply kp;iterate 2 exact rfl)|apply jJ|(apply jE;exact rfl)|(apply jp;exact rfl)|(apply jc;kernel_rfl)|((first|apply kf|apply kn|apply ke|apply kx|apply kc|apply kb);iterate 2 exact rfl)|((first|apply kz|apply ky);(·exact rfl);(·repeat(first|exact iO|exact iR rfl|apply iT));iterate 2 exact rfl)|(apply kg;iterate 2 exact rfl)|(apply kG;iterate 3 exact rfl)|(apply kB;(iterate 2 exact rfl);intro _)|(apply kA;exact rfl;intro _)|(apply kK;(iterate 4 exact rfl);intro _)|(apply kU;(iterate 2 exact rfl);(·repeat(first|exact sH _ _ _|apply sT));(first|exact nfL_eq rfl|exact rfl);exact rfl)|((first|apply kh|apply kl);(iterate 2 exact rfl);(first|decide|omega);exact rfl)|(apply addX;(iterate 2 exact rfl);(iterate 2(first|omega|(dsimp only;omega)));exact rfl)|((first|(apply kR;iterate 2 exact rfl)|(apply kQ;exact rfl));all_goals(intro hc;try simp only[hcs]at hc;try(exfalso;first|contradiction|omega))))
        apply At.again (i' + 1, pp ++ ⟨{ x.m with body := bs }, x.a, x.c⟩ :: qq)
        · exact ⟨by show i' + 1 ≤ _; omega, hrow2, hsm2⟩
        · (repeat (first | exact Out.refl _ _ | exact Out.mix | (apply Out.upd; (· exact rfl)) | (apply Out.updL; (· exact rfl)) | (apply Out.mixs; (· exact rfl))))
        · exact ⟨rfl, trivial⟩
        · exact fun w' hw' => hw'
        · show l1.length - (i' + 1) < l1.length - i'
          omega
      · repeat'(first|(apply CW.reg_heldC)|(apply kp;iterate 2 exact rfl)|apply jJ|(apply jE;exact rfl)|(apply jp;exact rfl)|(apply jc;kernel_rfl)|((first|apply kf|apply kn|apply ke|apply kx|apply kc|apply kb);iterate 2 exact rfl)|((first|apply kz|apply ky);(·exact rfl);(·repeat(first|exact iO|exact iR rfl|apply iT));iterate 2 exact rfl)|(apply kg;iterate 2 exact rfl)|(apply kG;iterate 3 exact rfl)|(apply kB;(iterate 2 exact rfl);intro _)|(apply kA;exact rfl;intro _)|(apply kK;(iterate 4 exact rfl);intro _)|(apply kU;(iterate 2 exact rfl);(·repeat(first|exact sH _ _ _|apply sT));(first|exact nfL_eq rfl|exact rfl);exact rfl)|((first|apply kh|apply kl);(iterate 2 exact rfl);(first|decide|omega);exact rfl)|(apply idxX;(iterate 2 exact rfl);(iterate 2(first|omega|(dsimp only;omega)));exact rfl)|(apply LR.ev; (· apply Ev.load; (· exact rfl); (· intro w' hw'; refine ldb w' (hw'.rd_of_own (by (repeat (first | exact mH _ _ | apply mT)))) _ ?_; (· simp; done))); (· exact rfl))|((first|(apply kR;iterate 2 exact rfl)|(apply kQ;exact rfl));all_goals(intro hc;try simp only[hcs]at hc;try(exfalso;first|contradiction|omega))))
        all_goals (
          apply DW.quiet [0, 1, 2, 3, 4, 5, 6, 7, 8, 9, 10, 11, 12, 13, 14, 15]
          · decide +kernel
          · first | exact fun _ h => h | exact fun _ h => St.sub h (by repeat (first | exact List.Sublist.refl _ | apply List.Sublist.cons_cons | apply List.Sublist.cons))
          repeat'(first|(apply yp;iterate 3 exact rfl)|(apply QL.ev;(·exact rfl);(·first|((first|apply Ez|apply Ey);(·exact rfl);(·repeat(first|exact iO|exact iR rfl|apply iT));exact rfl)|((first|apply Ev.fieldAddr|apply Ev.len|apply EqOf.eq|apply EqOf.ne|apply Ev.conv|apply Ev.buildN);exact rfl)|((first|apply Ev.shr|apply Ev.shl);(iterate 2 exact rfl);first|decide|omega));·exact rfl)|(apply QL.ev; (· exact rfl); (· apply addQ (a := i') (b := 1) rfl; (· exact rfl); (· exact rfl); (· omega)); (· exact rfl))|(apply yq;iterate 5 exact rfl)|(apply QL.evg;(iterate 3 exact rfl);(·first|((first|apply Ez|apply Ey);(·exact rfl);(·repeat(first|exact iO|exact iR rfl|apply iT));exact rfl)|((first|apply Ev.fieldAddr|apply Ev.len|apply EqOf.eq|apply EqOf.ne|apply Ev.conv|apply Ev.buildN);exact rfl)|((first|apply Ev.shr|apply Ev.shl);(iterate 2 exact rfl);first|decide|omega));·exact rfl)|(apply yn;iterate 4 exact rfl)|((apply QL.split;iterate 3 exact rfl);all_goals(intro hc;try simp only[hcs]at hc;try(exfalso;first|contradiction|omega)))|apply QL.nil)
          all_goals (show DW _ _ _ _ _ _ _ _))
        all_goals (
          apply DW.loud 16
          · exact rfl
          · decide +kernel
          repeat'(first|(apply kg;iterate 2 exact rfl)|(apply kG;iterate 3 exact rfl)|apply kM|(apply kp;iterate 2 exact rfl)|((first|apply kz|apply ky);(·exact rfl);(·repeat(first|exact iO|exact iR rfl|apply iT));iterate 2 exact rfl)|(apply kK;(iterate 4 exact rfl);intro _)|(apply kU;(iterate 2 exact rfl);(·repeat(first|exact sH _ _ _|apply sT));(first|exact nfL_eq rfl|exact rfl);exact rfl)|(apply kB;(iterate 2 exact rfl);intro _)|(apply kA;exact rfl;intro _))
          all_goals (refine At.stage_same (fun _ h => St.sub h (by repeat (first | exact List.Sublist.refl _ | apply List.Sublist.cons_cons | apply List.Sublist.cons))) ?_))
        all_goals (
          apply DW.quiet [17, 18]
          · decide +kernel
          · first | exact fun _ h => h | exact fun _ h => St.sub h (by repeat (first | exact List.Sublist.refl _ | apply List.Sublist.cons_cons | apply List.Sublist.cons))
          repeat'(first|(apply yp;iterate 3 exact rfl)|(apply QL.ev;(·exact rfl);(·first|((first|apply Ez|apply Ey);(·exact rfl);(·repeat(first|exact iO|exact iR rfl|apply iT));exact rfl)|((first|apply Ev.fieldAddr|apply Ev.len|apply EqOf.eq|apply EqOf.ne|apply Ev.conv|apply Ev.buildN);exact rfl)|((first|apply Ev.shr|apply Ev.shl);(iterate 2 exact rfl);first|decide|omega));·exact rfl)|(apply QL.ev; (· exact rfl); (· apply addQ (a := i') (b := 1) rfl; (· exact rfl); (· exact rfl); (· omega)); (· exact rfl))|(apply yq;iterate 5 exact rfl)|(apply QL.evg;(iterate 3 exact rfl);(·first|((first|apply Ez|apply Ey);(·exact rfl);(·repeat(first|exact iO|exact iR rfl|apply iT));exact rfl)|((first|apply Ev.fieldAddr|apply Ev.len|apply EqOf.eq|apply EqOf.ne|apply Ev.conv|apply Ev.buildN);exact rfl)|((first|apply Ev.shr|apply Ev.shl);(iterate 2 exact rfl);first|decide|omega));·exact rfl)|(apply yn;iterate 4 exact rfl)|((apply QL.split;iterate 3 exact rfl);all_goals(intro hc;try simp only[hcs]at hc;try(exfalso;first|contradiction|omega)))|apply QL.nil)
          all_goals (show DW _ _ _ _ _ _ _ _))
        all_goals (first | (apply DW.done_thn; (· decide +kernel)) | (apply DW.done; (· decide +kernel)))
        repeat'(first|(apply kp;iterate 2 exact rfl)|apply jJ|(apply jE;exact rfl)|(apply jp;exact rfl)|(apply jc;kernel_rfl)|((first|apply kf|apply kn|apply ke|apply kx|apply kc|apply kb);iterate 2 exact rfl)|((first|apply kz|apply ky);(·exact rfl);(·repeat(first|exact iO|exact iR rfl|apply iT));iterate 2 exact rfl)|(apply kg;iterate 2 exact rfl)|(apply kG;iterate 3 exact rfl)|(apply kB;(iterate 2 exact rfl);intro _)|(apply kA;exact rfl;intro _)|(apply kK;(iterate 4 exact rfl);intro _)|(apply kU;(iterate 2 exact rfl);(·repeat(first|exact sH _ _ _|apply sT));(first|exact nfL_eq rfl|exact rfl);exact rfl)|((first|apply kh|apply kl);(iterate 2 exact rfl);(first|decide|omega);exact rfl)|(apply addX;(iterate 2 exact rfl);(iterate 2(first|omega|(dsimp only;omega)));exact rfl)|((first|(apply kR;iterate 2 exact rfl)|(apply kQ;exact rfl));all_goals(intro hc;try simp only[hcs]at hc;try(exfalso;first|contradiction|omega))))
        apply At.again (i' + 1, pp ++ ⟨{ x.m with body := bs }, x.a, x.c⟩ :: qq)
        · exact ⟨by show i' + 1 ≤ _; omega, hrow2, hsm2⟩
        · (repeat (first | exact Out.refl _ _ | exact Out.mix | (apply Out.upd; (· exact rfl)) | (apply Out.updL; (· exact rfl)) | (apply Out.mixs; (· exact rfl))))
        · exact ⟨rfl, trivial⟩
        · exact fun w' hw' => hw'
        · show l1.length - (i' + 1) < l1.length - i'
          omega
  · repeat'(first|(apply kp;iterate 2 exact rfl)|apply jJ|(apply jE;exact rfl)|(apply jp;exact rfl)|(apply jc;kernel_rfl)|((first|apply kf|apply kn|apply ke|apply kx|apply kc|apply kb);iterate 2 exact rfl)|((first|apply kz|apply ky);(·exact rfl);(·repeat(first|exact iO|exact iR rfl|apply iT));iterate 2 exact rfl)|(apply kg;iterate 2 exact rfl)|(apply kG;iterate 3 exact rfl)|(apply kB;(iterate 2 exact rfl);intro _)|(apply kA;exact rfl;intro _)|(apply kK;(iterate 4 exact rfl);intro _)|(apply kU;(iterate 2 exact rfl);(·repeat(first|exact sH _ _ _|apply sT));(first|exact nfL_eq rfl|exact rfl);exact rfl)|((first|apply kh|apply kl);(iterate 2 exact rfl);(first|decide|omega);exact rfl)|(apply kq; (· exact rfl); (· intro w1 h1; exact CallsTo.q (g19 w1) h1))|((first|(apply kR;iterate 2 exact rfl)|(apply kQ;exact rfl));all_goals(intro hc;try simp only[hcs]at hc;try(exfalso;first|contradiction|omega))))
    (apply ret1; (· exact rfl); intro w' hS)
    exact ⟨rfl, hS.toKeep⟩
end Go.Proofs.Ytphcnaafhcfakaa
