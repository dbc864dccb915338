/-
  The examples of the chapter, what may not be, joiners that are none. Conditions: none.
-/
import Derived.Test.YtphcnaafhcfakaaRPWM5

namespace Go.Proofs.Ytphcnaafhcfakaa
open Go.Hb
attribute [local irreducible] LR CW At Ev thn blk finK noG again CallsTo DW QL dnext TW DP
set_option linter.unusedSimpArgs false
set_option linter.unusedVariables false
set_option maxRecDepth 100000

set_option maxHeartbeats 8000000 in
theorem g7 (w : World) : CallsTo Try.prog 7 [] w fun v w' => v = .bool true ∧ Grew w w' := by
  refine go_in (n := 344) (St.refl _ NoF) Try.func7 rfl rfl ?_
  repeat'(first|(apply kp;iterate 2 exact rfl)|apply jJ|(apply jE;exact rfl)|(apply jp;exact rfl)|(apply jc;kernel_rfl)|((first|apply kf|apply kn|apply ke|apply kx|apply kc|apply kb);iterate 2 exact rfl)|((first|apply kz|apply ky);(·exact rfl);(·repeat(first|exact iO|exact iR rfl|apply iT));iterate 2 exact rfl)|(apply kg;iterate 2 exact rfl)|(apply kG;iterate 3 exact rfl)|(apply kB;(iterate 2 exact rfl);intro _)|(apply kA;exact rfl;intro _)|(apply kK;(iterate 4 exact rfl);intro _)|(apply kU;(iterate 2 exact rfl);(·repeat(first|exact sH _ _ _|apply sT));(first|exact nfL_eq rfl|exact rfl);exact rfl)|((first|apply kh|apply kl);(iterate 2 exact rfl);(first|decide|omega);exact rfl)|((first|(apply kR;iterate 2 exact rfl)|(apply kQ;exact rfl));all_goals(intro hc;try simp only[hcs]at hc;try(exfalso;first|contradiction|omega))))
  apply CW.loop [0, 1, 2, 3, 45, 46, 47, 48, 49, 50, 51, 52, 53, 54, 55, 56, 57, 58, 59, 60, 61, 62, 63, 64, 65, 66, 67, 68, 69, 70, 71, 72, 73, 74, 75, 76, 77, 78, 79, 80, 81, 82, 83] (fun n : Nat => n ≤ 201) (fun n => [(1, Value.int .i64 (n : Int))]) (fun _ => St w NoF []) (fun n => 201 - n)
  · exact fun w' hw' => ⟨0, by omega, ⟨rfl, trivial⟩, hw'⟩
  intro n g hn
  by_cases hlt : n ≤ 200
  · have hbl : (bytesL n 1).length = n := bytesL_len n 1
    have hnp : 1 ≤ npart n ∧ npart n ≤ 5 ∧ (npart n - 1) * 48 ≤ n ∧ n - (npart n - 1) * 48 ≤ 48 := by unfold npart; omega
    repeat'(first|(apply kp;iterate 2 exact rfl)|apply jJ|(apply jE;exact rfl)|(apply jp;exact rfl)|(apply jc;kernel_rfl)|((first|apply kf|apply kn|apply ke|apply kx|apply kc|apply kb);iterate 2 exact rfl)|((first|apply kz|apply ky);(·exact rfl);(·repeat(first|exact iO|exact iR rfl|apply iT));iterate 2 exact rfl)|(apply kg;iterate 2 exact rfl)|(apply kG;iterate 3 exact rfl)|(apply kB;(iterate 2 exact rfl);intro _)|(apply kA;exact rfl;intro _)|(apply kK;(iterate 4 exact rfl);intro _)|(apply kU;(iterate 2 exact rfl);(·repeat(first|exact sH _ _ _|apply sT));(first|exact nfL_eq rfl|exact rfl);exact rfl)|((first|apply kh|apply kl);(iterate 2 exact rfl);(first|decide|omega);exact rfl)|(apply kq; (· exact rfl); (· intro w1 h1; exact CallsTo.q (g27 2 1 w1) h1))|((first|(apply kR;iterate 2 exact rfl)|(apply kQ;exact rfl));all_goals(intro hc;try simp only[hcs]at hc;try(exfalso;first|contradiction|omega))))
    apply LR.call
    · exact rfl
    intro w1 h1
    refine (g28 n 1 w1 (by omega) (by omega)).mono ?_
    rintro v w2 ⟨ab, cb, rfl, hb⟩
    refine LR.back (h1.newSl hb) ?_
    clear h1 hb
    repeat'(first|(apply kp;iterate 2 exact rfl)|apply jJ|(apply jE;exact rfl)|(apply jp;exact rfl)|(apply jc;kernel_rfl)|((first|apply kf|apply kn|apply ke|apply kx|apply kc|apply kb);iterate 2 exact rfl)|((first|apply kz|apply ky);(·exact rfl);(·repeat(first|exact iO|exact iR rfl|apply iT));iterate 2 exact rfl)|(apply kg;iterate 2 exact rfl)|(apply kG;iterate 3 exact rfl)|(apply kB;(iterate 2 exact rfl);intro _)|(apply kA;exact rfl;intro _)|(apply kK;(iterate 4 exact rfl);intro _)|(apply kU;(iterate 2 exact rfl);(·repeat(first|exact sH _ _ _|apply sT));(first|exact nfL_eq rfl|exact rfl);exact rfl)|((first|apply kh|apply kl);(iterate 2 exact rfl);(first|decide|omega);exact rfl)|((first|(apply kR;iterate 2 exact rfl)|(apply kQ;exact rfl));all_goals(intro hc;try simp only[hcs]at hc;try(exfalso;first|contradiction|omega))))
    apply LR.call
    · exact rfl
    intro w1 h1
    have hcap := ownsRow_cap h1.g0
    have hh := g14 (pieceT 2 1) none 0 ab cb (bytesL n 1) w1 (Rd.nil _ _) (fun _ => rfl) (by simp [pieceT]) (by simp [pieceT, Byt]) (ownsRow_rd h1.g0) (fun e => (ownsRow_some h1.g0 e).2) hcap (by omega)
    rw [splitR, splitE_ok ok21 (by omega), if_pos rfl] at hh
    refine CallsTo.mono (show CallsTo Try.prog 14 _ w1 _ from hh) ?_
    rintro v w2 ⟨a1, cc1, l1, rfl, hl1, st⟩
    have hll : l1.length = npart n := by have := congrArg List.length hl1; simpa [splitL, hbl] using this
    obtain ⟨ba, oa, rfl⟩ := (ownsRow_rd st.g0).form (rows_ne MsgA.row_len (i := 0) (by omega) (by omega))
    refine LR.back (h1.pushL st excl2) ?_
    clear h1 st hh
    have hlx : l1.length - 1 < l1.length := by omega
    have hb1 : (l1[l1.length - 1]'hlx).m.body.length = n - 48 * (l1.length - 1) := by
      have h1 : (l1.map MsgA.m)[l1.length - 1]? = some (l1[l1.length - 1]'hlx).m := by rw [List.getElem?_map, List.getElem?_eq_getElem hlx]; rfl
      rw [hl1] at h1
      have h2 : (splitL (pieceT 2 1) (bytesL n 1))[l1.length - 1]? = some (partM (pieceT 2 1) (npart (bytesL n 1).length) (bytesL n 1) (l1.length - 1)) := by
        show ((List.range _).map _)[l1.length - 1]? = _
        rw [List.getElem?_map, List.getElem?_range (by rw [hbl]; omega)]; rfl
      rw [h2] at h1
      rw [← Option.some.inj h1]
      show (chunk (bytesL n 1) (l1.length - 1)).length = _
      rw [chunk_len, hbl]
      omega
    repeat'(first|(apply kp;iterate 2 exact rfl)|apply jJ|(apply jE;exact rfl)|(apply jp;exact rfl)|(apply jc;kernel_rfl)|((first|apply kf|apply kn|apply ke|apply kx|apply kc|apply kb);iterate 2 exact rfl)|((first|apply kz|apply ky);(·exact rfl);(·repeat(first|exact iO|exact iR rfl|apply iT));iterate 2 exact rfl)|(apply kg;iterate 2 exact rfl)|(apply kG;iterate 3 exact rfl)|(apply kB;(iterate 2 exact rfl);intro _)|(apply kA;exact rfl;intro _)|(apply kK;(iterate 4 exact rfl);intro _)|(apply kU;(iterate 2 exact rfl);(·repeat(first|exact sH _ _ _|apply sT));(first|exact nfL_eq rfl|exact rfl);exact rfl)|((first|apply kh|apply kl);(iterate 2 exact rfl);(first|decide|omega);exact rfl)|(apply LR.ev; (· first | (apply addQ (a := n) (b := 47) rfl; (· exact rfl); (· exact rfl); (· omega)) | (apply quoQ (a := n + 47) (b := 48) rfl; (· exact rfl); (· exact rfl); (· omega); (· omega)) | (apply maxC (a := (n + 47) / 48) (b := 1) (c := npart n); (· exact rfl); (· exact rfl); (· unfold npart; omega)) | (apply subQ (a := l1.length) (b := 1) rfl; (· exact rfl); (· exact rfl); (· omega); (· omega)) | (apply mulQ (a := 48) (b := l1.length - 1) rfl; (· exact rfl); (· exact rfl); (· omega)) | (apply subQ (a := n) (b := 48 * (l1.length - 1)) rfl; (· exact rfl); (· exact rfl); (· omega); (· omega)) | (apply Ev.load; (· exact rfl); (· intro w' hw'; refine row_cell MsgA.row_len (hw'.rd_of_own (by (repeat (first | exact mH _ _ | apply mT)))) hlx 12 rfl ?_; (· simp; done)))); (· exact rfl))|(apply idxX;(iterate 2 exact rfl);(iterate 2(first|omega|(dsimp only;omega)));exact rfl)|(apply addX;(iterate 2 exact rfl);(iterate 2(first|omega|(dsimp only;omega)));exact rfl)|((first|(apply kR;iterate 2 exact rfl)|(apply kQ;exact rfl));all_goals(intro hc;try simp only[hcs]at hc;try(exfalso;first|contradiction|omega))))
    apply At.again (n + 1)
    · exact Nat.succ_le_succ hlt
    · (repeat (first | exact Out.refl _ _ | exact Out.mix | (apply Out.upd; (· exact rfl)) | (apply Out.updL; (· exact rfl)) | (apply Out.mixs; (· exact rfl))))
    · exact ⟨rfl, trivial⟩
    · exact fun w' hw' => hw'.sub (List.nil_sublist _)
    · show 201 - (n + 1) < 201 - n
      omega
  · have : n = 201 := by omega
    subst this
    clear hn hlt
    have mk201 : (List.replicate 201 [Value.int .u8 0]).flatten = bv (List.replicate 201 0) := by rfl
    repeat'(first|(apply CW.reg_heldC)|(apply kp;iterate 2 exact rfl)|apply jJ|(apply jE;exact rfl)|(apply jp;exact rfl)|(apply jc;kernel_rfl)|((first|apply kf|apply kn|apply ke|apply kx|apply kc|apply kb);iterate 2 exact rfl)|((first|apply kz|apply ky);(·exact rfl);(·repeat(first|exact iO|exact iR rfl|apply iT));iterate 2 exact rfl)|(apply kg;iterate 2 exact rfl)|(apply kG;iterate 3 exact rfl)|(apply kB;(iterate 2 exact rfl);intro _)|(apply kA;exact rfl;intro _)|(apply kK;(iterate 4 exact rfl);intro _)|(apply kU;(iterate 2 exact rfl);(·repeat(first|exact sH _ _ _|apply sT));(first|exact nfL_eq rfl|exact rfl);exact rfl)|((first|apply kh|apply kl);(iterate 2 exact rfl);(first|decide|omega);exact rfl)|((first|(apply kR;iterate 2 exact rfl)|(apply kQ;exact rfl));all_goals(intro hc;try simp only[hcs]at hc;try(exfalso;first|contradiction|omega))))
    apply DP.begin []
    refine DP.more (PI.lr 1 86 [] (fun b => .slice (some ⟨b, 0, none⟩) 201 201) (fun b => [.own b (.cells (List.replicate 201 [Value.int .u8 0]).flatten.toArray 5 (0, 0))]) rfl (fun b x hx => by simp only [List.mem_singleton] at hx; subst hx; rfl) ?_) ?_
    · intro h w2
      apply LR.makeSlice (m := 201) (cs := [.int .u8 0])
      · exact rfl
      · exact rfl
      · omega
      · omega
      · exact rfl
      · exact rfl
      intro b
      apply kM
      exact At.made rfl
    refine DP.go 0 [1] [86] [[]] rfl rfl rfl rfl (by decide +kernel) ⟨trivial, fun _ _ _ => trivial, trivial⟩ (fun A w' hA => St.sub hA (by simp only [List.cons_append, List.nil_append]; repeat (first | exact List.nil_sublist _ | exact List.Sublist.refl _ | apply List.Sublist.cons_cons | apply List.Sublist.cons))) ?_
    intro gg A LA hLA
    simp only [List.cons_append, List.nil_append] at hLA
    subst hLA
    apply kq
    · exact rfl
    · intro w1 h1
      exact CallsTo.q (g27 2 1 w1) h1
    apply kM
    apply At.pdone (ds := [86]) rfl
    · repeat (first | exact MixR.base _ | (apply MixR.upd; case hd => exact rfl))
    · repeat (first | exact Tl.nil | apply Tl.cons)
    · exact (fun A w' hA => St.sub hA (by simp only [List.cons_append, List.nil_append]; repeat (first | exact List.nil_sublist _ | exact List.Sublist.refl _ | apply List.Sublist.cons_cons | apply List.Sublist.cons)))
    refine DP.take 1 86 (fun b => .slice (some ⟨b, 0, none⟩) 201 201) (fun b => [.own b (.cells (List.replicate 201 [Value.int .u8 0]).flatten.toArray 5 (0, 0))]) [] [86] [[]] rfl rfl rfl rfl rfl rfl rfl (by decide +kernel) ⟨trivial, fun _ _ _ => trivial, trivial⟩ (fun A w' hA => St.sub hA (by simp only [List.cons_append, List.nil_append]; repeat (first | exact List.nil_sublist _ | exact List.Sublist.refl _ | apply List.Sublist.cons_cons | apply List.Sublist.cons))) (fun b86 => ?_)
    refine DP.nil ?_
    refine DW.castL (by simp only [List.cons_append, List.nil_append]; exact rfl) ?_
    apply DW.loud 2
    · exact rfl
    · decide +kernel
    apply LR.call
    · exact rfl
    intro w1 h1
    have hh := g14 (pieceT 2 1) none 0 (some ⟨b86, 0, none⟩) 201 (List.replicate 201 0) w1 (Rd.nil _ _) (fun _ => rfl) (by simp [pieceT]) (by simp [pieceT, Byt]) (by rw [← mk201]; exact h1.rd_of_blk (by (repeat (first | exact mH _ _ | apply mT)))) (fun e => by cases e) (by simp) (by simp)
    rw [show (List.replicate 201 (0 : Int)).length = 201 from rfl, sp201] at hh
    refine CallsTo.mono (show CallsTo Try.prog 14 _ w1 _ from hh) ?_
    rintro v w2 ⟨a87, k87, l87, rfl, hl87, st⟩
    refine LR.back (h1.pushL st excl2) ?_
    clear h1 st hh hl87
    repeat'(first|(apply kg;iterate 2 exact rfl)|(apply kG;iterate 3 exact rfl)|apply kM|(apply kp;iterate 2 exact rfl)|((first|apply kz|apply ky);(·exact rfl);(·repeat(first|exact iO|exact iR rfl|apply iT));iterate 2 exact rfl)|(apply kK;(iterate 4 exact rfl);intro _)|(apply kU;(iterate 2 exact rfl);(·repeat(first|exact sH _ _ _|apply sT));(first|exact nfL_eq rfl|exact rfl);exact rfl)|(apply kB;(iterate 2 exact rfl);intro _)|(apply kA;exact rfl;intro _))
    refine At.stage_same (fun _ h => h.sub (List.nil_sublist _)) ?_
    refine DW.sub (D := St w NoF []) ?_ (fun w' h => h.sub (List.nil_sublist _))
    apply DW.quiet [3, 4, 5, 6, 7]
    · decide +kernel
    · exact fun _ h => h
    repeat'(first|(apply yp;iterate 3 exact rfl)|(apply QL.ev;(·exact rfl);(·first|((first|apply Ez|apply Ey);(·exact rfl);(·repeat(first|exact iO|exact iR rfl|apply iT));exact rfl)|((first|apply Ev.fieldAddr|apply Ev.len|apply EqOf.eq|apply EqOf.ne|apply Ev.conv|apply Ev.buildN);exact rfl)|((first|apply Ev.shr|apply Ev.shl);(iterate 2 exact rfl);first|decide|omega));·exact rfl)|(apply yq;iterate 5 exact rfl)|(apply QL.evg;(iterate 3 exact rfl);(·first|((first|apply Ez|apply Ey);(·exact rfl);(·repeat(first|exact iO|exact iR rfl|apply iT));exact rfl)|((first|apply Ev.fieldAddr|apply Ev.len|apply EqOf.eq|apply EqOf.ne|apply Ev.conv|apply Ev.buildN);exact rfl)|((first|apply Ev.shr|apply Ev.shl);(iterate 2 exact rfl);first|decide|omega));·exact rfl)|(apply yn;iterate 4 exact rfl)|((apply QL.split;iterate 3 exact rfl);all_goals(intro hc;try simp only[hcs]at hc;try(exfalso;first|contradiction|omega)))|apply QL.nil)
    all_goals (show DW _ _ _ _ _ _ _ _)
    apply DW.done_thn
    · decide +kernel
    clear mk201
    repeat'(first|(apply kp;iterate 2 exact rfl)|apply jJ|(apply jE;exact rfl)|(apply jp;exact rfl)|(apply jc;kernel_rfl)|((first|apply kf|apply kn|apply ke|apply kx|apply kc|apply kb);iterate 2 exact rfl)|((first|apply kz|apply ky);(·exact rfl);(·repeat(first|exact iO|exact iR rfl|apply iT));iterate 2 exact rfl)|(apply kg;iterate 2 exact rfl)|(apply kG;iterate 3 exact rfl)|(apply kB;(iterate 2 exact rfl);intro _)|(apply kA;exact rfl;intro _)|(apply kK;(iterate 4 exact rfl);intro _)|(apply kU;(iterate 2 exact rfl);(·repeat(first|exact sH _ _ _|apply sT));(first|exact nfL_eq rfl|exact rfl);exact rfl)|((first|apply kh|apply kl);(iterate 2 exact rfl);(first|decide|omega);exact rfl)|((first|(apply kR;iterate 2 exact rfl)|(apply kQ;exact rfl));all_goals(intro hc;try simp only[hcs]at hc;try(exfalso;first|contradiction|omega))))
    rename_i bb bs
    apply CW.loop [0, 7, 8, 9, 102, 103, 104, 105, 106, 107, 108, 109, 110, 111, 112, 113, 114, 115, 116, 117, 118] (fun i : Nat => i ≤ 9) (fun i => [(7, Value.int .i64 (i : Int))]) (fun _ => St w NoF [.own bs (.cells ((bads bb).flatMap MsgA.row).toArray 28 (0, 0)), .own bb (.cells [Value.int .u8 1].toArray 5 (0, 0))]) (fun i => 9 - i)
    · exact fun w' hw' => ⟨0, by omega, ⟨rfl, trivial⟩, hw'.sub (by repeat (first | exact List.Sublist.refl _ | exact List.nil_sublist _ | apply List.Sublist.cons_cons | apply List.Sublist.cons))⟩
    intro i g hi
    by_cases hi9 : i < 9
    · have hlt : i < (bads bb).length := hi9
      have hbd := bads_rd (List.getElem_mem hlt)
      repeat'(first|(apply CW.reg_heldC)|(apply kp;iterate 2 exact rfl)|apply jJ|(apply jE;exact rfl)|(apply jp;exact rfl)|(apply jc;kernel_rfl)|((first|apply kf|apply kn|apply ke|apply kx|apply kc|apply kb);iterate 2 exact rfl)|((first|apply kz|apply ky);(·exact rfl);(·repeat(first|exact iO|exact iR rfl|apply iT));iterate 2 exact rfl)|(apply kg;iterate 2 exact rfl)|(apply kG;iterate 3 exact rfl)|(apply kB;(iterate 2 exact rfl);intro _)|(apply kA;exact rfl;intro _)|(apply kK;(iterate 4 exact rfl);intro _)|(apply kU;(iterate 2 exact rfl);(·repeat(first|exact sH _ _ _|apply sT));(first|exact nfL_eq rfl|exact rfl);exact rfl)|((first|apply kh|apply kl);(iterate 2 exact rfl);(first|decide|omega);exact rfl)|((first|(apply kR;iterate 2 exact rfl)|(apply kQ;exact rfl));all_goals(intro hc;try simp only[hcs]at hc;try(exfalso;first|contradiction|omega))))
      all_goals (
        apply DW.quiet [0, 1, 2, 3]
        · decide +kernel
        · first | exact fun _ h => h | exact fun _ h => St.sub h (by repeat (first | exact List.Sublist.refl _ | apply List.Sublist.cons_cons | apply List.Sublist.cons))
        repeat'(first|(apply yp;iterate 3 exact rfl)|(apply QL.ev;(·exact rfl);(·first|((first|apply Ez|apply Ey);(·exact rfl);(·repeat(first|exact iO|exact iR rfl|apply iT));exact rfl)|((first|apply Ev.fieldAddr|apply Ev.len|apply EqOf.eq|apply EqOf.ne|apply Ev.conv|apply Ev.buildN);exact rfl)|((first|apply Ev.shr|apply Ev.shl);(iterate 2 exact rfl);first|decide|omega));·exact rfl)|(apply QL.ev; (· exact rfl); (· first | (apply Ev.indexAddr; (· exact rfl); (· exact rfl); (· omega); (· omega)) | (apply Ev.load_agg_at (cs := (bads bb)[i].row); (· exact rfl); (· exact rfl); (· intro w' hw'; refine rd_row (l := bads bb) (i := i) (b := bs) (o := 0) MsgA.row_len (hw'.rd_of_blk (by (repeat (first | exact mH _ _ | apply mT)))) hlt ?_; (· simp; done)))); (· exact rfl))|(apply yq;iterate 5 exact rfl)|(apply QL.evg;(iterate 3 exact rfl);(·first|((first|apply Ez|apply Ey);(·exact rfl);(·repeat(first|exact iO|exact iR rfl|apply iT));exact rfl)|((first|apply Ev.fieldAddr|apply Ev.len|apply EqOf.eq|apply EqOf.ne|apply Ev.conv|apply Ev.buildN);exact rfl)|((first|apply Ev.shr|apply Ev.shl);(iterate 2 exact rfl);first|decide|omega));·exact rfl)|(apply yn;iterate 4 exact rfl)|((apply QL.split;iterate 3 exact rfl);all_goals(intro hc;try simp only[hcs]at hc;try(exfalso;first|contradiction|omega)))|apply QL.nil)
        all_goals (show DW _ _ _ _ _ _ _ _))
      all_goals (
        apply DW.loud 4
        · exact rfl
        · decide +kernel
        repeat'(first|(apply kg;iterate 2 exact rfl)|(apply kG;iterate 3 exact rfl)|apply kM|(apply kp;iterate 2 exact rfl)|((first|apply kz|apply ky);(·exact rfl);(·repeat(first|exact iO|exact iR rfl|apply iT));iterate 2 exact rfl)|(apply kK;(iterate 4 exact rfl);intro _)|(apply kU;(iterate 2 exact rfl);(·repeat(first|exact sH _ _ _|apply sT));(first|exact nfL_eq rfl|exact rfl);exact rfl)|(apply kB;(iterate 2 exact rfl);intro _)|(apply kA;exact rfl;intro _)|(apply LR.makeSlice (m := 300) (cs := [.int .u8 0]); (· exact rfl); (· exact rfl); (· omega); (· omega); (· exact rfl); (· exact rfl); (intro b113; apply kM))|(apply LR.call; (· exact rfl); (intro w1 h1; have hh := g14 (bads bb)[i].m (bads bb)[i].a (bads bb)[i].c (some ⟨b113, 0, none⟩) 300 (List.replicate 300 0) w1 (hbd.1 w1 (h1.rd_of_blk (by (repeat (first | exact mH _ _ | apply mT))))) hbd.2.1 (by omega) hbd.2.2.2.1 (by rw [← mk300]; exact h1.rd_of_blk (by (repeat (first | exact mH _ _ | apply mT)))) (fun e => by cases e) (by simp) (by simp); rw [show (List.replicate 300 (0 : Int)).length = 300 from rfl, hbd.2.2.2.2] at hh; refine CallsTo.mono (show CallsTo Try.prog 14 _ w1 _ from hh) ?_; clear hh; rintro v w2 ⟨a114, k114, l114, rfl, _, st⟩; refine LR.back (h1.pushL st excl2) ?_; clear h1 st; apply kM)))
        all_goals (refine At.stage_same (fun _ h => St.sub h (by repeat (first | exact List.Sublist.refl _ | apply List.Sublist.cons_cons | apply List.Sublist.cons))) ?_))
      all_goals (
        apply DW.loud 5
        · exact rfl
        · decide +kernel
        repeat'(first|(apply kg;iterate 2 exact rfl)|(apply kG;iterate 3 exact rfl)|apply kM|(apply kp;iterate 2 exact rfl)|((first|apply kz|apply ky);(·exact rfl);(·repeat(first|exact iO|exact iR rfl|apply iT));iterate 2 exact rfl)|(apply kK;(iterate 4 exact rfl);intro _)|(apply kU;(iterate 2 exact rfl);(·repeat(first|exact sH _ _ _|apply sT));(first|exact nfL_eq rfl|exact rfl);exact rfl)|(apply kB;(iterate 2 exact rfl);intro _)|(apply kA;exact rfl;intro _)|(apply LR.makeSlice (m := 300) (cs := [.int .u8 0]); (· exact rfl); (· exact rfl); (· omega); (· omega); (· exact rfl); (· exact rfl); (intro b113; apply kM))|(apply LR.call; (· exact rfl); (intro w1 h1; have hh := g14 (bads bb)[i].m (bads bb)[i].a (bads bb)[i].c (some ⟨b113, 0, none⟩) 300 (List.replicate 300 0) w1 (hbd.1 w1 (h1.rd_of_blk (by (repeat (first | exact mH _ _ | apply mT))))) hbd.2.1 (by omega) hbd.2.2.2.1 (by rw [← mk300]; exact h1.rd_of_blk (by (repeat (first | exact mH _ _ | apply mT)))) (fun e => by cases e) (by simp) (by simp); rw [show (List.replicate 300 (0 : Int)).length = 300 from rfl, hbd.2.2.2.2] at hh; refine CallsTo.mono (show CallsTo Try.prog 14 _ w1 _ from hh) ?_; clear hh; rintro v w2 ⟨a114, k114, l114, rfl, _, st⟩; refine LR.back (h1.pushL st excl2) ?_; clear h1 st; apply kM)))
        all_goals (refine At.stage_same (fun _ h => St.sub h (by repeat (first | exact List.Sublist.refl _ | apply List.Sublist.cons_cons | apply List.Sublist.cons))) ?_))
      all_goals (
        apply DW.quiet [6, 7, 8, 9, 10]
        · decide +kernel
        · first | exact fun _ h => h | exact fun _ h => St.sub h (by repeat (first | exact List.Sublist.refl _ | apply List.Sublist.cons_cons | apply List.Sublist.cons))
        repeat'(first|(apply yp;iterate 3 exact rfl)|(apply QL.ev;(·exact rfl);(·first|((first|apply Ez|apply Ey);(·exact rfl);(·repeat(first|exact iO|exact iR rfl|apply iT));exact rfl)|((first|apply Ev.fieldAddr|apply Ev.len|apply EqOf.eq|apply EqOf.ne|apply Ev.conv|apply Ev.buildN);exact rfl)|((first|apply Ev.shr|apply Ev.shl);(iterate 2 exact rfl);first|decide|omega));·exact rfl)|(apply QL.ev; (· exact rfl); (· first | (apply Ev.indexAddr; (· exact rfl); (· exact rfl); (· omega); (· omega)) | (apply Ev.load_agg_at (cs := (bads bb)[i].row); (· exact rfl); (· exact rfl); (· intro w' hw'; refine rd_row (l := bads bb) (i := i) (b := bs) (o := 0) MsgA.row_len (hw'.rd_of_blk (by (repeat (first | exact mH _ _ | apply mT)))) hlt ?_; (· simp; done)))); (· exact rfl))|(apply yq;iterate 5 exact rfl)|(apply QL.evg;(iterate 3 exact rfl);(·first|((first|apply Ez|apply Ey);(·exact rfl);(·repeat(first|exact iO|exact iR rfl|apply iT));exact rfl)|((first|apply Ev.fieldAddr|apply Ev.len|apply EqOf.eq|apply EqOf.ne|apply Ev.conv|apply Ev.buildN);exact rfl)|((first|apply Ev.shr|apply Ev.shl);(iterate 2 exact rfl);first|decide|omega));·exact rfl)|(apply yn;iterate 4 exact rfl)|((apply QL.split;iterate 3 exact rfl);all_goals(intro hc;try simp only[hcs]at hc;try(exfalso;first|contradiction|omega)))|apply QL.nil)
        all_goals (show DW _ _ _ _ _ _ _ _))
      all_goals (first | (apply DW.done_thn; (· decide +kernel)) | (apply DW.done; (· decide +kernel)))
      repeat'(first|(apply kp;iterate 2 exact rfl)|apply jJ|(apply jE;exact rfl)|(apply jp;exact rfl)|(apply jc;kernel_rfl)|((first|apply kf|apply kn|apply ke|apply kx|apply kc|apply kb);iterate 2 exact rfl)|((first|apply kz|apply ky);(·exact rfl);(·repeat(first|exact iO|exact iR rfl|apply iT));iterate 2 exact rfl)|(apply kg;iterate 2 exact rfl)|(apply kG;iterate 3 exact rfl)|(apply kB;(iterate 2 exact rfl);intro _)|(apply kA;exact rfl;intro _)|(apply kK;(iterate 4 exact rfl);intro _)|(apply kU;(iterate 2 exact rfl);(·repeat(first|exact sH _ _ _|apply sT));(first|exact nfL_eq rfl|exact rfl);exact rfl)|((first|apply kh|apply kl);(iterate 2 exact rfl);(first|decide|omega);exact rfl)|(apply addX;(iterate 2 exact rfl);(iterate 2(first|omega|(dsimp only;omega)));exact rfl)|((first|(apply kR;iterate 2 exact rfl)|(apply kQ;exact rfl));all_goals(intro hc;try simp only[hcs]at hc;try(exfalso;first|contradiction|omega))))
      apply At.again (i + 1)
      · exact hi9
      · (repeat (first | exact Out.refl _ _ | exact Out.mix | (apply Out.upd; (· exact rfl)) | (apply Out.updL; (· exact rfl)) | (apply Out.mixs; (· exact rfl))))
      · exact ⟨rfl, trivial⟩
      · exact fun w' hw' => hw'.sub (by repeat (first | exact List.Sublist.refl _ | exact List.nil_sublist _ | apply List.Sublist.cons_cons | apply List.Sublist.cons))
      · show 9 - (i + 1) < 9 - i
        omega
    · have : i = 9 := by omega
      subst this
      clear hi hi9
      -- the end of the second loop
      repeat'(first|(apply kp;iterate 2 exact rfl)|apply jJ|(apply jE;exact rfl)|(apply jp;exact rfl)|(apply jc;kernel_rfl)|((first|apply kf|apply kn|apply ke|apply kx|apply kc|apply kb);iterate 2 exact rfl)|((first|apply kz|apply ky);(·exact rfl);(·repeat(first|exact iO|exact iR rfl|apply iT));iterate 2 exact rfl)|(apply kg;iterate 2 exact rfl)|(apply kG;iterate 3 exact rfl)|(apply kB;(iterate 2 exact rfl);intro _)|(apply kA;exact rfl;intro _)|(apply kK;(iterate 4 exact rfl);intro _)|(apply kU;(iterate 2 exact rfl);(·repeat(first|exact sH _ _ _|apply sT));(first|exact nfL_eq rfl|exact rfl);exact rfl)|((first|apply kh|apply kl);(iterate 2 exact rfl);(first|decide|omega);exact rfl)|(apply kq; (· exact rfl); (· intro w1 h1; exact CallsTo.q (g27 1 1 w1) h1))|((first|(apply kR;iterate 2 exact rfl)|(apply kQ;exact rfl));all_goals(intro hc;try simp only[hcs]at hc;try(exfalso;first|contradiction|omega))))
      apply LR.call
      · exact rfl
      intro w1 h1
      refine (g28 100 0 w1 (by omega) (by omega)).mono ?_
      rintro v w2 ⟨ab, cb, rfl, hb⟩
      refine LR.back (h1.newSl hb) ?_
      clear h1 hb
      repeat'(first|(apply kp;iterate 2 exact rfl)|apply jJ|(apply jE;exact rfl)|(apply jp;exact rfl)|(apply jc;kernel_rfl)|((first|apply kf|apply kn|apply ke|apply kx|apply kc|apply kb);iterate 2 exact rfl)|((first|apply kz|apply ky);(·exact rfl);(·repeat(first|exact iO|exact iR rfl|apply iT));iterate 2 exact rfl)|(apply kg;iterate 2 exact rfl)|(apply kG;iterate 3 exact rfl)|(apply kB;(iterate 2 exact rfl);intro _)|(apply kA;exact rfl;intro _)|(apply kK;(iterate 4 exact rfl);intro _)|(apply kU;(iterate 2 exact rfl);(·repeat(first|exact sH _ _ _|apply sT));(first|exact nfL_eq rfl|exact rfl);exact rfl)|((first|apply kh|apply kl);(iterate 2 exact rfl);(first|decide|omega);exact rfl)|((first|(apply kR;iterate 2 exact rfl)|(apply kQ;exact rfl));all_goals(intro hc;try simp only[hcs]at hc;try(exfalso;first|contradiction|omega))))
      apply LR.call
      · exact rfl
      intro w1 h1
      have hcap := ownsRow_cap h1.g0
      have hh := g14 (pieceT 1 1) none 0 ab cb (bytesL 100 0) w1 (Rd.nil _ _) (fun _ => rfl) (by simp [pieceT]) (by simp [pieceT, Byt]) (ownsRow_rd h1.g0) (fun e => (ownsRow_some h1.g0 e).2) hcap (by rw [bytesL_len]; omega)
      rw [spA.1, spA.2] at hh
      refine CallsTo.mono (show CallsTo Try.prog 14 _ w1 _ from hh) ?_
      rintro v w2 ⟨aa, cl3, l3, rfl, hl, st⟩
      obtain ⟨b3, o3, rfl⟩ := (ownsRow_rd st.g0).form (rows_ne MsgA.row_len (i := 0) (by omega) (by have := congrArg List.length hl; simp at this; omega))
      refine LR.back (h1.pushL st excl2) ?_
      clear h1 st hh hcap
      obtain ⟨⟨m0, a0, e0⟩, ⟨m1, a1, e1⟩, ⟨m2, a2, e2⟩, rfl⟩ : ∃ x y z, l3 = [x, y, z] := by
        match l3, hl with
        | [x, y, z], _ => exact ⟨x, y, z, rfl⟩
        | [], h => simp at h
        | [x], h => simp at h
        | [x, y], h => simp at h
        | x :: y :: z :: u :: r, h => simp at h
      simp only [List.map_cons, List.map_nil, List.cons.injEq, and_true] at hl
      obtain ⟨rfl, rfl, rfl⟩ := hl
      repeat'(first|(apply kp;iterate 2 exact rfl)|apply jJ|(apply jE;exact rfl)|(apply jp;exact rfl)|(apply jc;kernel_rfl)|((first|apply kf|apply kn|apply ke|apply kx|apply kc|apply kb);iterate 2 exact rfl)|((first|apply kz|apply ky);(·exact rfl);(·repeat(first|exact iO|exact iR rfl|apply iT));iterate 2 exact rfl)|(apply kg;iterate 2 exact rfl)|(apply kG;iterate 3 exact rfl)|(apply kB;(iterate 2 exact rfl);intro _)|(apply kA;exact rfl;intro _)|(apply kK;(iterate 4 exact rfl);intro _)|(apply kU;(iterate 2 exact rfl);(·repeat(first|exact sH _ _ _|apply sT));(first|exact nfL_eq rfl|exact rfl);exact rfl)|((first|apply kh|apply kl);(iterate 2 exact rfl);(first|decide|omega);exact rfl)|(apply kq; (· exact rfl); (· intro w1 h1; exact CallsTo.q (g27 1 2 w1) h1))|((first|(apply kR;iterate 2 exact rfl)|(apply kQ;exact rfl));all_goals(intro hc;try simp only[hcs]at hc;try(exfalso;first|contradiction|omega))))
      apply LR.call
      · exact rfl
      intro w1 h1
      refine (g28 60 9 w1 (by omega) (by omega)).mono ?_
      rintro v w2 ⟨ab, cb, rfl, hb⟩
      refine LR.back (h1.newSl hb) ?_
      clear h1 hb
      repeat'(first|(apply kp;iterate 2 exact rfl)|apply jJ|(apply jE;exact rfl)|(apply jp;exact rfl)|(apply jc;kernel_rfl)|((first|apply kf|apply kn|apply ke|apply kx|apply kc|apply kb);iterate 2 exact rfl)|((first|apply kz|apply ky);(·exact rfl);(·repeat(first|exact iO|exact iR rfl|apply iT));iterate 2 exact rfl)|(apply kg;iterate 2 exact rfl)|(apply kG;iterate 3 exact rfl)|(apply kB;(iterate 2 exact rfl);intro _)|(apply kA;exact rfl;intro _)|(apply kK;(iterate 4 exact rfl);intro _)|(apply kU;(iterate 2 exact rfl);(·repeat(first|exact sH _ _ _|apply sT));(first|exact nfL_eq rfl|exact rfl);exact rfl)|((first|apply kh|apply kl);(iterate 2 exact rfl);(first|decide|omega);exact rfl)|((first|(apply kR;iterate 2 exact rfl)|(apply kQ;exact rfl));all_goals(intro hc;try simp only[hcs]at hc;try(exfalso;first|contradiction|omega))))
      apply LR.call
      · exact rfl
      intro w1 h1
      have hcap := ownsRow_cap h1.g0
      have hh := g14 (pieceT 1 2) none 0 ab cb (bytesL 60 9) w1 (Rd.nil _ _) (fun _ => rfl) (by simp [pieceT]) (by simp [pieceT, Byt]) (ownsRow_rd h1.g0) (fun e => (ownsRow_some h1.g0 e).2) hcap (by rw [bytesL_len]; omega)
      rw [spD.1, spD.2] at hh
      refine CallsTo.mono (show CallsTo Try.prog 14 _ w1 _ from hh) ?_
      rintro v w2 ⟨aa, cl2, l2, rfl, hl, st⟩
      obtain ⟨b2, o2, rfl⟩ := (ownsRow_rd st.g0).form (rows_ne MsgA.row_len (i := 0) (by omega) (by have := congrArg List.length hl; simp at this; omega))
      refine LR.back (h1.pushL st excl2) ?_
      clear h1 st hh hcap
      obtain ⟨⟨m0, d0, f0⟩, ⟨m1, d1, f1⟩, rfl⟩ : ∃ x y, l2 = [x, y] := by
        match l2, hl with
        | [x, y], _ => exact ⟨x, y, rfl⟩
        | [], h => simp at h
        | [x], h => simp at h
        | x :: y :: z :: r, h => simp at h
      simp only [List.map_cons, List.map_nil, List.cons.injEq, and_true] at hl
      obtain ⟨rfl, rfl⟩ := hl
      repeat'(first|(apply kp;iterate 2 exact rfl)|apply jJ|(apply jE;exact rfl)|(apply jp;exact rfl)|(apply jc;kernel_rfl)|((first|apply kf|apply kn|apply ke|apply kx|apply kc|apply kb);iterate 2 exact rfl)|((first|apply kz|apply ky);(·exact rfl);(·repeat(first|exact iO|exact iR rfl|apply iT));iterate 2 exact rfl)|(apply kg;iterate 2 exact rfl)|(apply kG;iterate 3 exact rfl)|(apply kB;(iterate 2 exact rfl);intro _)|(apply kA;exact rfl;intro _)|(apply kK;(iterate 4 exact rfl);intro _)|(apply kU;(iterate 2 exact rfl);(·repeat(first|exact sH _ _ _|apply sT));(first|exact nfL_eq rfl|exact rfl);exact rfl)|((first|apply kh|apply kl);(iterate 2 exact rfl);(first|decide|omega);exact rfl)|((first|(apply kR;iterate 2 exact rfl)|(apply kQ;exact rfl));all_goals(intro hc;try simp only[hcs]at hc;try(exfalso;first|contradiction|omega))))
      apply LR.call
      · exact rfl
      intro w1 h1
      refine (g20 w1).mono ?_
      rintro v w2 ⟨bj, rj, rfl, st⟩
      refine LR.back (h1.pushL st (fun x hx => by simp at hx; subst hx; rfl)) ?_
      clear h1 st
      refine LR.sub (D := St w NoF [jO bj rj [], mS (some ⟨b2, o2, none⟩) cl2 [⟨tD 0, d0, f0⟩, ⟨tD 1, d1, f1⟩], bunB [⟨tD 0, d0, f0⟩, ⟨tD 1, d1, f1⟩], mS (some ⟨b3, o3, none⟩) cl3 [⟨tA 0, a0, e0⟩, ⟨tA 1, a1, e1⟩, ⟨tA 2, a2, e2⟩], bunB [⟨tA 0, a0, e0⟩, ⟨tA 1, a1, e1⟩, ⟨tA 2, a2, e2⟩]]) (fun w' hw' => hw'.sub (by repeat (first | exact List.Sublist.refl _ | exact List.nil_sublist _ | apply List.Sublist.cons_cons | apply List.Sublist.cons))) ?_
      have ln2 : ([⟨tD 0, d0, f0⟩, ⟨tD 1, d1, f1⟩] : List MsgA).length = 2 := rfl
      have ln3 : ([⟨tA 0, a0, e0⟩, ⟨tA 1, a1, e1⟩, ⟨tA 2, a2, e2⟩] : List MsgA).length = 3 := rfl
      repeat'(first|(apply CW.reg_heldC)|(apply kp;iterate 2 exact rfl)|apply jJ|(apply jE;exact rfl)|(apply jp;exact rfl)|(apply jc;kernel_rfl)|((first|apply kf|apply kn|apply ke|apply kx|apply kc|apply kb);iterate 2 exact rfl)|((first|apply kz|apply ky);(·exact rfl);(·repeat(first|exact iO|exact iR rfl|apply iT));iterate 2 exact rfl)|(apply kg;iterate 2 exact rfl)|(apply kG;iterate 3 exact rfl)|(apply kB;(iterate 2 exact rfl);intro _)|(apply kA;exact rfl;intro _)|(apply kK;(iterate 4 exact rfl);intro _)|(apply kU;(iterate 2 exact rfl);(·repeat(first|exact sH _ _ _|apply sT));(first|exact nfL_eq rfl|exact rfl);exact rfl)|((first|apply kh|apply kl);(iterate 2 exact rfl);(first|decide|omega);exact rfl)|(apply idxX;(iterate 2 exact rfl);(iterate 2(first|omega|(dsimp only;omega)));exact rfl)|(apply LR.ev; (· first | (apply Ev.load_agg_at (cs := MsgA.row ⟨tD 0, d0, f0⟩); (· exact rfl); (· exact rfl); (· intro w' hw'; refine rd_row (l := [⟨tD 0, d0, f0⟩, ⟨tD 1, d1, f1⟩]) (i := 0) MsgA.row_len (hw'.rd_of_own (by (repeat (first | exact mH _ _ | apply mT)))) ?_ ?_; (· simp; done); (· simp; done))) | (apply Ev.load_agg_at (cs := MsgA.row ⟨tD 1, d1, f1⟩); (· exact rfl); (· exact rfl); (· intro w' hw'; refine rd_row (l := [⟨tD 0, d0, f0⟩, ⟨tD 1, d1, f1⟩]) (i := 1) MsgA.row_len (hw'.rd_of_own (by (repeat (first | exact mH _ _ | apply mT)))) ?_ ?_; (· simp; done); (· simp; done))) | (apply Ev.load_agg_at (cs := MsgA.row ⟨tA 0, a0, e0⟩); (· exact rfl); (· exact rfl); (· intro w' hw'; refine rd_row (l := [⟨tA 0, a0, e0⟩, ⟨tA 1, a1, e1⟩, ⟨tA 2, a2, e2⟩]) (i := 0) MsgA.row_len (hw'.rd_of_own (by (repeat (first | exact mH _ _ | apply mT)))) ?_ ?_; (· simp; done); (· simp; done))) | (apply Ev.load_agg_at (cs := MsgA.row ⟨tA 1, a1, e1⟩); (· exact rfl); (· exact rfl); (· intro w' hw'; refine rd_row (l := [⟨tA 0, a0, e0⟩, ⟨tA 1, a1, e1⟩, ⟨tA 2, a2, e2⟩]) (i := 1) MsgA.row_len (hw'.rd_of_own (by (repeat (first | exact mH _ _ | apply mT)))) ?_ ?_; (· simp; done); (· simp; done))) | (apply Ev.load_agg_at (cs := MsgA.row ⟨tA 2, a2, e2⟩); (· exact rfl); (· exact rfl); (· intro w' hw'; refine rd_row (l := [⟨tA 0, a0, e0⟩, ⟨tA 1, a1, e1⟩, ⟨tA 2, a2, e2⟩]) (i := 2) MsgA.row_len (hw'.rd_of_own (by (repeat (first | exact mH _ _ | apply mT)))) ?_ ?_; (· simp; done); (· simp; done)))); (· exact rfl))|((first|(apply kR;iterate 2 exact rfl)|(apply kQ;exact rfl));all_goals(intro hc;try simp only[hcs]at hc;try(exfalso;first|contradiction|omega))))
      all_goals (
        apply DW.quiet [0, 1, 2, 3, 4, 5, 6, 7, 8, 9, 10, 11, 12, 13, 14, 15, 16, 17, 18, 19, 20, 21, 22, 23, 24, 25, 26, 27, 28, 29, 30, 31, 32, 33, 34, 35, 36, 37, 38, 39, 40, 41, 42, 43, 44, 45, 46, 47, 48, 49, 50, 51, 52, 53, 54, 55, 56, 59]
        · decide +kernel
        · first | exact fun _ h => h | exact fun _ h => St.sub h (by repeat (first | exact List.Sublist.refl _ | apply List.Sublist.cons_cons | apply List.Sublist.cons))
        repeat'(first|(apply yp;iterate 3 exact rfl)|(apply QL.ev;(·exact rfl);(·first|((first|apply Ez|apply Ey);(·exact rfl);(·repeat(first|exact iO|exact iR rfl|apply iT));exact rfl)|((first|apply Ev.fieldAddr|apply Ev.len|apply EqOf.eq|apply EqOf.ne|apply Ev.conv|apply Ev.buildN);exact rfl)|((first|apply Ev.shr|apply Ev.shl);(iterate 2 exact rfl);first|decide|omega));·exact rfl)|(apply QL.ev; (· exact rfl); (· first | (apply Ev.indexAddr; (· exact rfl); (· exact rfl); (· omega); (· omega)) | (apply Ev.load_agg_at (cs := MsgA.row ⟨tD 0, d0, f0⟩); (· exact rfl); (· exact rfl); (· intro w' hw'; refine rd_row (l := [⟨tD 0, d0, f0⟩, ⟨tD 1, d1, f1⟩]) (i := 0) MsgA.row_len (hw'.rd_of_own (by (repeat (first | exact mH _ _ | apply mT)))) ?_ ?_; (· simp; done); (· simp; done))) | (apply Ev.load_agg_at (cs := MsgA.row ⟨tD 1, d1, f1⟩); (· exact rfl); (· exact rfl); (· intro w' hw'; refine rd_row (l := [⟨tD 0, d0, f0⟩, ⟨tD 1, d1, f1⟩]) (i := 1) MsgA.row_len (hw'.rd_of_own (by (repeat (first | exact mH _ _ | apply mT)))) ?_ ?_; (· simp; done); (· simp; done))) | (apply Ev.load_agg_at (cs := MsgA.row ⟨tA 0, a0, e0⟩); (· exact rfl); (· exact rfl); (· intro w' hw'; refine rd_row (l := [⟨tA 0, a0, e0⟩, ⟨tA 1, a1, e1⟩, ⟨tA 2, a2, e2⟩]) (i := 0) MsgA.row_len (hw'.rd_of_own (by (repeat (first | exact mH _ _ | apply mT)))) ?_ ?_; (· simp; done); (· simp; done))) | (apply Ev.load_agg_at (cs := MsgA.row ⟨tA 1, a1, e1⟩); (· exact rfl); (· exact rfl); (· intro w' hw'; refine rd_row (l := [⟨tA 0, a0, e0⟩, ⟨tA 1, a1, e1⟩, ⟨tA 2, a2, e2⟩]) (i := 1) MsgA.row_len (hw'.rd_of_own (by (repeat (first | exact mH _ _ | apply mT)))) ?_ ?_; (· simp; done); (· simp; done))) | (apply Ev.load_agg_at (cs := MsgA.row ⟨tA 2, a2, e2⟩); (· exact rfl); (· exact rfl); (· intro w' hw'; refine rd_row (l := [⟨tA 0, a0, e0⟩, ⟨tA 1, a1, e1⟩, ⟨tA 2, a2, e2⟩]) (i := 2) MsgA.row_len (hw'.rd_of_own (by (repeat (first | exact mH _ _ | apply mT)))) ?_ ?_; (· simp; done); (· simp; done)))); (· exact rfl))|(apply yq;iterate 5 exact rfl)|(apply QL.evg;(iterate 3 exact rfl);(·first|((first|apply Ez|apply Ey);(·exact rfl);(·repeat(first|exact iO|exact iR rfl|apply iT));exact rfl)|((first|apply Ev.fieldAddr|apply Ev.len|apply EqOf.eq|apply EqOf.ne|apply Ev.conv|apply Ev.buildN);exact rfl)|((first|apply Ev.shr|apply Ev.shl);(iterate 2 exact rfl);first|decide|omega));·exact rfl)|(apply yn;iterate 4 exact rfl)|((apply QL.split;iterate 3 exact rfl);all_goals(intro hc;try simp only[hcs]at hc;try(exfalso;first|contradiction|omega)))|apply QL.nil)
        all_goals (show DW _ _ _ _ _ _ _ _))
      all_goals (
        apply DW.loud 57
        · exact rfl
        · decide +kernel
        repeat'(first|(apply kg;iterate 2 exact rfl)|(apply kG;iterate 3 exact rfl)|apply kM|(apply kp;iterate 2 exact rfl)|((first|apply kz|apply ky);(·exact rfl);(·repeat(first|exact iO|exact iR rfl|apply iT));iterate 2 exact rfl)|(apply kK;(iterate 4 exact rfl);intro _)|(apply kU;(iterate 2 exact rfl);(·repeat(first|exact sH _ _ _|apply sT));(first|exact nfL_eq rfl|exact rfl);exact rfl)|(apply kB;(iterate 2 exact rfl);intro _)|(apply kA;exact rfl;intro _))
        all_goals (refine At.stage_same (fun _ h => St.sub h (by repeat (first | exact List.Sublist.refl _ | apply List.Sublist.cons_cons | apply List.Sublist.cons))) ?_))
      all_goals (
        apply DW.quiet [58]
        · decide +kernel
        · first | exact fun _ h => h | exact fun _ h => St.sub h (by repeat (first | exact List.Sublist.refl _ | apply List.Sublist.cons_cons | apply List.Sublist.cons))
        repeat'(first|(apply yp;iterate 3 exact rfl)|(apply QL.ev;(·exact rfl);(·first|((first|apply Ez|apply Ey);(·exact rfl);(·repeat(first|exact iO|exact iR rfl|apply iT));exact rfl)|((first|apply Ev.fieldAddr|apply Ev.len|apply EqOf.eq|apply EqOf.ne|apply Ev.conv|apply Ev.buildN);exact rfl)|((first|apply Ev.shr|apply Ev.shl);(iterate 2 exact rfl);first|decide|omega));·exact rfl)|(apply QL.ev; (· exact rfl); (· first | (apply Ev.indexAddr; (· exact rfl); (· exact rfl); (· omega); (· omega)) | (apply Ev.load_agg_at (cs := MsgA.row ⟨tD 0, d0, f0⟩); (· exact rfl); (· exact rfl); (· intro w' hw'; refine rd_row (l := [⟨tD 0, d0, f0⟩, ⟨tD 1, d1, f1⟩]) (i := 0) MsgA.row_len (hw'.rd_of_own (by (repeat (first | exact mH _ _ | apply mT)))) ?_ ?_; (· simp; done); (· simp; done))) | (apply Ev.load_agg_at (cs := MsgA.row ⟨tD 1, d1, f1⟩); (· exact rfl); (· exact rfl); (· intro w' hw'; refine rd_row (l := [⟨tD 0, d0, f0⟩, ⟨tD 1, d1, f1⟩]) (i := 1) MsgA.row_len (hw'.rd_of_own (by (repeat (first | exact mH _ _ | apply mT)))) ?_ ?_; (· simp; done); (· simp; done))) | (apply Ev.load_agg_at (cs := MsgA.row ⟨tA 0, a0, e0⟩); (· exact rfl); (· exact rfl); (· intro w' hw'; refine rd_row (l := [⟨tA 0, a0, e0⟩, ⟨tA 1, a1, e1⟩, ⟨tA 2, a2, e2⟩]) (i := 0) MsgA.row_len (hw'.rd_of_own (by (repeat (first | exact mH _ _ | apply mT)))) ?_ ?_; (· simp; done); (· simp; done))) | (apply Ev.load_agg_at (cs := MsgA.row ⟨tA 1, a1, e1⟩); (· exact rfl); (· exact rfl); (· intro w' hw'; refine rd_row (l := [⟨tA 0, a0, e0⟩, ⟨tA 1, a1, e1⟩, ⟨tA 2, a2, e2⟩]) (i := 1) MsgA.row_len (hw'.rd_of_own (by (repeat (first | exact mH _ _ | apply mT)))) ?_ ?_; (· simp; done); (· simp; done))) | (apply Ev.load_agg_at (cs := MsgA.row ⟨tA 2, a2, e2⟩); (· exact rfl); (· exact rfl); (· intro w' hw'; refine rd_row (l := [⟨tA 0, a0, e0⟩, ⟨tA 1, a1, e1⟩, ⟨tA 2, a2, e2⟩]) (i := 2) MsgA.row_len (hw'.rd_of_own (by (repeat (first | exact mH _ _ | apply mT)))) ?_ ?_; (· simp; done); (· simp; done)))); (· exact rfl))|(apply yq;iterate 5 exact rfl)|(apply QL.evg;(iterate 3 exact rfl);(·first|((first|apply Ez|apply Ey);(·exact rfl);(·repeat(first|exact iO|exact iR rfl|apply iT));exact rfl)|((first|apply Ev.fieldAddr|apply Ev.len|apply EqOf.eq|apply EqOf.ne|apply Ev.conv|apply Ev.buildN);exact rfl)|((first|apply Ev.shr|apply Ev.shl);(iterate 2 exact rfl);first|decide|omega));·exact rfl)|(apply yn;iterate 4 exact rfl)|((apply QL.split;iterate 3 exact rfl);all_goals(intro hc;try simp only[hcs]at hc;try(exfalso;first|contradiction|omega)))|apply QL.nil)
        all_goals (show DW _ _ _ _ _ _ _ _))
      all_goals (first | (apply DW.done_thn; (· decide +kernel)) | (apply DW.done; (· decide +kernel)))
      rename_i b16 b17 b18 bq
      repeat'(first|(apply kp;iterate 2 exact rfl)|apply jJ|(apply jE;exact rfl)|(apply jp;exact rfl)|(apply jc;kernel_rfl)|((first|apply kf|apply kn|apply ke|apply kx|apply kc|apply kb);iterate 2 exact rfl)|((first|apply kz|apply ky);(·exact rfl);(·repeat(first|exact iO|exact iR rfl|apply iT));iterate 2 exact rfl)|(apply kg;iterate 2 exact rfl)|(apply kG;iterate 3 exact rfl)|(apply kB;(iterate 2 exact rfl);intro _)|(apply kA;exact rfl;intro _)|(apply kK;(iterate 4 exact rfl);intro _)|(apply kU;(iterate 2 exact rfl);(·repeat(first|exact sH _ _ _|apply sT));(first|exact nfL_eq rfl|exact rfl);exact rfl)|((first|apply kh|apply kl);(iterate 2 exact rfl);(first|decide|omega);exact rfl)|((first|(apply kR;iterate 2 exact rfl)|(apply kQ;exact rfl));all_goals(intro hc;try simp only[hcs]at hc;try(exfalso;first|contradiction|omega))))
      have hyk : ∀ y ∈ ([⟨tD 0, d0, f0⟩, ⟨tD 1, d1, f1⟩] : List MsgA) ++ [⟨tA 0, a0, e0⟩, ⟨tA 1, a1, e1⟩, ⟨tA 2, a2, e2⟩], Byt y.m.body ∧ y.m.body.length ≤ 48 := by
        intro y hy
        simp only [List.cons_append, List.nil_append, List.mem_cons, List.not_mem_nil, or_false] at hy
        rcases hy with rfl | rfl | rfl | rfl | rfl <;> exact part_byt _ _ _ _ _
      obtain ⟨sq, hsq⟩ : ∃ sq, sq = seqA (a0, e0) (a1, e1) (a2, e2) (d0, f0) (d1, f1) := ⟨_, rfl⟩
      have hsl : sq.length = 21 := by rw [hsq]; rfl
      have hsm : sq.map MsgA.m = seqM := by rw [hsq]; rfl
      have hsy : ∀ x ∈ sq, ∃ y, (y ∈ ([⟨tD 0, d0, f0⟩, ⟨tD 1, d1, f1⟩] : List MsgA) ∨ y ∈ ([⟨tA 0, a0, e0⟩, ⟨tA 1, a1, e1⟩, ⟨tA 2, a2, e2⟩] : List MsgA)) ∧ x.a = y.a ∧ x.c = y.c ∧ x.m.body = y.m.body := by
        intro x hx
        rw [hsq] at hx
        simp only [seqA, List.mem_cons, List.not_mem_nil, or_false] at hx
        rcases hx with rfl | rfl | rfl | rfl | rfl | rfl | rfl | rfl | rfl | rfl | rfl | rfl | rfl | rfl | rfl | rfl | rfl | rfl | rfl | rfl | rfl
        all_goals first | exact ⟨_, Or.inl (List.Mem.head _), rfl, rfl, rfl⟩ | exact ⟨_, Or.inl (List.Mem.tail _ (List.Mem.head _)), rfl, rfl, rfl⟩ | exact ⟨_, Or.inr (List.Mem.head _), rfl, rfl, rfl⟩ | exact ⟨_, Or.inr (List.Mem.tail _ (List.Mem.head _)), rfl, rfl, rfl⟩ | exact ⟨_, Or.inr (List.Mem.tail _ (List.Mem.tail _ (List.Mem.head _))), rfl, rfl, rfl⟩
      apply CW.loop [15, 20, 21, 22, 23, 24, 223, 224, 225, 226, 227, 228, 229, 230, 231, 232, 233, 234, 235, 236, 237, 238, 239, 240, 241, 242, 243, 244, 245, 246] (fun s : Nat × Option Addr × Nat × List WayA => s.1 ≤ 21 ∧ s.2.2.2.map WayA.kl = stA s.1 ∧ WsOk s.2.2.2) (fun s => [(15, Value.slice s.2.1 s.1 s.2.2.1), (223, Value.int .i64 (s.1 : Int))])
        (fun s => St w NoF [osl (.slice s.2.1 s.1 s.2.2.1) 3 1 s.1 (iv (wantL.take s.1)), jO bj rj s.2.2.2, .own bq (.cells (sq.flatMap MsgA.row).toArray 28 (0, 0)), mS (some ⟨b2, o2, none⟩) cl2 [⟨tD 0, d0, f0⟩, ⟨tD 1, d1, f1⟩], bunB [⟨tD 0, d0, f0⟩, ⟨tD 1, d1, f1⟩], bunB [⟨tA 0, a0, e0⟩, ⟨tA 1, a1, e1⟩, ⟨tA 2, a2, e2⟩]]) (fun s => 21 - s.1)
      · refine fun w' hw' => ⟨(0, none, 0, []), ⟨Nat.zero_le _, rfl, WsOk.nil⟩, ⟨rfl, rfl, trivial⟩, ?_⟩
        have h2 := hw'.sub (L' := [.own bq (.cells ((seqA (a0, e0) (a1, e1) (a2, e2) (d0, f0) (d1, f1)).flatMap MsgA.row).toArray 28 (0, 0)), jO bj rj [], mS (some ⟨b2, o2, none⟩) cl2 [⟨tD 0, d0, f0⟩, ⟨tD 1, d1, f1⟩], bunB [⟨tD 0, d0, f0⟩, ⟨tD 1, d1, f1⟩], bunB [⟨tA 0, a0, e0⟩, ⟨tA 1, a1, e1⟩, ⟨tA 2, a2, e2⟩]]) (by repeat (first | exact List.Sublist.refl _ | exact List.nil_sublist _ | apply List.Sublist.cons_cons | apply List.Sublist.cons))
        rw [← hsq] at h2
        exact (front h2 1 rfl rfl).nilsl 3 1
      rintro ⟨j, ta, tc, ws⟩ g ⟨hj, hws, hok⟩
      simp only at hj hws hok ⊢
      by_cases hj21 : j < 21
      · have hjl : j < sq.length := by omega
        obtain ⟨y, hy, ya, yc, yb⟩ := hsy _ (List.getElem_mem hjl)
        have hxm : sq[j].m = seqM.getD j zeroMsg := by
          have h1 := congrArg (fun l : List Msg => l.getD j zeroMsg) hsm
          simp only [List.getD_eq_getElem?_getD, List.getElem?_map, List.getElem?_eq_getElem hjl] at h1 ⊢
          exact h1
        have hat := seq_at hj21
        repeat'(first|(apply kp;iterate 2 exact rfl)|apply jJ|(apply jE;exact rfl)|(apply jp;exact rfl)|(apply jc;kernel_rfl)|((first|apply kf|apply kn|apply ke|apply kx|apply kc|apply kb);iterate 2 exact rfl)|((first|apply kz|apply ky);(·exact rfl);(·repeat(first|exact iO|exact iR rfl|apply iT));iterate 2 exact rfl)|(apply kg;iterate 2 exact rfl)|(apply kG;iterate 3 exact rfl)|(apply kB;(iterate 2 exact rfl);intro _)|(apply kA;exact rfl;intro _)|(apply kK;(iterate 4 exact rfl);intro _)|(apply kU;(iterate 2 exact rfl);(·repeat(first|exact sH _ _ _|apply sT));(first|exact nfL_eq rfl|exact rfl);exact rfl)|((first|apply kh|apply kl);(iterate 2 exact rfl);(first|decide|omega);exact rfl)|(apply idxX;(iterate 2 exact rfl);(iterate 2(first|omega|(dsimp only;omega)));exact rfl)|(apply LR.ev; (· apply Ev.load_agg_at (cs := sq[j].row); (· exact rfl); (· exact rfl); (· intro w' hw'; refine rd_row (l := sq) (i := j) (b := bq) (o := 0) MsgA.row_len (hw'.rd_of_blk (by (repeat (first | exact mH _ _ | apply mT)))) hjl ?_; (· simp; done))); (· exact rfl))|((first|(apply kR;iterate 2 exact rfl)|(apply kQ;exact rfl));all_goals(intro hc;try simp only[hcs]at hc;try(exfalso;first|contradiction|omega))))
        apply LR.call
        · exact rfl
        intro w1 h1
        have hyk1 : Byt y.m.body ∧ y.m.body.length ≤ 48 := hyk y (by rcases hy with hy | hy; (· exact List.mem_append_left _ hy); (· exact List.mem_append_right _ hy))
        have hh := put_two sq[j] y h1 (fun h => front h 5 rfl rfl) (fun h => front h 6 rfl rfl) (b := bj) (r := rj) (ws := ws) (by (repeat (first | exact mH _ _ | apply mT))) (by (repeat (first | exact mH _ _ | apply mT))) hok hy hyk1 ya yc yb
        rw [hws, hxm, hat.1] at hh
        rw [← hxm] at hh
        refine CallsTo.mono (show CallsTo Try.prog 22 _ w1 _ from hh) ?_
        rintro _ w2 ⟨px, pcx, ws1, rfl, hA1, hok1, st⟩
        have h2 := h1.two st rfl rfl rfl (by (repeat (first | exact sH _ _ _ | apply sT)))
        refine LR.back h2 ?_
        clear h2 h1 st hh
        rw [hxm] at hA1
        rw [hxm]
        have hwl : ws1.length = (putJ (stA j) (seqM.getD j zeroMsg)).A.length := by rw [← hA1, List.length_map]
        have hwa : iv (wantL.take j) ++ [Value.int .i64 (wantL.getD j 0)] = iv (wantL.take (j + 1)) := by
          have hjw : j < wantL.length := hj21
          rw [List.take_succ_eq_append_getElem hjw, List.getD_eq_getElem?_getD, List.getElem?_eq_getElem hjw]
          unfold iv
          rw [List.map_append]
          rfl
        have hA2 : ws1.map WayA.kl = stA (j + 1) := by rw [stA_succ hj21]; exact hA1
        rw [← hwl] at hat
        cases hb : (putJ (stA j) (seqM.getD j zeroMsg)).is
        all_goals (
          rw [hb] at hat
          simp only [if_true, Bool.false_eq_true, if_false, Int.add_zero] at hat
          repeat'(first|(apply kp;iterate 2 exact rfl)|apply jJ|(apply jE;exact rfl)|(apply jp;exact rfl)|(apply jc;kernel_rfl)|((first|apply kf|apply kn|apply ke|apply kx|apply kc|apply kb);iterate 2 exact rfl)|((first|apply kz|apply ky);(·exact rfl);(·repeat(first|exact iO|exact iR rfl|apply iT));iterate 2 exact rfl)|(apply kg;iterate 2 exact rfl)|(apply kG;iterate 3 exact rfl)|(apply kB;(iterate 2 exact rfl);intro _)|(apply kA;exact rfl;intro _)|(apply kK;(iterate 4 exact rfl);intro _)|(apply kU;(iterate 2 exact rfl);(·repeat(first|exact sH _ _ _|apply sT));(first|exact nfL_eq rfl|exact rfl);exact rfl)|((first|apply kh|apply kl);(iterate 2 exact rfl);(first|decide|omega);exact rfl)|(apply kq; (· exact rfl); (· intro w1 h1; have hjr := jO_rd (h1.holds (jO bj rj ws1) (by (repeat (first | exact mH _ _ | apply mT)))); exact CallsTo.q (g24 bj rj ws1 w1 hjr.1 hjr.2) h1))|(apply mulX;(iterate 2 exact rfl);(iterate 2(first|omega|(dsimp only;omega)));exact rfl)|(apply addX;(iterate 2 exact rfl);(iterate 2(first|omega|(dsimp only;omega)));exact rfl)|((first|(apply kR;iterate 2 exact rfl)|(apply kQ;exact rfl));all_goals(intro hc;try simp only[hcs]at hc;try(exfalso;first|contradiction|omega))))
          refine LR.append (xs := iv (wantL.take j)) (news := [Value.int .i64 (wantL.getD j 0)]) (m := 1) rfl rfl (fun a' c' => by (repeat (first | exact sH _ _ _ | apply sT))) (fun w' hw' => ?_) (fun hx => by cases hx) rfl rfl (by omega) (by unfold maxLen; omega) rfl ?_
          · have h5 := hw'.rd_of_blk (mH _ _)
            first
              | (rw [show ((ws1.length : Nat) : Int) + 10 + 100 * 0 = wantL.getD j 0 from by omega] at h5; exact h5)
              | (rw [show ((ws1.length : Nat) : Int) + 100 * 0 = wantL.getD j 0 from by omega] at h5; exact h5)
          intro tn tcn
          rw [hwa]
          repeat'(first|(apply kp;iterate 2 exact rfl)|apply jJ|(apply jE;exact rfl)|(apply jp;exact rfl)|(apply jc;kernel_rfl)|((first|apply kf|apply kn|apply ke|apply kx|apply kc|apply kb);iterate 2 exact rfl)|((first|apply kz|apply ky);(·exact rfl);(·repeat(first|exact iO|exact iR rfl|apply iT));iterate 2 exact rfl)|(apply kg;iterate 2 exact rfl)|(apply kG;iterate 3 exact rfl)|(apply kB;(iterate 2 exact rfl);intro _)|(apply kA;exact rfl;intro _)|(apply kK;(iterate 4 exact rfl);intro _)|(apply kU;(iterate 2 exact rfl);(·repeat(first|exact sH _ _ _|apply sT));(first|exact nfL_eq rfl|exact rfl);exact rfl)|((first|apply kh|apply kl);(iterate 2 exact rfl);(first|decide|omega);exact rfl)|(apply addX;(iterate 2 exact rfl);(iterate 2(first|omega|(dsimp only;omega)));exact rfl)|((first|(apply kR;iterate 2 exact rfl)|(apply kQ;exact rfl));all_goals(intro hc;try simp only[hcs]at hc;try(exfalso;first|contradiction|omega))))
          apply At.again (j + 1, tn, tcn, ws1)
          · exact ⟨hj21, hA2, hok1⟩
          · (repeat (first | exact Out.refl _ _ | exact Out.mix | (apply Out.upd; (· exact rfl)) | (apply Out.updL; (· exact rfl)) | (apply Out.mixs; (· exact rfl))))
          · exact ⟨rfl, rfl, trivial⟩
          · exact fun w' hw' => hw'.sub (by repeat (first | exact List.Sublist.refl _ | exact List.nil_sublist _ | apply List.Sublist.cons_cons | apply List.Sublist.cons))
          · show 21 - (j + 1) < 21 - j
            omega)
      · have : j = 21 := by omega
        subst this
        clear hj hj21 hsy
        repeat'(first|(apply kp;iterate 2 exact rfl)|apply jJ|(apply jE;exact rfl)|(apply jp;exact rfl)|(apply jc;kernel_rfl)|((first|apply kf|apply kn|apply ke|apply kx|apply kc|apply kb);iterate 2 exact rfl)|((first|apply kz|apply ky);(·exact rfl);(·repeat(first|exact iO|exact iR rfl|apply iT));iterate 2 exact rfl)|(apply kg;iterate 2 exact rfl)|(apply kG;iterate 3 exact rfl)|(apply kB;(iterate 2 exact rfl);intro _)|(apply kA;exact rfl;intro _)|(apply kK;(iterate 4 exact rfl);intro _)|(apply kU;(iterate 2 exact rfl);(·repeat(first|exact sH _ _ _|apply sT));(first|exact nfL_eq rfl|exact rfl);exact rfl)|((first|apply kh|apply kl);(iterate 2 exact rfl);(first|decide|omega);exact rfl)|((first|(apply kR;iterate 2 exact rfl)|(apply kQ;exact rfl));all_goals(intro hc;try simp only[hcs]at hc;try(exfalso;first|contradiction|omega))))
        apply LR.call
        · exact rfl
        intro w1 h1
        have hh := g22 bj rj ws (badM 2 1 0 0 0 0 0 []) none 0 w1 (h1.holds (jO bj rj ws) (by (repeat (first | exact mH _ _ | apply mT)))) hok (Rd.nil _ _) (fun _ => rfl) (by simp [badM]) (by simp [badM, Byt]) (fun k hk => absurd hk.1 (by simp [badM]))
        rw [putJ_bad (by decide +kernel)] at hh
        refine CallsTo.mono (show CallsTo Try.prog 22 _ w1 _ from hh) ?_
        rintro _ w2 ⟨px, pcx, ws1, rfl, hA1, hok1, st⟩
        have h2 := h1.two st rfl rfl rfl (by (repeat (first | exact sH _ _ _ | apply sT)))
        refine LR.back h2 ?_
        clear h2 h1 st hh
        repeat'(first|(apply kp;iterate 2 exact rfl)|apply jJ|(apply jE;exact rfl)|(apply jp;exact rfl)|(apply jc;kernel_rfl)|((first|apply kf|apply kn|apply ke|apply kx|apply kc|apply kb);iterate 2 exact rfl)|((first|apply kz|apply ky);(·exact rfl);(·repeat(first|exact iO|exact iR rfl|apply iT));iterate 2 exact rfl)|(apply kg;iterate 2 exact rfl)|(apply kG;iterate 3 exact rfl)|(apply kB;(iterate 2 exact rfl);intro _)|(apply kA;exact rfl;intro _)|(apply kK;(iterate 4 exact rfl);intro _)|(apply kU;(iterate 2 exact rfl);(·repeat(first|exact sH _ _ _|apply sT));(first|exact nfL_eq rfl|exact rfl);exact rfl)|((first|apply kh|apply kl);(iterate 2 exact rfl);(first|decide|omega);exact rfl)|((first|(apply kR;iterate 2 exact rfl)|(apply kQ;exact rfl));all_goals(intro hc;try simp only[hcs]at hc;try(exfalso;first|contradiction|omega))))
        apply LR.call
        · exact rfl
        intro w1 h1
        have hh := g22 bj rj ws1 (badM 0 0 0 0 0 0 0 []) none 0 w1 (h1.holds (jO bj rj ws1) (by (repeat (first | exact mH _ _ | apply mT)))) hok1 (Rd.nil _ _) (fun _ => rfl) (by simp [badM]) (by simp [badM, Byt]) (fun k hk => absurd hk.1 (by simp [badM]))
        rw [putJ_bad (by decide +kernel)] at hh
        refine CallsTo.mono (show CallsTo Try.prog 22 _ w1 _ from hh) ?_
        rintro _ w2 ⟨px, pcx, ws2, rfl, hA2, hok2, st⟩
        have h2 := h1.two st rfl rfl rfl (by (repeat (first | exact sH _ _ _ | apply sT)))
        refine LR.back h2 ?_
        clear h2 h1 st hh
        refine LR.sub (D := St w NoF [osl (.slice ta 21 tc) 3 1 21 (iv (wantL.take 21)), mS (some ⟨b2, o2, none⟩) cl2 [⟨tD 0, d0, f0⟩, ⟨tD 1, d1, f1⟩], bunB [⟨tD 0, d0, f0⟩, ⟨tD 1, d1, f1⟩]]) (fun w' hw' => (front hw' 2 rfl rfl).sub (by repeat (first | exact List.Sublist.refl _ | exact List.nil_sublist _ | apply List.Sublist.cons_cons | apply List.Sublist.cons))) ?_
        repeat'(first|(apply kA; (· exact rfl); intro b32)|(apply kK; (iterate 4 exact rfl); intro bw)|(apply kp;iterate 2 exact rfl)|apply jJ|(apply jE;exact rfl)|(apply jp;exact rfl)|(apply jc;kernel_rfl)|((first|apply kf|apply kn|apply ke|apply kx|apply kc|apply kb);iterate 2 exact rfl)|((first|apply kz|apply ky);(·exact rfl);(·repeat(first|exact iO|exact iR rfl|apply iT));iterate 2 exact rfl)|(apply kg;iterate 2 exact rfl)|(apply kG;iterate 3 exact rfl)|(apply kB;(iterate 2 exact rfl);intro _)|(apply kA;exact rfl;intro _)|(apply kK;(iterate 4 exact rfl);intro _)|(apply kU;(iterate 2 exact rfl);(·repeat(first|exact sH _ _ _|apply sT));(first|exact nfL_eq rfl|exact rfl);exact rfl)|((first|apply kh|apply kl);(iterate 2 exact rfl);(first|decide|omega);exact rfl)|(apply idxX;(iterate 2 exact rfl);(iterate 2(first|omega|(dsimp only;omega)));exact rfl)|(apply LR.ev; (· first | (apply Ev.load_agg_at (cs := MsgA.row ⟨tD 0, d0, f0⟩); (· exact rfl); (· exact rfl); (· intro w' hw'; refine rd_row (l := [⟨tD 0, d0, f0⟩, ⟨tD 1, d1, f1⟩]) (i := 0) MsgA.row_len (hw'.rd_of_own (by (repeat (first | exact mH _ _ | apply mT)))) ?_ ?_; (· simp; done); (· simp; done))) | (apply Ev.load_agg_at (cs := MsgA.row ⟨tD 1, d1, f1⟩); (· exact rfl); (· exact rfl); (· intro w' hw'; refine rd_row (l := [⟨tD 0, d0, f0⟩, ⟨tD 1, d1, f1⟩]) (i := 1) MsgA.row_len (hw'.rd_of_own (by (repeat (first | exact mH _ _ | apply mT)))) ?_ ?_; (· simp; done); (· simp; done))) | (apply Ev.load_agg_at (cs := MsgA.row ⟨tA 0, a0, e0⟩); (· exact rfl); (· exact rfl); (· intro w' hw'; refine rd_row (l := [⟨tA 0, a0, e0⟩, ⟨tA 1, a1, e1⟩, ⟨tA 2, a2, e2⟩]) (i := 0) MsgA.row_len (hw'.rd_of_own (by (repeat (first | exact mH _ _ | apply mT)))) ?_ ?_; (· simp; done); (· simp; done))) | (apply Ev.load_agg_at (cs := MsgA.row ⟨tA 1, a1, e1⟩); (· exact rfl); (· exact rfl); (· intro w' hw'; refine rd_row (l := [⟨tA 0, a0, e0⟩, ⟨tA 1, a1, e1⟩, ⟨tA 2, a2, e2⟩]) (i := 1) MsgA.row_len (hw'.rd_of_own (by (repeat (first | exact mH _ _ | apply mT)))) ?_ ?_; (· simp; done); (· simp; done))) | (apply Ev.load_agg_at (cs := MsgA.row ⟨tA 2, a2, e2⟩); (· exact rfl); (· exact rfl); (· intro w' hw'; refine rd_row (l := [⟨tA 0, a0, e0⟩, ⟨tA 1, a1, e1⟩, ⟨tA 2, a2, e2⟩]) (i := 2) MsgA.row_len (hw'.rd_of_own (by (repeat (first | exact mH _ _ | apply mT)))) ?_ ?_; (· simp; done); (· simp; done)))); (· exact rfl))|((first|(apply kR;iterate 2 exact rfl)|(apply kQ;exact rfl));all_goals(intro hc;try simp only[hcs]at hc;try(exfalso;first|contradiction|omega))))
        apply LR.call
        · exact rfl
        intro w1 h1
        refine (g20 w1).mono ?_
        rintro v w2 ⟨bx, rx, rfl, st⟩
        refine LR.back (h1.pushL st (fun x hx => by simp at hx; subst hx; rfl)) ?_
        clear h1 st
        repeat'(first|(apply kp;iterate 2 exact rfl)|apply jJ|(apply jE;exact rfl)|(apply jp;exact rfl)|(apply jc;kernel_rfl)|((first|apply kf|apply kn|apply ke|apply kx|apply kc|apply kb);iterate 2 exact rfl)|((first|apply kz|apply ky);(·exact rfl);(·repeat(first|exact iO|exact iR rfl|apply iT));iterate 2 exact rfl)|(apply kg;iterate 2 exact rfl)|(apply kG;iterate 3 exact rfl)|(apply kB;(iterate 2 exact rfl);intro _)|(apply kA;exact rfl;intro _)|(apply kK;(iterate 4 exact rfl);intro _)|(apply kU;(iterate 2 exact rfl);(·repeat(first|exact sH _ _ _|apply sT));(first|exact nfL_eq rfl|exact rfl);exact rfl)|((first|apply kh|apply kl);(iterate 2 exact rfl);(first|decide|omega);exact rfl)|(apply idxX;(iterate 2 exact rfl);(iterate 2(first|omega|(dsimp only;omega)));exact rfl)|(apply LR.ev; (· first | (apply Ev.load_agg_at (cs := MsgA.row ⟨tD 0, d0, f0⟩); (· exact rfl); (· exact rfl); (· intro w' hw'; refine rd_row (l := [⟨tD 0, d0, f0⟩, ⟨tD 1, d1, f1⟩]) (i := 0) MsgA.row_len (hw'.rd_of_own (by (repeat (first | exact mH _ _ | apply mT)))) ?_ ?_; (· simp; done); (· simp; done))) | (apply Ev.load_agg_at (cs := MsgA.row ⟨tD 1, d1, f1⟩); (· exact rfl); (· exact rfl); (· intro w' hw'; refine rd_row (l := [⟨tD 0, d0, f0⟩, ⟨tD 1, d1, f1⟩]) (i := 1) MsgA.row_len (hw'.rd_of_own (by (repeat (first | exact mH _ _ | apply mT)))) ?_ ?_; (· simp; done); (· simp; done))) | (apply Ev.load_agg_at (cs := MsgA.row ⟨tA 0, a0, e0⟩); (· exact rfl); (· exact rfl); (· intro w' hw'; refine rd_row (l := [⟨tA 0, a0, e0⟩, ⟨tA 1, a1, e1⟩, ⟨tA 2, a2, e2⟩]) (i := 0) MsgA.row_len (hw'.rd_of_own (by (repeat (first | exact mH _ _ | apply mT)))) ?_ ?_; (· simp; done); (· simp; done))) | (apply Ev.load_agg_at (cs := MsgA.row ⟨tA 1, a1, e1⟩); (· exact rfl); (· exact rfl); (· intro w' hw'; refine rd_row (l := [⟨tA 0, a0, e0⟩, ⟨tA 1, a1, e1⟩, ⟨tA 2, a2, e2⟩]) (i := 1) MsgA.row_len (hw'.rd_of_own (by (repeat (first | exact mH _ _ | apply mT)))) ?_ ?_; (· simp; done); (· simp; done))) | (apply Ev.load_agg_at (cs := MsgA.row ⟨tA 2, a2, e2⟩); (· exact rfl); (· exact rfl); (· intro w' hw'; refine rd_row (l := [⟨tA 0, a0, e0⟩, ⟨tA 1, a1, e1⟩, ⟨tA 2, a2, e2⟩]) (i := 2) MsgA.row_len (hw'.rd_of_own (by (repeat (first | exact mH _ _ | apply mT)))) ?_ ?_; (· simp; done); (· simp; done)))); (· exact rfl))|((first|(apply kR;iterate 2 exact rfl)|(apply kQ;exact rfl));all_goals(intro hc;try simp only[hcs]at hc;try(exfalso;first|contradiction|omega))))
        apply LR.call
        · exact rfl
        intro w1 h1
        have hh := put_like (b := bx) (r := rx) (ws := []) ⟨tD 0, d0, f0⟩ ⟨tD 0, d0, f0⟩ h1 (fun h => front h 5 rfl rfl) (by (repeat (first | exact mH _ _ | apply mT))) WsOk.nil (l := [⟨tD 0, d0, f0⟩, ⟨tD 1, d1, f1⟩]) (by simp) (part_byt _ _ _ _ _) rfl rfl rfl
        rw [show putJ (([] : List WayA).map WayA.kl) (tD 0) = _ from putX0] at hh
        refine CallsTo.mono (show CallsTo Try.prog 22 _ w1 _ from hh) ?_
        rintro _ w2 ⟨px, pcx, wx1, rfl, hX1, okx1, st⟩
        have h2 := h1.two st rfl rfl rfl (by (repeat (first | exact sH _ _ _ | apply sT)))
        refine LR.back h2 ?_
        clear h2 h1 st hh
        repeat'(first|(apply kp;iterate 2 exact rfl)|apply jJ|(apply jE;exact rfl)|(apply jp;exact rfl)|(apply jc;kernel_rfl)|((first|apply kf|apply kn|apply ke|apply kx|apply kc|apply kb);iterate 2 exact rfl)|((first|apply kz|apply ky);(·exact rfl);(·repeat(first|exact iO|exact iR rfl|apply iT));iterate 2 exact rfl)|(apply kg;iterate 2 exact rfl)|(apply kG;iterate 3 exact rfl)|(apply kB;(iterate 2 exact rfl);intro _)|(apply kA;exact rfl;intro _)|(apply kK;(iterate 4 exact rfl);intro _)|(apply kU;(iterate 2 exact rfl);(·repeat(first|exact sH _ _ _|apply sT));(first|exact nfL_eq rfl|exact rfl);exact rfl)|((first|apply kh|apply kl);(iterate 2 exact rfl);(first|decide|omega);exact rfl)|((first|(apply kR;iterate 2 exact rfl)|(apply kQ;exact rfl));all_goals(intro hc;try simp only[hcs]at hc;try(exfalso;first|contradiction|omega))))
        apply LR.call
        · exact rfl
        intro w1 h1
        have hh := put_like (b := bx) (r := rx) (ws := wx1) ⟨{ tD 1 with id := 5 }, d1, f1⟩ ⟨tD 1, d1, f1⟩ h1 (fun h => front h 6 rfl rfl) (by (repeat (first | exact mH _ _ | apply mT))) okx1 (l := [⟨tD 0, d0, f0⟩, ⟨tD 1, d1, f1⟩]) (by simp) (part_byt _ _ _ _ _) rfl rfl rfl
        rw [show wx1.map WayA.kl = [((1, 1), [tD 0])] from hX1, show putJ [((1, 1), [tD 0])] { tD 1 with id := 5 } = _ from putX1] at hh
        refine CallsTo.mono (show CallsTo Try.prog 22 _ w1 _ from hh) ?_
        rintro _ w2 ⟨px, pcx, wx2, rfl, hX2, okx2, st⟩
        have h2 := h1.two st rfl rfl rfl (by (repeat (first | exact sH _ _ _ | apply sT)))
        refine LR.back h2 ?_
        clear h2 h1 st hh
        have hw2 : wx2 = [] := List.map_eq_nil_iff.1 hX2
        subst hw2
        repeat'(first|(apply kp;iterate 2 exact rfl)|apply jJ|(apply jE;exact rfl)|(apply jp;exact rfl)|(apply jc;kernel_rfl)|((first|apply kf|apply kn|apply ke|apply kx|apply kc|apply kb);iterate 2 exact rfl)|((first|apply kz|apply ky);(·exact rfl);(·repeat(first|exact iO|exact iR rfl|apply iT));iterate 2 exact rfl)|(apply kg;iterate 2 exact rfl)|(apply kG;iterate 3 exact rfl)|(apply kB;(iterate 2 exact rfl);intro _)|(apply kA;exact rfl;intro _)|(apply kK;(iterate 4 exact rfl);intro _)|(apply kU;(iterate 2 exact rfl);(·repeat(first|exact sH _ _ _|apply sT));(first|exact nfL_eq rfl|exact rfl);exact rfl)|((first|apply kh|apply kl);(iterate 2 exact rfl);(first|decide|omega);exact rfl)|(apply kq; (· exact rfl); (· intro w1 h1; have hjr := jO_rd (h1.holds (jO bx rx []) (by (repeat (first | exact mH _ _ | apply mT)))); exact CallsTo.q (g24 bx rx [] w1 hjr.1 hjr.2) h1))|((first|(apply kR;iterate 2 exact rfl)|(apply kQ;exact rfl));all_goals(intro hc;try simp only[hcs]at hc;try(exfalso;first|contradiction|omega))))
        apply CW.loop [0, 37, 38, 39, 40, 41, 285, 286, 287, 288, 289, 290, 291, 292, 293, 294, 295, 296, 297, 298, 299, 300, 301, 302, 303, 304, 305, 306, 307] (fun s : Nat × Option Nat => s.1 ≤ 2) (fun s => [(37, Value.pointer (s.2.map fun b => ⟨b, 0, none⟩)), (38, Value.int .i64 (s.1 : Int))])
          (fun s => St w NoF ((match s.2 with
            | none => []
            | some b => [.own b (.cells [Value.map none].toArray 62 (0, 0))]) ++ [.own bw (.cells (iv wantL).toArray 3 (0, 0)), osl (.slice ta 21 tc) 3 1 21 (iv (wantL.take 21))])) (fun s => 2 - s.1)
        · exact fun w' hw' => ⟨(0, none), by show 0 ≤ 2; omega, ⟨rfl, rfl, trivial⟩, hw'.sub (L' := [.own bw (.cells (iv wantL).toArray 3 (0, 0)), osl (.slice ta 21 tc) 3 1 21 (iv (wantL.take 21))]) (by repeat (first | exact List.Sublist.refl _ | exact List.nil_sublist _ | apply List.Sublist.cons_cons | apply List.Sublist.cons))⟩
        rintro ⟨k, o⟩ g hk2
        simp only at hk2 ⊢
        by_cases hk : k < 2
        · have step : ∀ (p : Option Addr) (w' : World), noneJ w' p → True := fun _ _ _ => trivial
          cases o with
          | none =>
            repeat'(first|(apply kB; (· exact rfl); (· exact rfl); intro bn)|(apply kp;iterate 2 exact rfl)|apply jJ|(apply jE;exact rfl)|(apply jp;exact rfl)|(apply jc;kernel_rfl)|((first|apply kf|apply kn|apply ke|apply kx|apply kc|apply kb);iterate 2 exact rfl)|((first|apply kz|apply ky);(·exact rfl);(·repeat(first|exact iO|exact iR rfl|apply iT));iterate 2 exact rfl)|(apply kg;iterate 2 exact rfl)|(apply kG;iterate 3 exact rfl)|(apply kB;(iterate 2 exact rfl);intro _)|(apply kA;exact rfl;intro _)|(apply kK;(iterate 4 exact rfl);intro _)|(apply kU;(iterate 2 exact rfl);(·repeat(first|exact sH _ _ _|apply sT));(first|exact nfL_eq rfl|exact rfl);exact rfl)|((first|apply kh|apply kl);(iterate 2 exact rfl);(first|decide|omega);exact rfl)|(apply kq; (· exact rfl); (· intro w1 h1; first | (have hq := CallsTo.q (g22n none (badM 0 0 0 0 0 0 0 []) none 0 w1 (Or.inl rfl)) h1; show CallsTo Try.prog 22 [.pointer none, Msg.val (badM 0 0 0 0 0 0 0 []) none 0] w1 _; exact hq) | exact CallsTo.q (g24n none w1 (Or.inl rfl)) h1))|(apply addX;(iterate 2 exact rfl);(iterate 2(first|omega|(dsimp only;omega)));exact rfl)|((first|(apply kR;iterate 2 exact rfl)|(apply kQ;exact rfl));all_goals(intro hc;try simp only[hcs]at hc;try(exfalso;first|contradiction|omega))))
            apply At.again (k + 1, some bn)
            · exact hk
            · (repeat (first | exact Out.refl _ _ | exact Out.mix | (apply Out.upd; (· exact rfl)) | (apply Out.updL; (· exact rfl)) | (apply Out.mixs; (· exact rfl))))
            · exact ⟨rfl, rfl, trivial⟩
            · exact fun w' hw' => hw'.sub (L' := [.own bn (.cells [Value.map none].toArray 62 (0, 0)), .own bw (.cells (iv wantL).toArray 3 (0, 0)), osl (.slice ta 21 tc) 3 1 21 (iv (wantL.take 21))]) (by repeat (first | exact List.Sublist.refl _ | exact List.nil_sublist _ | apply List.Sublist.cons_cons | apply List.Sublist.cons))
            · show 2 - (k + 1) < 2 - k
              omega
          | some b =>
            refine CW.sub (D := St w NoF [.own b (.cells [Value.map none].toArray 62 (0, 0)), .own bw (.cells (iv wantL).toArray 3 (0, 0)), osl (.slice ta 21 tc) 3 1 21 (iv (wantL.take 21))]) ?_ (fun w' hw' => hw')
            repeat'(first|(apply kB; (· exact rfl); (· exact rfl); intro bn)|(apply kp;iterate 2 exact rfl)|apply jJ|(apply jE;exact rfl)|(apply jp;exact rfl)|(apply jc;kernel_rfl)|((first|apply kf|apply kn|apply ke|apply kx|apply kc|apply kb);iterate 2 exact rfl)|((first|apply kz|apply ky);(·exact rfl);(·repeat(first|exact iO|exact iR rfl|apply iT));iterate 2 exact rfl)|(apply kg;iterate 2 exact rfl)|(apply kG;iterate 3 exact rfl)|(apply kB;(iterate 2 exact rfl);intro _)|(apply kA;exact rfl;intro _)|(apply kK;(iterate 4 exact rfl);intro _)|(apply kU;(iterate 2 exact rfl);(·repeat(first|exact sH _ _ _|apply sT));(first|exact nfL_eq rfl|exact rfl);exact rfl)|((first|apply kh|apply kl);(iterate 2 exact rfl);(first|decide|omega);exact rfl)|(apply kq; (· exact rfl); (· intro w1 h1; first | (have hq := CallsTo.q (g22n (some ⟨b, 0, none⟩) (badM 0 0 0 0 0 0 0 []) none 0 w1 (Or.inr ⟨b, rfl, h1.rd_of_blk (by (repeat (first | exact mH _ _ | apply mT)))⟩)) h1; show CallsTo Try.prog 22 [.pointer (some ⟨b, 0, none⟩), Msg.val (badM 0 0 0 0 0 0 0 []) none 0] w1 _; exact hq) | exact CallsTo.q (g24n (some ⟨b, 0, none⟩) w1 (Or.inr ⟨b, rfl, h1.rd_of_blk (by (repeat (first | exact mH _ _ | apply mT)))⟩)) h1))|(apply addX;(iterate 2 exact rfl);(iterate 2(first|omega|(dsimp only;omega)));exact rfl)|((first|(apply kR;iterate 2 exact rfl)|(apply kQ;exact rfl));all_goals(intro hc;try simp only[hcs]at hc;try(exfalso;first|contradiction|omega))))
            apply At.again (k + 1, some bn)
            · exact hk
            · (repeat (first | exact Out.refl _ _ | exact Out.mix | (apply Out.upd; (· exact rfl)) | (apply Out.updL; (· exact rfl)) | (apply Out.mixs; (· exact rfl))))
            · exact ⟨rfl, rfl, trivial⟩
            · exact fun w' hw' => hw'.sub (L' := [.own bn (.cells [Value.map none].toArray 62 (0, 0)), .own bw (.cells (iv wantL).toArray 3 (0, 0)), osl (.slice ta 21 tc) 3 1 21 (iv (wantL.take 21))]) (by repeat (first | exact List.Sublist.refl _ | exact List.nil_sublist _ | apply List.Sublist.cons_cons | apply List.Sublist.cons))
            · show 2 - (k + 1) < 2 - k
              omega
        · have : k = 2 := by omega
          subst this
          refine CW.sub (D := St w NoF [.own bw (.cells (iv wantL).toArray 3 (0, 0)), osl (.slice ta 21 tc) 3 1 21 (iv (wantL.take 21))]) ?_ (fun w' hw' => by cases o <;> exact hw'.sub (by repeat (first | exact List.Sublist.refl _ | exact List.nil_sublist _ | apply List.Sublist.cons_cons | apply List.Sublist.cons)))
          repeat'(first|(apply kp;iterate 2 exact rfl)|apply jJ|(apply jE;exact rfl)|(apply jp;exact rfl)|(apply jc;kernel_rfl)|((first|apply kf|apply kn|apply ke|apply kx|apply kc|apply kb);iterate 2 exact rfl)|((first|apply kz|apply ky);(·exact rfl);(·repeat(first|exact iO|exact iR rfl|apply iT));iterate 2 exact rfl)|(apply kg;iterate 2 exact rfl)|(apply kG;iterate 3 exact rfl)|(apply kB;(iterate 2 exact rfl);intro _)|(apply kA;exact rfl;intro _)|(apply kK;(iterate 4 exact rfl);intro _)|(apply kU;(iterate 2 exact rfl);(·repeat(first|exact sH _ _ _|apply sT));(first|exact nfL_eq rfl|exact rfl);exact rfl)|((first|apply kh|apply kl);(iterate 2 exact rfl);(first|decide|omega);exact rfl)|((first|(apply kR;iterate 2 exact rfl)|(apply kQ;exact rfl));all_goals(intro hc;try simp only[hcs]at hc;try(exfalso;first|contradiction|omega))))
          apply LR.call
          · exact rfl
          intro w1 h1
          refine (g20 w1).mono ?_
          rintro v w2 ⟨bo, ro, rfl, st⟩
          refine LR.back (h1.pushL st (fun x hx => by simp at hx; subst hx; rfl)) ?_
          clear h1 st
          repeat'(first|(apply kp;iterate 2 exact rfl)|apply jJ|(apply jE;exact rfl)|(apply jp;exact rfl)|(apply jc;kernel_rfl)|((first|apply kf|apply kn|apply ke|apply kx|apply kc|apply kb);iterate 2 exact rfl)|((first|apply kz|apply ky);(·exact rfl);(·repeat(first|exact iO|exact iR rfl|apply iT));iterate 2 exact rfl)|(apply kg;iterate 2 exact rfl)|(apply kG;iterate 3 exact rfl)|(apply kB;(iterate 2 exact rfl);intro _)|(apply kA;exact rfl;intro _)|(apply kK;(iterate 4 exact rfl);intro _)|(apply kU;(iterate 2 exact rfl);(·repeat(first|exact sH _ _ _|apply sT));(first|exact nfL_eq rfl|exact rfl);exact rfl)|((first|apply kh|apply kl);(iterate 2 exact rfl);(first|decide|omega);exact rfl)|((first|(apply kR;iterate 2 exact rfl)|(apply kQ;exact rfl));all_goals(intro hc;try simp only[hcs]at hc;try(exfalso;first|contradiction|omega))))
          apply LR.call
          · exact rfl
          intro w1 h1
          refine CallsTo.mono (show CallsTo Try.prog 12 _ w1 _ from c14 oneP none 0 w1 (Rd.nil _ _) (fun _ => rfl) (by simp [oneP])) ?_
          rintro v w2 ⟨ai, ci, rfl, hn1⟩
          refine LR.back (h1.newSl hn1) ?_
          clear hn1 h1
          repeat'(first|(apply kp;iterate 2 exact rfl)|apply jJ|(apply jE;exact rfl)|(apply jp;exact rfl)|(apply jc;kernel_rfl)|((first|apply kf|apply kn|apply ke|apply kx|apply kc|apply kb);iterate 2 exact rfl)|((first|apply kz|apply ky);(·exact rfl);(·repeat(first|exact iO|exact iR rfl|apply iT));iterate 2 exact rfl)|(apply kg;iterate 2 exact rfl)|(apply kG;iterate 3 exact rfl)|(apply kB;(iterate 2 exact rfl);intro _)|(apply kA;exact rfl;intro _)|(apply kK;(iterate 4 exact rfl);intro _)|(apply kU;(iterate 2 exact rfl);(·repeat(first|exact sH _ _ _|apply sT));(first|exact nfL_eq rfl|exact rfl);exact rfl)|((first|apply kh|apply kl);(iterate 2 exact rfl);(first|decide|omega);exact rfl)|((first|(apply kR;iterate 2 exact rfl)|(apply kQ;exact rfl));all_goals(intro hc;try simp only[hcs]at hc;try(exfalso;first|contradiction|omega))))
          apply LR.call
          · exact rfl
          intro w1 h1
          have hh := g22 bo ro [] oneP ai ci w1 (h1.holds (jO bo ro []) (by (repeat (first | exact mH _ _ | apply mT)))) WsOk.nil (ownsRow_rd h1.g0) (fun e => (ownsRow_some h1.g0 e).2) (by simp [oneP]) (by simp [oneP, Byt]) (fun k hk => absurd hk.1 (by simp [oneP]))
          rw [show putJ (([] : List WayA).map WayA.kl) oneP = _ from putX2] at hh
          refine CallsTo.mono (show CallsTo Try.prog 22 _ w1 _ from hh) ?_
          rintro _ w2 ⟨px, pcx, wo1, rfl, hO1, oko1, st⟩
          have h2 := h1.two st rfl rfl rfl (by (repeat (first | exact sH _ _ _ | apply sT)))
          refine LR.back h2 ?_
          clear h2 h1 st hh
          repeat'(first|(apply kp;iterate 2 exact rfl)|apply jJ|(apply jE;exact rfl)|(apply jp;exact rfl)|(apply jc;kernel_rfl)|((first|apply kf|apply kn|apply ke|apply kx|apply kc|apply kb);iterate 2 exact rfl)|((first|apply kz|apply ky);(·exact rfl);(·repeat(first|exact iO|exact iR rfl|apply iT));iterate 2 exact rfl)|(apply kg;iterate 2 exact rfl)|(apply kG;iterate 3 exact rfl)|(apply kB;(iterate 2 exact rfl);intro _)|(apply kA;exact rfl;intro _)|(apply kK;(iterate 4 exact rfl);intro _)|(apply kU;(iterate 2 exact rfl);(·repeat(first|exact sH _ _ _|apply sT));(first|exact nfL_eq rfl|exact rfl);exact rfl)|((first|apply kh|apply kl);(iterate 2 exact rfl);(first|decide|omega);exact rfl)|(apply kq; (· exact rfl); (· intro w1 h1; first | exact CallsTo.q (g19 w1) h1 | (have hq := CallsTo.q (g29 ta (some ⟨bw, 0, none⟩) tc 21 wantL wantL w1 (h1.rd_of_own (by (repeat (first | exact mH _ _ | apply mT)))) (h1.rd_of_blk (by (repeat (first | exact mH _ _ | apply mT)))) (by decide)) h1; rw [show decide (wantL = wantL) = true by simp] at hq; show CallsTo Try.prog 29 [.slice ta 21 tc, .slice (some ⟨bw, 0, none⟩) 21 21] w1 _; exact hq)))|((first|(apply kR;iterate 2 exact rfl)|(apply kQ;exact rfl));all_goals(intro hc;try simp only[hcs]at hc;try(exfalso;first|contradiction|omega))))
          (apply ret1; (· exact rfl); intro w' hS)
          exact ⟨rfl, hS.toKeep⟩
end Go.Proofs.Ytphcnaafhcfakaa

namespace Go.Proofs.Ytphcnaafhcfakaa
open Go.Hb Go.ChangeShapes Go.WideShapes
attribute [local irreducible] LR CW At Ev thn blk finK noG again CallsTo DW QL dnext
set_option linter.unusedSimpArgs false
set_option linter.unusedVariables false

set_option maxHeartbeats 1000000 in
set_option maxRecDepth 100000 in
theorem pieceKnown_lifted (os : Os) (started : os.Started) (H : Type) (enc : TypeId × Value → H) :
    ReturnsInHanded {} Try.checked os 7 .any (Rows.pieceKnownSpec.pre6 enc Try.prog Try.f7 Rows.pieceKnownRow.domain false) (Rows.pieceKnownSpec.post enc Try.prog Try.f7 false true false false) := by
  refine returnsInHanded_of_change_sized (C := Try.checked) (s := Rows.pieceKnownSpec) own_knob started (by kernel_rfl) Try.func7
    (ChangeSpec.witness6 (enc := enc) (C := Try.checked) false ⟨#[], #[], []⟩ 12 (by kernel_rfl) (by kernel_rfl) (by kernel_rfl) (by kernel_rfl)) ?_
  intro W base args ds gs before hval hW hcnd hwt _
  have hW' := hW
  obtain ⟨p, q, hA0, hV, rfl, hfz, hnd⟩ := hW'
  obtain ⟨rfl, rfl⟩ := trodVars_none hV
  have hA : DataW.TrodAll enc Try.prog W 0 (fun _ => true) true Try.f7.params.toList args.toList ds p := hA0
  rw [Try.params7] at hA
  obtain ⟨hargs, rfl, rfl⟩ := trodAll_nil hA
  obtain rfl : args = #[] := by cases args; simp_all
  refine (g7 W).calls fun v W' ⟨hv, hg⟩ => ⟨v, rfl, ?_⟩
  subst hv
  exact law_post kids full_slices hW hg rfl rfl (by kernel_rfl) Try.underlying4 (by rw [Try.params7]; decide +kernel)

theorem pieceKnown_holds : Rows.PieceKnownSaid :=
  OpenClaim.holds_of_wide 7 Try.f7 rfl rfl rfl rfl rfl rfl rfl ⟨rfl, rfl, rfl, rfl, rfl⟩ rfl rfl rfl rfl rfl (by kernel_rfl) Try.func7 (by kernel_rfl)
    (of_decide_eq_true (by kernel_rfl)) (by unfold Func.isWrapper; first | (rw [if_pos (by decide +kernel)]; kernel_rfl) | (rw [if_neg (by decide +kernel)]; exact ⟨rfl, rfl⟩))
    (fun os started H enc _ => pieceKnown_lifted os started H enc)
end Go.Proofs.Ytphcnaafhcfakaa
