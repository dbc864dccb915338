/-
  The law PacketTurned holds, as its row says it: one bit turned is found, and turned back it is as before. Conditions: none.
-/
import Derived.Test.YtkolmkdbjagfcaaK22JM5
import Derived.Shelf.Sort.Plain
import Derived.Ground.Names2Prog
import Derived.Shelf.Slices.CompactI
import Derived.Shelf.Slices.In.SortNone
import Derived.Test.YtkolmkdbjagfcaaProg
import Derived.Sort.OwnSortedInts

set_option linter.unusedSimpArgs false
set_option linter.unusedVariables false
namespace Go.Proofs.Ytkolmkdbjagfcaa
open Go.Hb
attribute [local irreducible] LR CW At Ev thn blk finK noG again CallsTo DW QL dnext TW DP
set_option linter.unusedSimpArgs false
set_option linter.unusedVariables false
set_option maxRecDepth 100000

def bitM (r : Nat) : Int := IntKind.wrap .u8 (1 * 2 ^ (min ((r : Int)).toNat (IntKind.bits .u8)))
def turnB (x : Int) (r : Nat) : Int := xorI .u8 x (bitM r)
theorem turn_all : ∀ (r : Fin 8) (x : Fin 256), 0 ≤ turnB (x.val : Int) r.val ∧ turnB (x.val : Int) r.val < 256 ∧ turnB (x.val : Int) r.val ≠ (x.val : Int) ∧ turnB (turnB (x.val : Int) r.val) r.val = (x.val : Int) := by decide +kernel
theorem turn_ok {x : Int} {r : Nat} (hx : 0 ≤ x ∧ x < 256) (hr : r < 8) : (0 ≤ turnB x r ∧ turnB x r < 256) ∧ x ≠ turnB x r ∧ turnB (turnB x r) r = x := by
  have h := turn_all ⟨r, hr⟩ ⟨x.toNat, by omega⟩
  simp only at h
  rw [show ((x.toNat : Nat) : Int) = x by omega] at h
  exact ⟨⟨h.1, h.2.1⟩, fun e => h.2.2.1 e.symm, h.2.2.2⟩
set_option maxHeartbeats 16000000 in
theorem p8 (p : Pkt) (A : PAd) (bit : Int) (w : World) (hR : PktR w p A) (hI : PktI p) : CallsTo Try.prog 8 [p.val A, .int .i64 bit] w fun v w' => v = .bool true ∧ Grew w w' := by
  refine go_in (n := 68) (St.refl _ NoF) Try.func8 rfl rfl ?_
  cases hck : chkP p
  · have hpk : packP p = ([], 2) := by unfold packP; rw [hck]; rfl
    repeat'(first|(apply kB;(iterate 2 exact rfl);intro b1)|(apply kp;iterate 2 exact rfl)|apply jJ|(apply jE;exact rfl)|(apply jp;exact rfl)|(apply jc;kernel_rfl)|((first|apply kf|apply kn|apply ke|apply kx|apply kc|apply kb);iterate 2 exact rfl)|((first|apply kz|apply ky);(·exact rfl);(·repeat(first|exact iO|exact iR rfl|apply iT));iterate 2 exact rfl)|(apply kg;iterate 2 exact rfl)|(apply kG;iterate 3 exact rfl)|(apply kB;(iterate 2 exact rfl);intro _)|(apply kA;exact rfl;intro _)|(apply Go.Hb.kK;(iterate 4 exact rfl);intro _)|(apply kU;(iterate 2 exact rfl);(·repeat(first|exact sH _ _ _|apply sT));(first|exact nfL_eq rfl|exact rfl);exact rfl)|((first|apply kh|apply kl);(iterate 2 exact rfl);(first|decide|omega);exact rfl)|(apply kq; (· exact rfl); (· intro w1 h1; exact CallsTo.q (p29 w1) h1))|(apply LR.call; (· exact rfl); (intro w1 h1; refine CallsTo.mono (show CallsTo Try.prog 30 [p.val A] w1 (fun v w' => ∃ a' c', v = .tuple [.slice a' 0 c', .int .i64 2].toArray ∧ NewSl w1 w' (.slice a' 0 c') 5 1 0 (bv [])) from by (have hq := p30 p A w1 (hR.old h1) hI); rw [hpk] at hq; exact hq) ?_; rintro v w2 ⟨a2, c2, rfl, hn⟩; refine LR.back (h1.newSl hn) ?_; clear hn h1))|((first|(apply kR;iterate 2 exact rfl)|(apply kQ;exact rfl));all_goals(intro hc;try simp only[hcs]at hc;try(exfalso;first|contradiction|omega))))
    (apply ret1; (· exact rfl); intro w' hS)
    exact ⟨rfl, hS.toKeep⟩
  have hm := (chk_may hck).1
  have hup := unpack_pack hck
  have hpk : packP p = (sealL (bodyP p), 0) := by unfold packP; rw [hck]; rfl
  have hlb := body_byt hm hR.hdb
  have hsb := seal_byt hlb
  have hsl := sealL_len (bodyP p)
  have hturn := @open_turned (bodyP p)
  obtain ⟨L, hL⟩ : ∃ L, sealL (bodyP p) = L := ⟨_, rfl⟩
  rw [hL] at hup hpk hsb hsl
  have hLl := hup.2
  have hbd := bring_bd bit (8 * (L.length : Int)) (by omega)
  obtain ⟨qn, hqn⟩ := Int.eq_ofNat_of_zero_le hbd.1
  rw [hqn] at hbd
  have hj : qn / 8 < L.length := by omega
  have hr8 : qn % 8 < 8 := Nat.mod_lt _ (by omega)
  have htk := turn_ok (hsb _ (List.getElem_mem hj)) hr8
  have hset : (L.set (qn / 8) (turnB L[qn / 8] (qn % 8))).set (qn / 8) (turnB (turnB L[qn / 8] (qn % 8)) (qn % 8)) = L := by
    rw [htk.2.2, List.set_set]
    exact List.set_getElem_self hj
  obtain ⟨L2, hL2⟩ : ∃ l, L.set (qn / 8) (turnB L[qn / 8] (qn % 8)) = l := ⟨_, rfl⟩
  have hL2l : L2.length = L.length := by rw [← hL2, List.length_set]
  have hL2j : L2[qn / 8]'(by omega) = turnB L[qn / 8] (qn % 8) := by subst hL2; exact List.getElem_set_self _
  have hL2b : Byt L2 := by
    rw [← hL2]
    intro x hx
    rcases List.mem_or_eq_of_mem_set hx with h | rfl
    · exact hsb x h
    · exact htk.1
  have hun2 : unpackP L2 = (zPkt, 60) := by
    have ho : openL L2 = ([], 60) := by
      rw [← hL2]
      subst hL
      exact hturn hj hlb htk.1 htk.2.1
    unfold unpackP
    rw [if_neg (by omega), ho]
    simp only
    rw [if_pos (by decide)]
  have hj2 : qn / 8 < L2.length := by omega
  have hset2 : L2.set (qn / 8) (turnB L2[qn / 8] (qn % 8)) = L := by rw [hL2j, ← hL2]; exact hset
  have hne : bv L ≠ [] := fun e => by have := congrArg List.length e; simp [bv] at this; subst this; simp at hj
  repeat'(first|(apply kB;(iterate 2 exact rfl);intro b1)|(apply kp;iterate 2 exact rfl)|apply jJ|(apply jE;exact rfl)|(apply jp;exact rfl)|(apply jc;kernel_rfl)|((first|apply kf|apply kn|apply ke|apply kx|apply kc|apply kb);iterate 2 exact rfl)|((first|apply kz|apply ky);(·exact rfl);(·repeat(first|exact iO|exact iR rfl|apply iT));iterate 2 exact rfl)|(apply kg;iterate 2 exact rfl)|(apply kG;iterate 3 exact rfl)|(apply kB;(iterate 2 exact rfl);intro _)|(apply kA;exact rfl;intro _)|(apply Go.Hb.kK;(iterate 4 exact rfl);intro _)|(apply kU;(iterate 2 exact rfl);(·repeat(first|exact sH _ _ _|apply sT));(first|exact nfL_eq rfl|exact rfl);exact rfl)|((first|apply kh|apply kl);(iterate 2 exact rfl);(first|decide|omega);exact rfl)|(apply kq; (· exact rfl); (· intro w1 h1; exact CallsTo.q (p29 w1) h1))|((first|(apply kR;iterate 2 exact rfl)|(apply kQ;exact rfl));all_goals(intro hc;try simp only[hcs]at hc;try(exfalso;first|contradiction|omega))))
  apply LR.call
  · exact rfl
  intro w1 h1
  refine CallsTo.mono (show CallsTo Try.prog 30 [p.val A] w1 (fun v w' => ∃ a' c', v = .tuple [.slice a' L.length c', .int .i64 0].toArray ∧ NewSl w1 w' (.slice a' L.length c') 5 1 L.length (bv L)) from by (have hq := p30 p A w1 (hR.old h1) hI); rw [hpk] at hq; exact hq) ?_
  rintro v w2 ⟨a1, c1, rfl, hn⟩
  have ca1 := ownsRow_cap hn.own
  obtain ⟨bx, ox, rfl⟩ := (ownsRow_rd (ownsRow_zero hn.own)).form hne
  refine LR.back (h1.newSl hn) ?_
  clear hn h1
  repeat'(first|(apply CW.reg_sinkC 13; (· exact rfl); (· decide +kernel))|(apply kp;iterate 2 exact rfl)|apply jJ|(apply jE;exact rfl)|(apply jp;exact rfl)|(apply jc;kernel_rfl)|((first|apply kf|apply kn|apply ke|apply kx|apply kc|apply kb);iterate 2 exact rfl)|((first|apply kz|apply ky);(·exact rfl);(·repeat(first|exact iO|exact iR rfl|apply iT));iterate 2 exact rfl)|(apply kg;iterate 2 exact rfl)|(apply kG;iterate 3 exact rfl)|(apply kB;(iterate 2 exact rfl);intro _)|(apply kA;exact rfl;intro _)|(apply Go.Hb.kK;(iterate 4 exact rfl);intro _)|(apply kU;(iterate 2 exact rfl);(·repeat(first|exact sH _ _ _|apply sT));(first|exact nfL_eq rfl|exact rfl);exact rfl)|((first|apply kh|apply kl);(iterate 2 exact rfl);(first|decide|omega);exact rfl)|(apply mulX;(iterate 2 exact rfl);(iterate 2(first|omega|(dsimp only;omega)));exact rfl)|(apply kq; (· exact rfl); (· intro w1 h1; have hq := CallsTo.q (show CallsTo Try.prog 19 [.int .i64 bit, .int .i64 (8 * (L.length : Int))] w1 _ from c31 bit (8 * (L.length : Int)) w1 (by omega)) h1; rw [hqn] at hq; exact hq))|((first|(apply kR;iterate 2 exact rfl)|(apply kQ;exact rfl));all_goals(intro hc;try simp only[hcs]at hc;try(exfalso;first|contradiction|omega))))
  all_goals (
    apply DW.quiet [0, 1, 2, 3, 4, 5, 6, 7, 8, 9, 10, 11, 12]
    · decide +kernel
    · first | exact fun _ h => h | exact fun _ h => St.sub h (by repeat (first | exact List.Sublist.refl _ | apply List.Sublist.cons_cons | apply List.Sublist.cons))
    repeat'(first|(apply yp;iterate 3 exact rfl)|(apply QL.ev;(·exact rfl);(·first|((first|apply Ez|apply Ey);(·exact rfl);(·repeat(first|exact iO|exact iR rfl|apply iT));exact rfl)|((first|apply Ev.fieldAddr|apply Ev.len|apply EqOf.eq|apply EqOf.ne|apply Ev.conv|apply Ev.buildN);exact rfl)|((first|apply Ev.shr|apply Ev.shl);(iterate 2 exact rfl);first|decide|omega));·exact rfl)|(apply QL.ev; (· exact rfl); (· first | (apply quoQ (a := qn) (b := 8) (q := qn / 8) rfl; (· exact rfl); (· exact rfl); (· omega); (· omega)) | (apply remQ (a := qn) (b := 8) (q := qn % 8) rfl; (· exact rfl); (· exact rfl); (· omega)) | (apply Ev.indexAddr; (· exact rfl); (· exact rfl); (· omega); (· omega)) | (apply Ev.load_osl; (· exact rfl); (· (repeat (first | exact mH _ _ | apply mT))); (· exact bv_at (l := L) (i := qn / 8) (by first | omega | (simp; omega)) (by omega))) | (apply Ev.xor; (· exact rfl); (· exact rfl))); (· exact rfl))|(apply yq;iterate 5 exact rfl)|(apply QL.evg;(iterate 3 exact rfl);(·first|((first|apply Ez|apply Ey);(·exact rfl);(·repeat(first|exact iO|exact iR rfl|apply iT));exact rfl)|((first|apply Ev.fieldAddr|apply Ev.len|apply EqOf.eq|apply EqOf.ne|apply Ev.conv|apply Ev.buildN);exact rfl)|((first|apply Ev.shr|apply Ev.shl);(iterate 2 exact rfl);first|decide|omega));·exact rfl)|(apply yn;iterate 4 exact rfl)|((apply QL.split;iterate 3 exact rfl);all_goals(intro hc;try simp only[hcs]at hc;try(exfalso;first|contradiction|omega)))|apply QL.nil)
    all_goals (show DW _ _ _ _ _ _ _ _))
  all_goals (apply DW.done; (· decide +kernel))
  all_goals apply At.sink
  refine LR.store_obj (v := .int .u8 (turnB L[qn / 8] (qn % 8))) (z := osl (.slice (some ⟨bx, ox, none⟩) L.length c1) 5 1 L.length (bv L)) (z' := osl (.slice (some ⟨bx, ox, none⟩) L.length c1) 5 1 L.length (bv L2)) rfl rfl (by (repeat (first | exact sH _ _ _ | apply sT))) rfl ?_ (osl.dep _ _ _ _ _) ?_
  · have st := Stores.osl (P := Try.prog) (T := 5) (q := 1) (b := bx) (o := ox) (i := ((qn / 8 : Nat) : Int).toNat * 1) (n := L.length) (c := c1) (v := .int .u8 (turnB L[qn / 8] (qn % 8))) (vs := [.int .u8 (turnB L[qn / 8] (qn % 8))]) (xs := bv L) (E := 5) (sz := 1) inferInstance rfl rfl rfl (by simp; omega)
    rw [show ((qn / 8 : Nat) : Int).toNat * 1 = qn / 8 by omega] at st ⊢
    rw [splice_bv _ _ _ (by omega)] at st
    rw [hL2] at st
    exact st
  repeat'(first|(apply kp;iterate 2 exact rfl)|apply jJ|(apply jE;exact rfl)|(apply jp;exact rfl)|(apply jc;kernel_rfl)|((first|apply kf|apply kn|apply ke|apply kx|apply kc|apply kb);iterate 2 exact rfl)|((first|apply kz|apply ky);(·exact rfl);(·repeat(first|exact iO|exact iR rfl|apply iT));iterate 2 exact rfl)|(apply kg;iterate 2 exact rfl)|(apply kG;iterate 3 exact rfl)|(apply kB;(iterate 2 exact rfl);intro _)|(apply kA;exact rfl;intro _)|(apply Go.Hb.kK;(iterate 4 exact rfl);intro _)|(apply kU;(iterate 2 exact rfl);(·repeat(first|exact sH _ _ _|apply sT));(first|exact nfL_eq rfl|exact rfl);exact rfl)|((first|apply kh|apply kl);(iterate 2 exact rfl);(first|decide|omega);exact rfl)|((first|(apply kR;iterate 2 exact rfl)|(apply kQ;exact rfl));all_goals(intro hc;try simp only[hcs]at hc;try(exfalso;first|contradiction|omega))))
  apply LR.call
  · exact rfl
  intro w1 h1
  refine CallsTo.mono (show CallsTo Try.prog 32 [.slice (some ⟨bx, ox, none⟩) L.length c1] w1 (fun v w' => UnpP (zPkt, 60) v w1 w') from by (have hq := p32 (some ⟨bx, ox, none⟩) c1 L2 w1 (ownsRow_rd (h1.holds (osl (.slice (some ⟨bx, ox, none⟩) L.length c1) 5 1 L.length (bv L2)) (by (repeat (first | exact mH _ _ | apply mT))))) hL2b (fun e => by cases e) (by omega) (by omega)); rw [hun2, hL2l] at hq; exact hq) ?_
  rintro v w2 ⟨A7, X7, hv, hn, hXd7, hXe7, hX7⟩
  subst hv
  refine LR.back (h1.got hn hXd7) ?_
  clear hn h1
  repeat'(first|(apply CW.reg_sinkC 13; (· exact rfl); (· decide +kernel))|(apply kp;iterate 2 exact rfl)|apply jJ|(apply jE;exact rfl)|(apply jp;exact rfl)|(apply jc;kernel_rfl)|((first|apply kf|apply kn|apply ke|apply kx|apply kc|apply kb);iterate 2 exact rfl)|((first|apply kz|apply ky);(·exact rfl);(·repeat(first|exact iO|exact iR rfl|apply iT));iterate 2 exact rfl)|(apply kg;iterate 2 exact rfl)|(apply kG;iterate 3 exact rfl)|(apply kB;(iterate 2 exact rfl);intro _)|(apply kA;exact rfl;intro _)|(apply Go.Hb.kK;(iterate 4 exact rfl);intro _)|(apply kU;(iterate 2 exact rfl);(·repeat(first|exact sH _ _ _|apply sT));(first|exact nfL_eq rfl|exact rfl);exact rfl)|((first|apply kh|apply kl);(iterate 2 exact rfl);(first|decide|omega);exact rfl)|((first|(apply kR;iterate 2 exact rfl)|(apply kQ;exact rfl));all_goals(intro hc;try simp only[hcs]at hc;try(exfalso;first|contradiction|omega))))
  all_goals (
    apply DW.quiet [0, 1, 2, 3, 4, 5, 6, 7, 8, 9, 10, 11, 12]
    · decide +kernel
    · first | exact fun _ h => h | exact fun _ h => St.sub h (by repeat (first | exact List.Sublist.refl _ | apply List.Sublist.cons_cons | apply List.Sublist.cons))
    repeat'(first|(apply yp;iterate 3 exact rfl)|(apply QL.ev;(·exact rfl);(·first|((first|apply Ez|apply Ey);(·exact rfl);(·repeat(first|exact iO|exact iR rfl|apply iT));exact rfl)|((first|apply Ev.fieldAddr|apply Ev.len|apply EqOf.eq|apply EqOf.ne|apply Ev.conv|apply Ev.buildN);exact rfl)|((first|apply Ev.shr|apply Ev.shl);(iterate 2 exact rfl);first|decide|omega));·exact rfl)|(apply QL.ev; (· exact rfl); (· first | (apply quoQ (a := qn) (b := 8) (q := qn / 8) rfl; (· exact rfl); (· exact rfl); (· omega); (· omega)) | (apply remQ (a := qn) (b := 8) (q := qn % 8) rfl; (· exact rfl); (· exact rfl); (· omega)) | (apply Ev.indexAddr; (· exact rfl); (· exact rfl); (· omega); (· omega)) | (apply Ev.load_osl; (· exact rfl); (· (repeat (first | exact mH _ _ | apply mT))); (· exact bv_at (l := L2) (i := qn / 8) (by first | omega | (simp; omega)) (by omega))) | (apply Ev.xor; (· exact rfl); (· exact rfl))); (· exact rfl))|(apply yq;iterate 5 exact rfl)|(apply QL.evg;(iterate 3 exact rfl);(·first|((first|apply Ez|apply Ey);(·exact rfl);(·repeat(first|exact iO|exact iR rfl|apply iT));exact rfl)|((first|apply Ev.fieldAddr|apply Ev.len|apply EqOf.eq|apply EqOf.ne|apply Ev.conv|apply Ev.buildN);exact rfl)|((first|apply Ev.shr|apply Ev.shl);(iterate 2 exact rfl);first|decide|omega));·exact rfl)|(apply yn;iterate 4 exact rfl)|((apply QL.split;iterate 3 exact rfl);all_goals(intro hc;try simp only[hcs]at hc;try(exfalso;first|contradiction|omega)))|apply QL.nil)
    all_goals (show DW _ _ _ _ _ _ _ _))
  all_goals (apply DW.done; (· decide +kernel))
  all_goals apply At.sink
  refine LR.store_obj (v := .int .u8 (turnB L2[qn / 8] (qn % 8))) (z := osl (.slice (some ⟨bx, ox, none⟩) L.length c1) 5 1 L.length (bv L2)) (z' := osl (.slice (some ⟨bx, ox, none⟩) L.length c1) 5 1 L.length (bv L)) rfl rfl (by (repeat (first | exact sH _ _ _ | apply sT))) rfl ?_ (osl.dep _ _ _ _ _) ?_
  · have st := Stores.osl (P := Try.prog) (T := 5) (q := 1) (b := bx) (o := ox) (i := ((qn / 8 : Nat) : Int).toNat * 1) (n := L.length) (c := c1) (v := .int .u8 (turnB L2[qn / 8] (qn % 8))) (vs := [.int .u8 (turnB L2[qn / 8] (qn % 8))]) (xs := bv L2) (E := 5) (sz := 1) inferInstance rfl rfl rfl (by simp; omega)
    rw [show ((qn / 8 : Nat) : Int).toNat * 1 = qn / 8 by omega] at st ⊢
    rw [splice_bv _ _ _ (by omega)] at st
    rw [hset2] at st
    exact st
  repeat'(first|(apply kp;iterate 2 exact rfl)|apply jJ|(apply jE;exact rfl)|(apply jp;exact rfl)|(apply jc;kernel_rfl)|((first|apply kf|apply kn|apply ke|apply kx|apply kc|apply kb);iterate 2 exact rfl)|((first|apply kz|apply ky);(·exact rfl);(·repeat(first|exact iO|exact iR rfl|apply iT));iterate 2 exact rfl)|(apply kg;iterate 2 exact rfl)|(apply kG;iterate 3 exact rfl)|(apply kB;(iterate 2 exact rfl);intro _)|(apply kA;exact rfl;intro _)|(apply Go.Hb.kK;(iterate 4 exact rfl);intro _)|(apply kU;(iterate 2 exact rfl);(·repeat(first|exact sH _ _ _|apply sT));(first|exact nfL_eq rfl|exact rfl);exact rfl)|((first|apply kh|apply kl);(iterate 2 exact rfl);(first|decide|omega);exact rfl)|((first|(apply kR;iterate 2 exact rfl)|(apply kQ;exact rfl));all_goals(intro hc;try simp only[hcs]at hc;try(exfalso;first|contradiction|omega))))
  apply LR.call
  · exact rfl
  intro w1 h1
  refine CallsTo.mono (show CallsTo Try.prog 32 [.slice (some ⟨bx, ox, none⟩) L.length c1] w1 (fun v w' => UnpP (p, 0) v w1 w') from by (have hq := p32 (some ⟨bx, ox, none⟩) c1 L w1 (ownsRow_rd (h1.holds (osl (.slice (some ⟨bx, ox, none⟩) L.length c1) 5 1 L.length (bv L)) (by (repeat (first | exact mH _ _ | apply mT))))) hsb (fun e => by cases e) (by omega) (by omega)); rw [hup.1] at hq; exact hq) ?_
  rintro v w2 ⟨A9, X9, hv, hn, hXd9, hXe9, hX9⟩
  subst hv
  refine LR.back (h1.got hn hXd9) ?_
  clear hn h1
  repeat'(first|(apply kp;iterate 2 exact rfl)|apply jJ|(apply jE;exact rfl)|(apply jp;exact rfl)|(apply jc;kernel_rfl)|((first|apply kf|apply kn|apply ke|apply kx|apply kc|apply kb);iterate 2 exact rfl)|((first|apply kz|apply ky);(·exact rfl);(·repeat(first|exact iO|exact iR rfl|apply iT));iterate 2 exact rfl)|(apply kg;iterate 2 exact rfl)|(apply kG;iterate 3 exact rfl)|(apply kB;(iterate 2 exact rfl);intro _)|(apply kA;exact rfl;intro _)|(apply Go.Hb.kK;(iterate 4 exact rfl);intro _)|(apply kU;(iterate 2 exact rfl);(·repeat(first|exact sH _ _ _|apply sT));(first|exact nfL_eq rfl|exact rfl);exact rfl)|((first|apply kh|apply kl);(iterate 2 exact rfl);(first|decide|omega);exact rfl)|((first|(apply kR;iterate 2 exact rfl)|(apply kQ;exact rfl));all_goals(intro hc;try simp only[hcs]at hc;try(exfalso;first|contradiction|omega))))
  (apply ret1; (· exact rfl); intro w' hS)
  exact ⟨rfl, hS.toKeep⟩
end Go.Proofs.Ytkolmkdbjagfcaa

namespace Go.Proofs.Ytkolmkdbjagfcaa
open Go.Hb
attribute [local irreducible] LR CW At Ev thn blk finK noG again CallsTo
set_option linter.unusedSimpArgs false
set_option linter.unusedVariables false
set_option maxRecDepth 100000

def rmay (s r : Int) : Bool := !(decide (s = 0 ∧ r = 0)) && ringB s r
structure Tk where
  r1 : Int
  r2 : Int
  hop : Int
  seq : Int
  aru : Int
  low : Int
  stamp : Int
  idle : Int
  ask : List Int
deriving DecidableEq
def Tk.cells (t : Tk) (a : Option Addr) (c : Nat) : List Value := [.int .i64 t.r1, .int .i64 t.r2, .int .i64 t.hop, .int .i64 t.seq, .int .i64 t.aru, .int .i64 t.low, .int .i64 t.stamp, .int .i64 t.idle, .slice a t.ask.length c]
def Tk.val (t : Tk) (a : Option Addr) (c : Nat) : Value := .agg (t.cells a c).toArray
def noTk : Tk := ⟨0, 0, 0, 0, 0, 0, 0, 0, []⟩
def Tk.headB (t : Tk) : Bool := rmay t.r1 t.r2 && withinB t.hop 1 9007199254740991 && withinB t.seq 0 9007199254740991 && withinB t.aru 0 t.seq && withinB t.low 0 8 && withinB t.stamp 0 9007199254740991 && withinB t.idle 0 9007199254740991 && decide (t.ask.length ≤ 16)
def askB (q : Int) : Int → List Int → Bool
  | _, [] => true
  | z, x :: l => withinB x (z + 1) q && askB q x l
def lastI (z : Int) (l : List Int) : Int := l.getLastD z
theorem askB_snoc (q : Int) : ∀ (l : List Int) (z x : Int), askB q z (l ++ [x]) = (askB q z l && withinB x (lastI z l + 1) q)
  | [], z, x => by simp [askB, lastI]
  | y :: l, z, x => by
    rw [List.cons_append, askB, askB, askB_snoc q l y x, Bool.and_assoc]
    congr 3
    unfold lastI
    cases l <;> simp [List.getLastD]
theorem askB_last (q : Int) : ∀ (l : List Int) (z : Int), askB q z l = true → z ≤ lastI z l ∧ (l ≠ [] → lastI z l ≤ q)
  | [], z, _ => ⟨by simp [lastI], fun h => absurd rfl h⟩
  | y :: l, z, h => by
    rw [askB, Bool.and_eq_true] at h
    have h1 := h.1
    unfold withinB at h1
    simp only [Bool.and_eq_true, decide_eq_true_eq] at h1
    have h2 := askB_last q l y h.2
    have e : lastI z (y :: l) = lastI y l := by unfold lastI; cases l <;> simp [List.getLastD]
    rw [e]
    refine ⟨by omega, fun _ => ?_⟩
    by_cases hl : l = []
    · subst hl; simp [lastI]; omega
    · exact h2.2 hl
def tokB (t : Tk) : Bool := t.headB && askB t.seq 0 t.ask
def tokE (t : Tk) : Int := if tokB t then 0 else 2
def mayAt (t : Tk) (i : Nat) : Bool := t.headB && askB t.seq 0 (t.ask.take i)
def lastAt (t : Tk) (i : Nat) : Int := lastI 0 (t.ask.take i)
theorem lastAt_bd {t : Tk} {i : Nat} (h : mayAt t i = true) : 0 ≤ lastAt t i ∧ lastAt t i ≤ 9007199254740991 := by
  unfold mayAt at h
  rw [Bool.and_eq_true] at h
  have h2 := askB_last t.seq _ 0 h.2
  have h1 := h.1
  unfold Tk.headB withinB at h1
  simp only [Bool.and_eq_true, decide_eq_true_eq] at h1
  unfold lastAt
  by_cases hl : t.ask.take i = []
  · rw [hl]; simp [lastI]
  · have := h2.2 hl; omega
theorem mayAt_succ {t : Tk} {i : Nat} (h : i < t.ask.length) : mayAt t (i + 1) = (mayAt t i && withinB t.ask[i] (lastAt t i + 1) t.seq) := by
  unfold mayAt lastAt
  rw [List.take_add_one, List.getElem?_eq_getElem h, Option.toList_some, askB_snoc, Bool.and_assoc]
theorem lastAt_succ {t : Tk} {i : Nat} (h : i < t.ask.length) : lastAt t (i + 1) = t.ask[i] := by
  unfold lastAt lastI
  rw [List.take_add_one, List.getElem?_eq_getElem h, Option.toList_some, List.getLastD_eq_getLast?, List.getLast?_append]
  simp
end Go.Proofs.Ytkolmkdbjagfcaa

namespace Go.Proofs.Ytkolmkdbjagfcaa
open Go.Hb
attribute [local irreducible] LR CW At Ev thn blk finK noG again CallsTo
set_option linter.unusedSimpArgs false
set_option linter.unusedVariables false
set_option maxRecDepth 100000

abbrev il (a : Option Addr) (c : Nat) (l : List Int) : Asrt := osl (.slice a l.length c) 3 1 l.length (iv l)
abbrev idl (a : Option Addr) (c : Nat) (l : List Int) : Asrt := odl (.slice a l.length c) 3 1 l.length (iv l)
theorem iv1 (l : List Int) : (iv l).all Value.oneCell' = true := by simp [iv, Value.oneCell']
theorem rd_none0 {w : World} {a : Option Addr} {l : List Int} (hr : Rd w a (iv l)) (h : a = none) : l.length = 0 := by
  subst h
  cases l with
  | nil => rfl
  | cons x t =>
    obtain ⟨ad, he, _⟩ := hr 0 _ rfl
    cases he
theorem take_succ_eq' {l r : List Int} {i : Nat} (h : i < l.length) (hr : i < r.length) (he : l.take i = r.take i) (hx : l[i] = r[i]) : l.take (i + 1) = r.take (i + 1) := by
  rw [List.take_add_one, List.take_add_one, List.getElem?_eq_getElem h, List.getElem?_eq_getElem hr, he, hx]
theorem t19 (a b : Option Addr) (ca cb : Nat) (la lb : List Int) (w : World) (ha : Rd w a (iv la)) (hb : Rd w b (iv lb)) (hm : la.length ≤ 17592186043904) :
    CallsTo Try.prog 27 [.slice a la.length ca, .slice b lb.length cb] w fun v w' => v = .bool (decide (la = lb)) ∧ Grew w w' := by
  refine go_in (n := 26) (St.rd2 ha hb) Try.func27 rfl rfl ?_
  repeat'(first|(apply kp;iterate 2 exact rfl)|apply jJ|(apply jE;exact rfl)|(apply jp;exact rfl)|(apply jc;kernel_rfl)|((first|apply kf|apply kn|apply ke|apply kx|apply kc|apply kb);iterate 2 exact rfl)|((first|apply kz|apply ky);(·exact rfl);(·repeat(first|exact iO|exact iR rfl|apply iT));iterate 2 exact rfl)|(apply kg;iterate 2 exact rfl)|(apply kG;iterate 3 exact rfl)|(apply kB;(iterate 2 exact rfl);intro _)|(apply kA;exact rfl;intro _)|(apply Go.Hb.kK;(iterate 4 exact rfl);intro _)|(apply kU;(iterate 2 exact rfl);(·repeat(first|exact sH _ _ _|apply sT));(first|exact nfL_eq rfl|exact rfl);exact rfl)|((first|apply kh|apply kl);(iterate 2 exact rfl);(first|decide|omega);exact rfl)|((first|(apply kR;iterate 2 exact rfl)|(apply kQ;exact rfl));all_goals(intro hc;try simp only[hcs]at hc;try(exfalso;first|contradiction|omega))))
  · (apply ret1; (· exact rfl); intro w' hS)
    refine ⟨congrArg Value.bool ?_, hS.toKeep⟩
    have : la ≠ lb := fun e => by subst e; simp at hc
    simp [this]
  · apply CW.loop [4, 5, 11, 12, 13, 14, 15, 16, 17, 18, 19, 20, 21, 22, 23, 24, 25] (fun i : Nat => i ≤ la.length ∧ la.take i = lb.take i) (fun i : Nat => [(5, Value.int .i64 i)]) (fun i => St w NoF [rdA a (iv la), rdA b (iv lb)]) (fun i => la.length - i)
    · exact fun w' hw' => ⟨0, ⟨by omega, by simp⟩, ⟨rfl, trivial⟩, hw'⟩
    intro i g ⟨hi, heq⟩
    by_cases hlt : i < la.length
    · obtain ⟨ba, oa, rfl⟩ := ha.form (fun e => by have := congrArg List.length e; simp at this; subst this; simp at hlt)
      obtain ⟨bb, ob, rfl⟩ := hb.form (fun e => by have := congrArg List.length e; simp at this; subst this; simp at hc; simp [hc] at hlt)
      have hlb : i < lb.length := by omega
      repeat'(first|(apply kp;iterate 2 exact rfl)|apply jJ|(apply jE;exact rfl)|(apply jp;exact rfl)|(apply jc;kernel_rfl)|((first|apply kf|apply kn|apply ke|apply kx|apply kc|apply kb);iterate 2 exact rfl)|((first|apply kz|apply ky);(·exact rfl);(·repeat(first|exact iO|exact iR rfl|apply iT));iterate 2 exact rfl)|(apply kg;iterate 2 exact rfl)|(apply kG;iterate 3 exact rfl)|(apply kB;(iterate 2 exact rfl);intro _)|(apply kA;exact rfl;intro _)|(apply Go.Hb.kK;(iterate 4 exact rfl);intro _)|(apply kU;(iterate 2 exact rfl);(·repeat(first|exact sH _ _ _|apply sT));(first|exact nfL_eq rfl|exact rfl);exact rfl)|((first|apply kh|apply kl);(iterate 2 exact rfl);(first|decide|omega);exact rfl)|(apply idxX;(iterate 2 exact rfl);(iterate 2(first|omega|(dsimp only;omega)));exact rfl)|(apply LR.ev; (· apply Ev.load_rd; (· exact rfl); (· repeat (first | exact mH _ _ | apply mT)); (· exact iv_at (i := i) (by simp) (by omega))); (· exact rfl))|(apply addX;(iterate 2 exact rfl);(iterate 2(first|omega|(dsimp only;omega)));exact rfl)|((first|(apply kR;iterate 2 exact rfl)|(apply kQ;exact rfl));all_goals(intro hc;try simp only[hcs]at hc;try(exfalso;first|contradiction|omega))))
      · (apply ret1; (· exact rfl); intro w' hS)
        refine ⟨congrArg Value.bool ?_, hS.toKeep⟩
        have : la ≠ lb := fun e => by subst e; simp_all
        simp [this]
      · apply At.again (i + 1) ⟨by omega, take_succ_eq' hlt hlb heq (by simpa using ‹_›)⟩
        · (repeat (first | exact Out.refl _ _ | exact Out.mix | (apply Out.upd; (· exact rfl)) | (apply Out.updL; (· exact rfl)) | (apply Out.mixs; (· exact rfl))))
        · exact ⟨rfl, trivial⟩
        · exact fun w' hw' => hw'
        · omega
    · have hie : i = la.length := by omega
      subst hie
      repeat'(first|(apply kp;iterate 2 exact rfl)|apply jJ|(apply jE;exact rfl)|(apply jp;exact rfl)|(apply jc;kernel_rfl)|((first|apply kf|apply kn|apply ke|apply kx|apply kc|apply kb);iterate 2 exact rfl)|((first|apply kz|apply ky);(·exact rfl);(·repeat(first|exact iO|exact iR rfl|apply iT));iterate 2 exact rfl)|(apply kg;iterate 2 exact rfl)|(apply kG;iterate 3 exact rfl)|(apply kB;(iterate 2 exact rfl);intro _)|(apply kA;exact rfl;intro _)|(apply Go.Hb.kK;(iterate 4 exact rfl);intro _)|(apply kU;(iterate 2 exact rfl);(·repeat(first|exact sH _ _ _|apply sT));(first|exact nfL_eq rfl|exact rfl);exact rfl)|((first|apply kh|apply kl);(iterate 2 exact rfl);(first|decide|omega);exact rfl)|((first|(apply kR;iterate 2 exact rfl)|(apply kQ;exact rfl));all_goals(intro hc;try simp only[hcs]at hc;try(exfalso;first|contradiction|omega))))
      (apply ret1; (· exact rfl); intro w' hS)
      refine ⟨congrArg Value.bool ?_, hS.toKeep⟩
      have hl : la.length = lb.length := by omega
      rw [List.take_length, hl, List.take_length] at heq
      simp [heq]
def newTk (r1 r2 s : Int) : Tk × Int := if rmay r1 r2 && withinB s 0 9007199254740991 then (⟨r1, r2, 1, 0, 0, 0, s, 0, []⟩, 0) else (noTk, 2)
end Go.Proofs.Ytkolmkdbjagfcaa

namespace Go.Proofs
open Go.Shelf
def Try.lays189_ren : Go.Shelf.Ren := ⟨fun | 189 => 105 | 125 => 122 | 257 => 121 | 128 => 140 | 129 => 141 | 294 => 131 | 295 => 132 | 296 => 133 | 297 => 134 | 298 => 135 | 299 => 136 | 216 => 137 | 300 => 138 | 301 => 139 | 328 => 144 | 329 => 145 | 330 => 146 | 331 => 147 | 332 => 148 | 215 => 119 | 343 => 150 | n => n, fun | 28 => 55 | 3 => 3 | 46 => 110 | 0 => 0 | 51 => 134 | 53 => 199 | 4 => 4 | 183 => 206 | 182 => 205 | 131 => 210 | 5 => 5 | 9 => 9 | 218 => 217 | 222 => 152 | 228 => 226 | 229 => 227 | n => n, fun | n => n⟩
theorem Try.lays189 : Go.Proofs.Lays.n189 Try.prog Try.lays189_ren := {
  mixed := by kernel_rfl
  f125 := Try.func122.trans (congrArg some (by kernel_rfl))
  f128 := Try.func140.trans (congrArg some (by kernel_rfl))
  f129 := Try.func141.trans (congrArg some (by kernel_rfl))
  f189 := Try.func105.trans (congrArg some (by kernel_rfl))
  f215 := Try.func119.trans (congrArg some (by kernel_rfl))
  f216 := Try.func137.trans (congrArg some (by kernel_rfl))
  f257 := Try.func121.trans (congrArg some (by kernel_rfl))
  f294 := Try.func131.trans (congrArg some (by kernel_rfl))
  f295 := Try.func132.trans (congrArg some (by kernel_rfl))
  f296 := Try.func133.trans (congrArg some (by kernel_rfl))
  f297 := Try.func134.trans (congrArg some (by kernel_rfl))
  f298 := Try.func135.trans (congrArg some (by kernel_rfl))
  f299 := Try.func136.trans (congrArg some (by kernel_rfl))
  f300 := Try.func138.trans (congrArg some (by kernel_rfl))
  f301 := Try.func139.trans (congrArg some (by kernel_rfl))
  f328 := Try.func144.trans (congrArg some (by kernel_rfl))
  f329 := Try.func145.trans (congrArg some (by kernel_rfl))
  f330 := Try.func146.trans (congrArg some (by kernel_rfl))
  f331 := Try.func147.trans (congrArg some (by kernel_rfl))
  f332 := Try.func148.trans (congrArg some (by kernel_rfl))
  f343 := Try.func150.trans (congrArg some (by kernel_rfl))
  t0 := Try.underlying0
  a0 := Try.isAgg0
  z0 := Try.sizeOf0
  v0 := Try.zeroValue0
  t3 := Try.underlying3
  a3 := Try.isAgg3
  z3 := Try.sizeOf3
  v3 := Try.zeroValue3
  t4 := Try.underlying4
  a4 := Try.isAgg4
  z4 := Try.sizeOf4
  v4 := Try.zeroValue4
  t5 := Try.underlying5
  a5 := Try.isAgg5
  z5 := Try.sizeOf5
  v5 := Try.zeroValue5
  t9 := Try.underlying9
  a9 := Try.isAgg9
  z9 := Try.sizeOf9
  v9 := Try.zeroValue9
  t28 := Try.underlying55
  a28 := Try.isAgg55
  z28 := Try.sizeOf55
  v28 := Try.zeroValue55
  t46 := Try.underlying110
  a46 := Try.isAgg110
  z46 := Try.sizeOf110
  v46 := Try.zeroValue110
  t51 := Try.underlying134
  a51 := Try.isAgg134
  z51 := Try.sizeOf134
  v51 := Try.zeroValue134
  t53 := Try.underlying199
  a53 := Try.isAgg199
  z53 := Try.sizeOf199
  v53 := Try.zeroValue199
  t131 := Try.underlying210
  a131 := Try.isAgg210
  z131 := Try.sizeOf210
  v131 := Try.zeroValue210
  t182 := Try.underlying205
  a182 := Try.isAgg205
  z182 := Try.sizeOf205
  v182 := Try.zeroValue205
  t183 := Try.underlying206
  a183 := Try.isAgg206
  z183 := Try.sizeOf206
  v183 := Try.zeroValue206
  t218 := Try.underlying217
  a218 := Try.isAgg217
  z218 := Try.sizeOf217
  v218 := Try.zeroValue217
  t222 := Try.underlying152
  a222 := Try.isAgg152
  z222 := Try.sizeOf152
  v222 := Try.zeroValue152
  t228 := Try.underlying226
  a228 := Try.isAgg226
  z228 := Try.sizeOf226
  v228 := Try.zeroValue226
  t229 := Try.underlying227
  a229 := Try.isAgg227
  z229 := Try.sizeOf227
  v229 := Try.zeroValue227 }
open Go.Sort Go.RowKit in
theorem Try.slices_Sort_int (blk off cap : Nat) (zs : List Int) (w : World) (hH : Holds (Value.int .i64) w blk off zs.toArray) (hblk : blk < w.heap.size) (hsz : zs.length < 4611686018427387904) :
    Calls Try.prog 105 #[.slice (some ⟨blk, off, none⟩) zs.length cap] w fun e w' =>
      e = .returned (.tuple #[]) ∧ ∃ n os, w' = grow (putRow (Value.int .i64) (Sort.ahead w n) blk off (zs.mergeSort fun x y => decide (x ≤ y)).toArray) os := Any.slices_Sort_int Try.lays189 blk off cap zs w hH hblk hsz
theorem Try.slices_Sort_int_none (p : Option Addr) (cap : Nat) (w : World) :
    Calls Try.prog 105 #[.slice p 0 cap] w fun e w' => e = .returned (.tuple #[]) ∧ w' = w := Any.slices_Sort_int_none Try.lays189 p cap w
end Go.Proofs

namespace Go.Proofs.Ytkolmkdbjagfcaa
open Go.Hb
attribute [local irreducible] LR CW At Ev thn blk finK noG again CallsTo
set_option linter.unusedSimpArgs false
set_option linter.unusedVariables false
set_option maxRecDepth 100000

def sortI (l : List Int) : List Int := l.mergeSort fun x y => decide (x ≤ y)
theorem sortI_len (l : List Int) : (sortI l).length = l.length := List.length_mergeSort ..
theorem compact_len (l : List Int) : (Lib.compact l).length ≤ l.length := by
  unfold Lib.compact Lib.compactUpTo
  rw [List.length_map]
  refine Nat.le_trans (List.length_filter_le _ _) ?_
  simp
theorem callsTo_of {P : Program} {g : FuncId} {args : List Value} {w : World} {R : Ending → World → Prop} {K : Value → World → Prop} (h : Calls P g args.toArray w R) (hk : ∀ e w', R e w' → ∃ v, e = .returned v ∧ K v w') : CallsTo P g args w K :=
  by unfold CallsTo; exact Calls.mono h hk
theorem il_stay {w : World} {a : Option Addr} {c : Nat} {l : List Int} (h : w.ownsRow 0 3 1 (.slice a l.length c) l.length (iv l)) : Step (il a c l) (il a c l) w w :=
  ⟨St.refl w _, h, fun _ hk => .inl hk⟩
theorem t53 (a : Option Addr) (c : Nat) (l : List Int) (w : World) (h : w.ownsRow 0 3 1 (.slice a l.length c) l.length (iv l)) (hm : l.length ≤ 140737488355328) :
    CallsTo Try.prog 105 [.slice a l.length c] w fun v w' => v = .tuple #[] ∧ Step (il a c l) (il a c (sortI l)) w w' := by
  by_cases hl : l = []
  · subst hl
    refine callsTo_of (Try.slices_Sort_int_none a c w) ?_
    rintro e w' ⟨rfl, rfl⟩
    exact ⟨_, rfl, rfl, by simpa [sortI] using il_stay h⟩
  · rcases h.2 with ⟨he, hn⟩ | ⟨g, cap, cur, he, hb, hg, h1, h2, h3, h4⟩
    · exact absurd (List.eq_nil_of_length_eq_zero hn) hl
    simp only [Value.slice.injEq, true_and] at he
    obtain ⟨rfl, rfl⟩ := he
    rw [Nat.mul_one] at h4
    refine callsTo_of (Try.slices_Sort_int g 0 c l w (holds_of_blockI hg h4) ((Array.getElem?_eq_some_iff.1 hg).1) (by omega)) ?_
    rintro e w' ⟨rfl, n, os, rfl⟩
    refine ⟨_, rfl, rfl, keep_of_grown (grownBy_sortedI _) (fun k hk => ?_), ?_, fun k hk => .inl hk⟩
    · cases hk; exact rfl
    · have := ownsRow_sortedI (base := 0) (n := n) (os := os) (sortI_len l) (Nat.zero_le _) hg h1 h2 h3
      show World.ownsRow _ _ _ _ _ _ _
      rw [sortI_len]
      exact this
/-- l[:k:k] -/
theorem Ev.slice_cut {P : Program} {f : Frm} {T T' E : TypeId} {x y z : Operand} {C : World → Prop} {sz by_ k c j : Nat} {a : Option Addr} [h : SliceOf P T E sz by_] (hx : f.ev x = .slice a k c) (hy : f.ev y = .int .i64 (j : Int)) (hz : f.ev z = .int .i64 (j : Int)) (h2 : j ≤ c) :
    Ev P C f (.slice T x none (some y) (some z)) T' (.slice (subA a j 0 sz) j j) := by
  unfold Ev
  intro w _ d p af g
  simp [execOp, hx, hy, hz, Instr.sliceAt, Instr.slice, Instr.sliceBounds, Instr.sliceBound, asIntOf, run_underlying h.und, size_of_slice h, h2, subA]
theorem ownsAt_cut {w : World} {E : TypeId} {sz k c l : Nat} {a : Option Addr} {xs : List Value} (h : ownsAt w E sz (.slice a k c) k xs) (hl : l ≤ k) : ownsAt w E sz (.slice a l l) l (xs.take (l * sz)) := by
  have hm : l * sz ≤ k * sz := Nat.mul_le_mul_right _ hl
  refine ⟨by rw [List.length_take, h.1]; omega, ?_⟩
  rcases h.2 with ⟨he, hn⟩ | ⟨g, o, cap, cur, he, hg, h1, h2, h3, h4⟩
  · simp only [Value.slice.injEq] at he
    obtain ⟨rfl, _, rfl⟩ := he
    have : l = 0 := by omega
    subst this
    exact .inl ⟨rfl, rfl⟩
  · simp only [Value.slice.injEq] at he
    obtain ⟨rfl, _, rfl⟩ := he
    have hm2 : l * sz ≤ c * sz := Nat.mul_le_mul_right _ (by omega)
    refine .inr ⟨g, o, l, cur, rfl, hg, by omega, by omega, by omega, ?_⟩
    rw [← h4, List.take_take, Nat.min_eq_left hm]
theorem ownsAt_sub0 {w : World} {E : TypeId} {sz n c j : Nat} {a : Option Addr} {xs : List Value} (h : ownsAt w E sz (.slice a n c) n xs) : subA a j 0 sz = a := by
  rcases h.2 with ⟨he, hn⟩ | ⟨g, o, cap, cur, he, _⟩
  · simp only [Value.slice.injEq] at he
    obtain ⟨rfl, _, rfl⟩ := he
    simp [subA]
  · simp only [Value.slice.injEq] at he
    obtain ⟨rfl, _, rfl⟩ := he
    exact subA_zero
/-- A new slice that may be a piece of its block. -/
structure NewOd (w w' : World) (v : Value) (E : TypeId) (sz n : Nat) (xs : List Value) : Prop where
  grew : Grew w w'
  own : ownsAt w' E sz v n xs
  new : ∀ k, v.ownBlock = some k → w.heap.size ≤ k ∧ k < w'.heap.size
theorem St.newOd {w0 w w' : World} {F : Nat → Prop} {L : List Asrt} {v : Value} {E : TypeId} {sz n : Nat} {xs : List Value} (h : St w0 F L w) (hn : NewOd w w' v E sz n xs) : St w0 F (odl v E sz n xs :: L) w' :=
  h.push hn.grew hn.own (fun k hk => hn.new k hk) (odl.dep _ _ _ _ _)
end Go.Proofs.Ytkolmkdbjagfcaa

namespace Go.Proofs.Ytkolmkdbjagfcaa
open Go.Hb
set_option linter.unusedSimpArgs false
set_option linter.unusedVariables false
set_option maxRecDepth 100000

theorem ints_of : ∀ (css : List (List Value)), (∀ c ∈ css, ∃ n : Int, c = [.int .i64 n] ∧ i64 n) → ∃ l : List Int, css.flatten = iv l ∧ l.length = css.length ∧ ∀ x ∈ l, i64 x
  | [], _ => ⟨[], rfl, rfl, fun p hp => by simp at hp⟩
  | c :: r, h => by
    obtain ⟨n, rfl, hp⟩ := h c List.mem_cons_self
    obtain ⟨l, h1, h2, h3⟩ := ints_of r fun c hc => h c (List.mem_cons_of_mem _ hc)
    refine ⟨n :: l, by rw [List.flatten_cons, h1]; rfl, by simp [h2], fun q hq => ?_⟩
    rcases List.mem_cons.1 hq with rfl | hq
    · exact hp
    · exact h3 q hq
theorem opn_ints : Opn Try.prog 55 (fun w cs => ∃ (a : Option Addr) (c : Nat) (l : List Int), cs = [.slice a l.length c] ∧ Rd w a (iv l) ∧ (∀ x ∈ l, i64 x) ∧ (a = none → c = 0) ∧ l.length ≤ c ∧ l.length ≤ 17592186043904) := by
  refine (opn_slice Try.underlying55 (sz := 1) (by_ := 8) (by kernel_rfl) (by omega) (by kernel_rfl) opn_i64).mono ?_
  rintro w cs ⟨a, len, cap, css, rfl, rfl, hg, hr, hz, hc, hm⟩
  obtain ⟨l, h1, h2, h3⟩ := ints_of css fun c hc => (hg c hc).1
  rw [h1] at hr
  have hm : css.length * 8 ≤ 140737488351232 := hm
  exact ⟨a, cap, l, by rw [h2], hr, h3, hz, by omega, by omega⟩
def TkI (t : Tk) : Prop := i64 t.r1 ∧ i64 t.r2 ∧ i64 t.hop ∧ i64 t.seq ∧ i64 t.aru ∧ i64 t.low ∧ i64 t.stamp ∧ i64 t.idle ∧ ∀ x ∈ t.ask, i64 x
theorem opn_tok : Opn Try.prog 72 (fun w cs => ∃ (t : Tk) (a : Option Addr) (c : Nat), cs = t.cells a c ∧ Rd w a (iv t.ask) ∧ TkI t ∧ (a = none → c = 0) ∧ t.ask.length ≤ c ∧ t.ask.length ≤ 17592186043904) := by
  refine (opn_struct Try.underlying72).mono fun w cs ⟨hl, h⟩ => ?_
  have hl : cs.length = 9 := hl
  match cs, hl with
  | [y0, y1, y2, y3, y4, y5, y6, y7, y8], hl =>
    obtain ⟨x0, x1, h0, g0, g1⟩ := h 0 _ rfl _ opn_ring
    obtain ⟨x2, h2, g2⟩ := h 1 _ rfl _ opn_i64
    obtain ⟨x3, h3, g3⟩ := h 2 _ rfl _ opn_i64
    obtain ⟨x4, h4, g4⟩ := h 3 _ rfl _ opn_i64
    obtain ⟨x5, h5, g5⟩ := h 4 _ rfl _ opn_i64
    obtain ⟨x6, h6, g6⟩ := h 5 _ rfl _ opn_i64
    obtain ⟨x7, h7, g7⟩ := h 6 _ rfl _ opn_i64
    obtain ⟨a, c, l, h8, hr, hb, hz, hc, hm⟩ := h 7 _ rfl _ opn_ints
    have k0 : [y0, y1] = [Value.int .i64 x0, .int .i64 x1] := h0
    have k2 : [y2] = [Value.int .i64 x2] := h2
    have k3 : [y3] = [Value.int .i64 x3] := h3
    have k4 : [y4] = [Value.int .i64 x4] := h4
    have k5 : [y5] = [Value.int .i64 x5] := h5
    have k6 : [y6] = [Value.int .i64 x6] := h6
    have k7 : [y7] = [Value.int .i64 x7] := h7
    have k8 : [y8] = [Value.slice a l.length c] := h8
    simp only [List.cons.injEq, and_true] at k0 k2 k3 k4 k5 k6 k7 k8
    exact ⟨⟨x0, x1, x2, x3, x4, x5, x6, x7, l⟩, a, c, by rw [k0.1, k0.2, k2, k3, k4, k5, k6, k7, k8]; rfl, hr, ⟨g0, g1, g2, g3, g4, g5, g6, g7, hb⟩, hz, hc, hm⟩
structure Vst where
  node : Int
  aru : Int
  gaps : List Int
def Vst.cells (v : Vst) (a : Option Addr) (c : Nat) : List Value := [.int .i64 v.node, .int .i64 v.aru, .slice a v.gaps.length c]
def Vst.val (v : Vst) (a : Option Addr) (c : Nat) : Value := .agg (v.cells a c).toArray
def VstI (v : Vst) : Prop := i64 v.node ∧ i64 v.aru ∧ ∀ x ∈ v.gaps, i64 x
end Go.Proofs.Ytkolmkdbjagfcaa

namespace Go.Proofs.Ytkolmkdbjagfcaa
open Go.Hb Go.ChangeShapes Go.WideShapes
set_option linter.unusedSimpArgs false
set_option linter.unusedVariables false
set_option maxRecDepth 100000

theorem opn_ent : Opn Try.prog 167 (fun _ cs => ∃ e : Ent, cs = e.cells) := by
  refine (opn_struct Try.underlying167).mono fun w cs ⟨hl, h⟩ => ?_
  have hl : cs.length = 6 := hl
  match cs, hl with
  | [y0, y1, y2, y3, y4, y5], _ =>
    obtain ⟨x0, h0, _⟩ := h 0 _ rfl _ opn_i64
    obtain ⟨x1, x2, h1, _, _⟩ := h 1 _ rfl _ opn_ring
    obtain ⟨x3, h2, _⟩ := h 2 _ rfl _ opn_i64
    obtain ⟨x4, h3, _⟩ := h 3 _ rfl _ opn_i64
    obtain ⟨x5, h4, _⟩ := h 4 _ rfl _ opn_i64
    have h0 : [y0] = [Value.int .i64 x0] := h0
    have h1 : [y1, y2] = [Value.int .i64 x1, .int .i64 x2] := h1
    have h2 : [y3] = [Value.int .i64 x3] := h2
    have h3 : [y4] = [Value.int .i64 x4] := h3
    have h4 : [y5] = [Value.int .i64 x5] := h4
    simp only [List.cons.injEq, and_true] at h0 h1 h2 h3 h4
    exact ⟨⟨x0, x1, x2, x3, x4, x5⟩, by rw [h0, h1.1, h1.2, h2, h3, h4]; rfl⟩
theorem opn_ents : Opn Try.prog 75 (fun w cs => ∃ (a : Option Addr) (c : Nat) (l : List Ent), cs = [.slice a l.length c] ∧ Rd w a (l.flatMap Ent.cells) ∧ (a = none → c = 0) ∧ l.length ≤ 17592186043904) := by
  refine (opn_slice Try.underlying75 (sz := 6) (by_ := 48) (by kernel_rfl) (by omega) (by kernel_rfl) opn_ent).mono ?_
  rintro w cs ⟨a, len, cap, css, rfl, rfl, hg, hr, hz, hc, hm⟩
  obtain ⟨l, h1, h2, _⟩ := Go.Hb.rows_of (f := Ent.cells) (R := fun _ => True) css fun c hc => (by obtain ⟨e, he⟩ := (hg c hc).1; exact ⟨e, he, trivial⟩)
  rw [h1] at hr
  have hm : css.length * 48 ≤ 140737488351232 := hm
  exact ⟨a, cap, l, by rw [h2], hr, hz, by omega⟩
theorem opn_com : Opn Try.prog 77 (fun w cs => ∃ (x : Cmt) (a : Option Addr) (c : Nat), cs = x.cells a c ∧ Rd w a (x.ents.flatMap Ent.cells) ∧ (a = none → c = 0) ∧ x.ents.length ≤ 17592186043904 ∧ i64 x.mem) := by
  refine (opn_struct Try.underlying77).mono fun w cs ⟨hl, h⟩ => ?_
  have hl : cs.length = 5 := hl
  match cs, hl with
  | [y0, y1, y2, y3, y4], _ =>
    obtain ⟨x0, x1, h0, _, _⟩ := h 0 _ rfl _ opn_ring
    obtain ⟨x2, h1, g2⟩ := h 1 _ rfl _ opn_i64
    obtain ⟨x3, h2, _⟩ := h 2 _ rfl _ opn_i64
    obtain ⟨a, c, l, h3, hr, hz, hm⟩ := h 3 _ rfl _ opn_ents
    have h0 : [y0, y1] = [Value.int .i64 x0, .int .i64 x1] := h0
    have h1 : [y2] = [Value.int .i64 x2] := h1
    have h2 : [y3] = [Value.int .i64 x3] := h2
    have h3 : [y4] = [Value.slice a l.length c] := h3
    simp only [List.cons.injEq, and_true] at h0 h1 h2 h3
    exact ⟨⟨x0, x1, x2, x3, l⟩, a, c, by rw [h0.1, h0.2, h1, h2, h3]; rfl, hr, hz, hm, g2⟩
theorem opn_join : Opn Try.prog 74 (fun _ cs => ∃ x y z : Int, cs = [.int .i64 x, .int .i64 y, .int .i64 z] ∧ i64 y) := by
  refine (opn_struct Try.underlying74).mono fun w cs ⟨hl, h⟩ => ?_
  have hl : cs.length = 3 := hl
  match cs, hl with
  | [y0, y1, y2], _ =>
    obtain ⟨x0, h0, _⟩ := h 0 _ rfl _ opn_i64
    obtain ⟨x1, h1, g1⟩ := h 1 _ rfl _ opn_i64
    obtain ⟨x2, h2, _⟩ := h 2 _ rfl _ opn_i64
    have h0 : [y0] = [Value.int .i64 x0] := h0
    have h1 : [y1] = [Value.int .i64 x1] := h1
    have h2 : [y2] = [Value.int .i64 x2] := h2
    simp only [List.cons.injEq, and_true] at h0 h1 h2
    exact ⟨x0, x1, x2, by rw [h0, h1, h2], g1⟩
theorem opn_bea : Opn Try.prog 79 (fun _ cs => ∃ x y z : Int, cs = [.int .i64 x, .int .i64 y, .int .i64 z]) := by
  refine (opn_struct Try.underlying79).mono fun w cs ⟨hl, h⟩ => ?_
  have hl : cs.length = 3 := hl
  match cs, hl with
  | [y0, y1, y2], _ =>
    obtain ⟨x0, x1, h0, _, _⟩ := h 0 _ rfl _ opn_ring
    obtain ⟨x2, h2, _⟩ := h 1 _ rfl _ opn_i64
    have h0 : [y0, y1] = [Value.int .i64 x0, .int .i64 x1] := h0
    have h2 : [y2] = [Value.int .i64 x2] := h2
    simp only [List.cons.injEq, and_true] at h0 h2
    exact ⟨x0, x1, x2, by rw [h0.1, h0.2, h2]⟩
theorem opn_pkt : Opn Try.prog 81 (fun w cs => ∃ (p : Pkt) (A : PAd), cs = p.cells A ∧ PktR w p A ∧ PktI p) := by
  refine (opn_struct Try.underlying81).mono fun w cs ⟨hl, h⟩ => ?_
  have hl : cs.length = 40 := hl
  match cs, hl with
  | y0 :: y1 :: y2 :: y3 :: y4 :: y5 :: y6 :: y7 :: y8 :: y9 :: y10 :: y11 :: y12 :: y13 :: y14 :: y15 :: y16 :: y17 :: y18 :: y19 :: y20 :: y21 :: y22 :: y23 :: y24 :: y25 :: y26 :: y27 :: y28 :: y29 :: y30 :: y31 :: y32 :: y33 :: y34 :: y35 :: y36 :: y37 :: y38 :: y39 :: [], _ =>
    obtain ⟨x0, h0, _⟩ := h 0 _ rfl _ opn_i64
    obtain ⟨x1, h1, _⟩ := h 1 _ rfl _ opn_i64
    obtain ⟨d, da, dc, h2, dr, db, dz, dm, _⟩ := h 2 _ rfl _ opn_dat
    obtain ⟨t, ta, tc, h3, tr, _, tz, _, tm⟩ := h 3 _ rfl _ opn_tok
    obtain ⟨j1, j2, j3, h4, g4⟩ := h 4 _ rfl _ opn_join
    obtain ⟨c, ca, cc, h5, cr, cz, cm, g5⟩ := h 5 _ rfl _ opn_com
    obtain ⟨b1, b2, b3, h6⟩ := h 6 _ rfl _ opn_bea
    have h0 : [y0] = [Value.int .i64 x0] := h0
    have h1 : [y1] = [Value.int .i64 x1] := h1
    have h2 : [y2, y3, y4, y5, y6, y7, y8, y9, y10, y11, y12, y13, y14, y15, y16, y17, y18, y19] = d.cells da dc := h2
    have h3 : [y20, y21, y22, y23, y24, y25, y26, y27, y28] = t.cells ta tc := h3
    have h4 : [y29, y30, y31] = [Value.int .i64 j1, .int .i64 j2, .int .i64 j3] := h4
    have h5 : [y32, y33, y34, y35, y36] = c.cells ca cc := h5
    have h6 : [y37, y38, y39] = [Value.int .i64 b1, .int .i64 b2, .int .i64 b3] := h6
    refine ⟨⟨x0, x1, d, ⟨t.r1, t.r2, t.hop, t.seq, t.aru, t.low, t.stamp, t.idle, t.ask⟩, j1, j2, j3, c, b1, b2, b3⟩, ⟨da, dc, ta, tc, ca, cc⟩, ?_, ⟨dr, dz, db, dm, tr, tz, tm, cr, cz, cm⟩, ?_⟩
    · show [y0] ++ [y1] ++ ([y2, y3, y4, y5, y6, y7, y8, y9, y10, y11, y12, y13, y14, y15, y16, y17, y18, y19] ++ ([y20, y21, y22, y23, y24, y25, y26, y27, y28] ++ ([y29, y30, y31] ++ ([y32, y33, y34, y35, y36] ++ [y37, y38, y39])))) = _
      rw [h0, h1, h2, h3, h4, h5, h6]
      rfl
    · unfold i64 at g4 g5
      exact ⟨by simp only; omega, by simp only; omega⟩
end Go.Proofs.Ytkolmkdbjagfcaa

namespace Go.Proofs.Ytkolmkdbjagfcaa
open Go.Hb Go.ChangeShapes Go.WideShapes
attribute [local irreducible] LR CW At Ev thn blk finK noG again CallsTo DW QL dnext
set_option linter.unusedSimpArgs false
set_option linter.unusedVariables false

set_option maxHeartbeats 1000000 in
set_option maxRecDepth 100000 in
theorem packetTurned_lifted (os : Os) (started : os.Started) (H : Type) (enc : TypeId × Value → H) :
    ReturnsInHanded {} Try.checked os 8 .any (Rows.packetTurnedSpec.pre6 enc Try.prog Try.f8 Rows.packetTurnedRow.domain false) (Rows.packetTurnedSpec.post enc Try.prog Try.f8 false true false false) := by
  refine returnsInHanded_of_change_sized (C := Try.checked) (s := Rows.packetTurnedSpec) own_knob started (by kernel_rfl) Try.func8
    (ChangeSpec.witness6 (enc := enc) (C := Try.checked) false ⟨#[], #[.agg #[.int .i64 0, .int .i64 0, .int .i64 0, .int .i64 0, .int .i64 0, .int .i64 0, .int .i64 0, .int .i64 0, .int .i64 0, .int .i64 0, .int .i64 0, .int .i64 0, .int .i64 0, .int .i64 0, .bool false, .int .i64 0, .int .i64 0, .int .i64 0, .int .i64 0, .slice none 0 0, .int .i64 0, .int .i64 0, .int .i64 0, .int .i64 0, .int .i64 0, .int .i64 0, .int .i64 0, .int .i64 0, .slice none 0 0, .int .i64 0, .int .i64 0, .int .i64 0, .int .i64 0, .int .i64 0, .int .i64 0, .int .i64 0, .slice none 0 0, .int .i64 0, .int .i64 0, .int .i64 0], .int .i64 0], []⟩ 12 (by kernel_rfl) (by kernel_rfl) (by kernel_rfl) (by kernel_rfl)) ?_
  intro W base args ds gs before hval hW hcnd hwt _
  have hW' := hW
  obtain ⟨p, q, hA0, hV, rfl, hfz, hnd⟩ := hW'
  obtain ⟨rfl, rfl⟩ := trodVars_none hV
  have hA : DataW.TrodAll enc Try.prog W 0 (fun _ => true) true Try.f8.params.toList args.toList ds p := hA0
  rw [Try.params8] at hA
  obtain ⟨v0, vs0, d0, ds0, p0, q0, hargs, rfl, rfl, h0, r0⟩ := trodAll_cons hA
  obtain ⟨v1, vs1, d1, ds1, p1, q1, rfl, rfl, rfl, h1, r1⟩ := trodAll_cons r0
  obtain ⟨rfl, rfl, rfl⟩ := trodAll_nil r1
  obtain rfl : args = #[v0, v1] := by cases args; simp_all
  obtain ⟨p0, A0, hcs0, hR0, hI0⟩ := opn_arg (i := 0) opn_pkt h0 hwt rfl rfl
  obtain ⟨cs0, rfl, _⟩ := okWide_struct Try.underlying81 (hval 0 81 v0 rfl rfl)
  obtain rfl : cs0 = (p0.cells A0).toArray := Array.toList_inj.1 hcs0
  obtain ⟨x1, hcs1, hb1⟩ := opn_arg (i := 1) opn_i64 h1 hwt rfl rfl
  obtain ⟨y1, rfl⟩ := okWide_int Try.underlying3 (hval 1 3 v1 rfl rfl)
  have hcs1 : [Value.int .i64 y1] = [.int .i64 x1] := hcs1
  simp only [List.cons.injEq, Value.int.injEq, true_and, and_true] at hcs1
  have hcs1 := hcs1.symm
  subst hcs1
  refine (p8 p0 A0 x1 W hR0 hI0).calls fun v W' ⟨hv, hg⟩ => ⟨v, rfl, ?_⟩
  subst hv
  exact law_post kids full_slices hW hg rfl rfl (by kernel_rfl) Try.underlying4 (by rw [Try.params8]; decide +kernel)

theorem packetTurned_holds : Rows.PacketTurnedSaid :=
  OpenClaim.holds_of_wide 8 Try.f8 rfl rfl rfl rfl rfl rfl rfl ⟨rfl, rfl, rfl, rfl, rfl⟩ rfl rfl rfl rfl rfl (by kernel_rfl) Try.func8 (by kernel_rfl)
    (of_decide_eq_true (by kernel_rfl)) (by unfold Func.isWrapper; first | (rw [if_pos (by decide +kernel)]; kernel_rfl) | (rw [if_neg (by decide +kernel)]; exact ⟨rfl, rfl⟩))
    (fun os started H enc _ => packetTurned_lifted os started H enc)
end Go.Proofs.Ytkolmkdbjagfcaa
