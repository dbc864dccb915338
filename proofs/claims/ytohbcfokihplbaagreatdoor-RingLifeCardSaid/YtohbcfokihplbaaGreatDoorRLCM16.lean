/-
  The law RingLife holds, as its row says it: one node, whatever it is given, goes as its ring's life says; conditions: none but the two tables of math/bits, as the row lists them.
-/
import Derived.Test.YtohbcfokihplbaaGreatDoorRLCM15
import Derived.LaidMore
import Derived.OpenShut
import Derived.Stop.Joined
import Derived.ProofKit
set_option linter.unusedSimpArgs false
set_option linter.unusedVariables false
namespace Go.Proofs.YtohbcfokihplbaaGreatDoor
open Go.Hb Go.ChangeShapes Go.WideShapes
attribute [local irreducible] LR CW At Ev thn blk finK noG again CallsTo DW QL dnext
theorem tabs_named : Tryz.prog.globalNamed "math/bits.deBruijn64tab" = some 1 := by kernel_rfl
theorem tabs_type : (Tryz.prog.globals[1]?).map (·.type) = some 343 := by kernel_rfl
set_option maxRecDepth 100000 in
theorem tabs_met (os : Os) (args : Array Value) : laidMetH Tryz.prog Rows.ringLifeRow.laid ((World.doorLaid Tryz.prog 400 os).forCall (fun _ _=>0) ⟨#[],args,[]⟩).memory :=
 laidMetH_of_parts3 (fuel := 8) (laidMet_of_run' 8 (by kernel_rfl) (by kernel_rfl)) (by kernel_rfl) (by kernel_rfl)
set_option maxRecDepth 100000 in
theorem tabs_read {W : World} (h : laidMetH Tryz.prog Rows.ringLifeRow.laid W) : Rd W (some ⟨1,0,none⟩) (bv tab64) := by
 rw [MakeChecks.laidMetH_plain _ _ _ (by kernel_rfl)] at h
 obtain ⟨ps,⟨g0,t0,cs0,f0,p0,q0,hg0,ht0,hv0,hd0,⟨g1,t1,cs1,f1,p1,q1,hg1,ht1,hv1,hd1,_,_⟩,_⟩,_,_⟩ := h
 obtain rfl := Option.some.inj (tabs_named.symm.trans hg1)
 obtain rfl := Option.some.inj (tabs_type.symm.trans ht1)
 obtain ⟨xs,m1,rfl,hx1,hlen,hn,hel⟩ := DataW.trod_array Tryz.underlying343 hd1
 have c5 : Tryz.prog.cellsOf 5 = 1 := by kernel_rfl
 rw [c5] at hel
 have hx := (Prod.mk.inj hx1).1
 have hx : xs.map (·.1) = tab64.map fun x=>.lit (.int .u8 x) := (DataW.agg.inj hx).symm
 intro j v hj
 refine ⟨_,rfl,?_⟩
 have hj' := List.getElem?_eq_some_iff.1 hj
 obtain ⟨hlt,hv⟩ := hj'
 have hlt : j < tab64.length := by simpa [bv] using hlt
 have hlt64 : j < 64 := hlt
 have h5 := hel j hlt64
 have hxj : (xs.map (·.1))[j]? = some (.lit (.int .u8 (tab64[j]'hlt))) := by rw [hx];simp [hlt]
 rw [List.getElem?_map] at hxj
 obtain ⟨y,hy,hy1⟩ := Option.map_eq_some_iff.1 hxj
 rw [hy] at h5
 obtain ⟨k,e1,e2,_⟩ := DataW.trod_int Tryz.underlying5 h5
 subst e2
 have hk : k = tab64[j]'hlt := by simpa using hy1
 have hc := World.var?_cell hg1 hv1 j
 have ha : (⟨1,0,none⟩ : Addr).add j = ⟨1,j,none⟩ := by
  unfold Addr.add
  split
  ·subst_vars;rfl
  ·simp
 rw [ha,hc]
 have hvv : v = .int .u8 (tab64[j]'hlt) := by rw [← hv];simp [bv]
 rw [hvv,← hk]
 have h7 : ((cs1.toList.drop (j * 1)).take 1)[0]? = some (.int .u8 k) := by rw [e1];rfl
 rw [List.getElem?_take_of_lt (by omega),List.getElem?_drop] at h7
 simpa using h7
set_option maxHeartbeats 1000000 in
set_option maxRecDepth 100000 in
theorem ringLife_lifted (os : Os) (started : os.Started) (H : Type) (enc : TypeId × Value → H) :
  ReturnsInHanded {} Tryz.checked os 4 .any (fun w args=>(Rows.ringLifeSpec.pre enc Tryz.prog Tryz.f4 [] false w args ∧ laidMetH Tryz.prog Rows.ringLifeRow.laid w) ∧ sizedMet enc Tryz.prog Tryz.f4 (OpenSpec.ofChange Rows.ringLifeSpec) false w args)
   (Rows.ringLifeSpec.post enc Tryz.prog Tryz.f4 false true false false) := by
 refine returnsInHanded_of_change_and (C := Tryz.checked) (X := fun w _=>laidMetH Tryz.prog Rows.ringLifeRow.laid w) (fun _ _ _ hh h=>h.of_heap hh) own_knob started (by kernel_rfl) Tryz.func4
  (ChangeSpec.witness_shaped (enc := enc) (C := Tryz.checked) (os := os) (X := fun w _=>laidMetH Tryz.prog Rows.ringLifeRow.laid w) false (World.doorLaid Tryz.prog 400 os) #[.int .i64 0,.int .i64 0,.slice none 0 0] 12 rfl (World.shaped_of_RefB (by kernel_rfl) (by kernel_rfl)) (by kernel_rfl) (by kernel_rfl) (by kernel_rfl) (tabs_met os _)) ?_
 intro W base args ds gs before hval hW hcnd hwt hL _
 have hW' := hW
 obtain ⟨p,q,hA0,hV,rfl,hfz,hnd⟩ := hW'
 obtain ⟨rfl,rfl⟩ := trodVars_none hV
 have hA : DataW.TrodAll enc Tryz.prog W 0 (fun _=>true) true Tryz.f4.params.toList args.toList ds p := hA0
 rw [Tryz.params4] at hA
 obtain ⟨v0,vs0,d0,ds0,p0,q0,hargs,rfl,rfl,h0,r0⟩ := trodAll_cons hA
 obtain ⟨v1,vs1,d1,ds1,p1,q1,rfl,rfl,rfl,h1,r1⟩ := trodAll_cons r0
 obtain ⟨v2,vs2,d2,ds2,p2,q2,rfl,rfl,rfl,h2,r2⟩ := trodAll_cons r1
 obtain ⟨rfl,rfl,rfl⟩ := trodAll_nil r2
 obtain rfl : args = #[v0,v1,v2] := by cases args;simp_all
 obtain ⟨x0,hcs0,hb0⟩ := opn_arg (i := 0) opn_i64 h0 hwt rfl rfl
 obtain ⟨y0,rfl⟩ := okWide_int Tryz.underlying3 (hval 0 3 v0 rfl rfl)
 have hcs0 : [Value.int .i64 y0] = [.int .i64 x0] := hcs0
 simp only [List.cons.injEq,Value.int.injEq,true_and,and_true] at hcs0
 have hcs0 := hcs0.symm
 subst hcs0
 obtain ⟨x1,hcs1,hb1⟩ := opn_arg (i := 1) opn_i64 h1 hwt rfl rfl
 obtain ⟨y1,rfl⟩ := okWide_int Tryz.underlying3 (hval 1 3 v1 rfl rfl)
 have hcs1 : [Value.int .i64 y1] = [.int .i64 x1] := hcs1
 simp only [List.cons.injEq,Value.int.injEq,true_and,and_true] at hcs1
 have hcs1 := hcs1.symm
 subst hcs1
 obtain ⟨a2,c2,l2,hcs2,hr2,hm2⟩ := opn_arg (i := 2) opn_dosR h2 hwt rfl rfl
 obtain ⟨b2,n2,e2,rfl⟩ := okWide_slice Tryz.underlying35 (hval 2 35 v2 rfl rfl)
 have hcs2 : [Value.slice b2 n2 e2] = [.slice a2 l2.length c2] := hcs2
 simp only [List.cons.injEq,Value.slice.injEq,and_true] at hcs2
 obtain ⟨e12,e22,e32⟩ := hcs2
 have e12 := e12.symm
 have e32 := e32.symm
 subst e12;subst e22;subst e32
 refine (r4 x0 x1 a2 c2 l2 W (tabs_read hL) hr2 hm2).calls fun v W' ⟨hv,hg⟩=>⟨v,rfl,?_⟩
 subst hv
 exact law_post kids full_slices hW hg rfl rfl (by kernel_rfl) Tryz.underlying4 (by rw [Tryz.params4];decide +kernel)
theorem joined_of {P : Program} {f : FuncId} {fn : Func} {s : ChangeSpec} {c : OpenClaim}
  (h0 : (c.wf (OpenSpec.ofChange s) && laidOutB P) = true)
  (h1 : (mapsRowed P && fn.params.all (P.readableRec ·) && namedTie P c.named s.vars && (c.stops == []) && (P.stops == []) && (c.knobs == []) && (P.stopKnobs == [])) = true)
  (h2 : ((c.inPlace == P.inPlace f)) = true)
  (h3 : ((c.unfollowed == P.unfollowed f)) = true)
  (h4 : ((c.recurses == P.recurses f)) = true)
  (h5 : ((c.named == P.varsNamed f)) = true)
  (h6 : ((c.maps == (fn.params.toList ++ s.plain.varTypes P).any (P.mapsRec ·)) && (c.ifaces == (fn.params.toList ++ s.plain.varTypes P).any (P.ifacesRec ·)) && (c.mapsOut == P.mapsAmong fn.resultTypes.toList) && (c.loops == (fn.params.toList ++ s.plain.varTypes P).any (P.loopsFrom ·))) = true)
  (h7 : ((c.wideKeys == (fn.params.toList ++ s.plain.varTypes P ++ fn.resultTypes.toList).any (P.wideKeysFrom ·)) && s.vars.all (P.varReadable ·) && fn.resultTypes.all (fun t=>P.readableRec t && decide (t < P.types.size)) && (c.ifacesOut == fn.resultTypes.toList.any (P.ifacesRec ·)) && (c.loopsOut == fn.resultTypes.toList.any (P.loopsFrom ·))) = true)
  (h8 : ((c.plainKeys == P.plainKeys) && c.shortTexts.isNone && P.stopsHeard && P.mayEnter && (c.lifted == P.liftsFinal) && (P.make == some c.make)) = true)
  (h9 : ((c.kinds == (if c.domain.isEmpty then [] else fn.params.toList.map fun t=>match P.underlying t with | some (.int k)=>some k | _=>none)) && (c.pinned == c.pinnedBy) && (c.veiled == (fn.params.toList ++ s.plain.varTypes P ++ fn.resultTypes.toList).any (P.veiledRec ·)) && c.veiledFits P fn.params.toList (fn.params.toList ++ s.plain.varTypes P ++ fn.resultTypes.toList)) = true)
  : joinedFacts P f fn s c = true := by
 unfold joinedFacts
 simp only [Bool.and_eq_true] at *
 obtain ⟨k0,k1⟩ := h0
 obtain ⟨⟨⟨⟨⟨⟨k2,k3⟩,k4⟩,k5⟩,k6⟩,k7⟩,k8⟩ := h1
 obtain ⟨⟨⟨k13,k14⟩,k15⟩,k16⟩ := h6
 obtain ⟨⟨⟨⟨k17,k18⟩,k19⟩,k20⟩,k21⟩ := h7
 obtain ⟨⟨⟨⟨⟨k22,k23⟩,k24⟩,k25⟩,k26⟩,k27⟩ := h8
 obtain ⟨⟨⟨k28,k29⟩,k30⟩,k31⟩ := h9
 exact ⟨⟨⟨⟨⟨⟨⟨⟨⟨⟨⟨⟨⟨⟨⟨⟨⟨⟨⟨⟨⟨⟨⟨⟨⟨⟨⟨⟨⟨⟨⟨k0,k1⟩,k2⟩,k3⟩,k4⟩,k5⟩,k6⟩,k7⟩,k8⟩,h2⟩,h3⟩,h4⟩,h5⟩,k13⟩,k14⟩,k15⟩,k16⟩,k17⟩,k18⟩,k19⟩,k20⟩,k21⟩,k22⟩,k23⟩,k24⟩,k25⟩,k26⟩,k27⟩,k28⟩,k29⟩,k30⟩,k31⟩
theorem ringLife_shut0 : (Rows.ringLifeRow.wf (OpenSpec.ofChange Rows.ringLifeSpec) && laidOutB Tryz.checked.prog) = true := by kernel_rfl
theorem ringLife_shut1 : (mapsRowed Tryz.checked.prog && Tryz.f4.params.all (Tryz.checked.prog.readableRec ·) && namedTie Tryz.checked.prog Rows.ringLifeRow.named Rows.ringLifeSpec.vars && (Rows.ringLifeRow.stops == []) && (Tryz.checked.prog.stops == []) && (Rows.ringLifeRow.knobs == []) && (Tryz.checked.prog.stopKnobs == [])) = true := by kernel_rfl
theorem ringLife_shut2 : ((Rows.ringLifeRow.inPlace == Tryz.checked.prog.inPlace 4)) = true := by kernel_rfl
theorem ringLife_shut3 : ((Rows.ringLifeRow.unfollowed == Tryz.checked.prog.unfollowed 4)) = true := by kernel_rfl
theorem ringLife_shut4 : ((Rows.ringLifeRow.recurses == Tryz.checked.prog.recurses 4)) = true := by kernel_rfl
theorem ringLife_shut5 : ((Rows.ringLifeRow.named == Tryz.checked.prog.varsNamed 4)) = true := by kernel_rfl
theorem ringLife_shut6 : ((Rows.ringLifeRow.maps == (Tryz.f4.params.toList ++ Rows.ringLifeSpec.plain.varTypes Tryz.checked.prog).any (Tryz.checked.prog.mapsRec ·)) && (Rows.ringLifeRow.ifaces == (Tryz.f4.params.toList ++ Rows.ringLifeSpec.plain.varTypes Tryz.checked.prog).any (Tryz.checked.prog.ifacesRec ·)) && (Rows.ringLifeRow.mapsOut == Tryz.checked.prog.mapsAmong Tryz.f4.resultTypes.toList) && (Rows.ringLifeRow.loops == (Tryz.f4.params.toList ++ Rows.ringLifeSpec.plain.varTypes Tryz.checked.prog).any (Tryz.checked.prog.loopsFrom ·))) = true := by kernel_rfl
theorem ringLife_shut7 : ((Rows.ringLifeRow.wideKeys == (Tryz.f4.params.toList ++ Rows.ringLifeSpec.plain.varTypes Tryz.checked.prog ++ Tryz.f4.resultTypes.toList).any (Tryz.checked.prog.wideKeysFrom ·)) && Rows.ringLifeSpec.vars.all (Tryz.checked.prog.varReadable ·) && Tryz.f4.resultTypes.all (fun t=>Tryz.checked.prog.readableRec t && decide (t < Tryz.checked.prog.types.size)) && (Rows.ringLifeRow.ifacesOut == Tryz.f4.resultTypes.toList.any (Tryz.checked.prog.ifacesRec ·)) && (Rows.ringLifeRow.loopsOut == Tryz.f4.resultTypes.toList.any (Tryz.checked.prog.loopsFrom ·))) = true := by kernel_rfl
theorem ringLife_shut8 : ((Rows.ringLifeRow.plainKeys == Tryz.checked.prog.plainKeys) && Rows.ringLifeRow.shortTexts.isNone && Tryz.checked.prog.stopsHeard && Tryz.checked.prog.mayEnter && (Rows.ringLifeRow.lifted == Tryz.checked.prog.liftsFinal) && (Tryz.checked.prog.make == some Rows.ringLifeRow.make)) = true := by kernel_rfl
theorem ringLife_shut9 : ((Rows.ringLifeRow.kinds == (if Rows.ringLifeRow.domain.isEmpty then [] else Tryz.f4.params.toList.map fun t=>match Tryz.checked.prog.underlying t with | some (.int k)=>some k | _=>none)) && (Rows.ringLifeRow.pinned == Rows.ringLifeRow.pinnedBy) && (Rows.ringLifeRow.veiled == (Tryz.f4.params.toList ++ Rows.ringLifeSpec.plain.varTypes Tryz.checked.prog ++ Tryz.f4.resultTypes.toList).any (Tryz.checked.prog.veiledRec ·)) && Rows.ringLifeRow.veiledFits Tryz.checked.prog Tryz.f4.params.toList (Tryz.f4.params.toList ++ Rows.ringLifeSpec.plain.varTypes Tryz.checked.prog ++ Tryz.f4.resultTypes.toList)) = true := by kernel_rfl
theorem ringLife_shut : joinedFacts Tryz.checked.prog 4 Tryz.f4 Rows.ringLifeSpec Rows.ringLifeRow = true := joined_of ringLife_shut0 ringLife_shut1 ringLife_shut2 ringLife_shut3 ringLife_shut4 ringLife_shut5 ringLife_shut6 ringLife_shut7 ringLife_shut8 ringLife_shut9
theorem ringLife_fn : Tryz.checked.prog.funcNamed Rows.ringLifeRow.func = some 4 := by kernel_rfl
theorem ringLife_fn4 : Tryz.checked.prog.funcs[4]? = some Tryz.f4 := Tryz.func4
theorem ringLife_inst : Func.isInstance Tryz.checked.prog Tryz.f4 Rows.ringLifeRow.origin Rows.ringLifeRow.targs := of_decide_eq_true (by kernel_rfl)
theorem ringLife_wrap : Func.isWrapper Tryz.checked.prog Tryz.f4 Rows.ringLifeRow.wrapper Rows.ringLifeRow.mainSum := by unfold Func.isWrapper;first | (rw [if_pos (by decide +kernel)];kernel_rfl) | (rw [if_neg (by decide +kernel)];exact ⟨rfl,rfl⟩)
theorem ringLife_pre (os : Os) (started : os.Started) (H : Type) (enc : TypeId × Value → H) : ReturnsInHanded Rows.ringLifeRow.assume Tryz.checked os 4 .any (Rows.ringLifeRow.pre enc Tryz.checked.prog Tryz.f4 (OpenSpec.ofChange Rows.ringLifeSpec)) (Rows.ringLifeSpec.post enc Tryz.checked.prog Tryz.f4 Rows.ringLifeRow.apart Rows.ringLifeRow.fresh Rows.ringLifeRow.handsOn Rows.ringLifeRow.again) := ringLife_lifted os started H enc
theorem ringLife_holds : Rows.RingLifeSaid :=
 OpenClaim.holds_of_wide (p := Tryz.pinned) (s := Rows.ringLifeSpec) (c := Rows.ringLifeRow) 4 Tryz.f4 rfl rfl rfl rfl rfl rfl rfl ⟨rfl,rfl,rfl,rfl,rfl⟩ rfl rfl rfl rfl rfl ringLife_fn ringLife_fn4 ringLife_shut
  ringLife_inst ringLife_wrap (fun os started H enc _=>ringLife_pre os started H enc)
end Go.Proofs.YtohbcfokihplbaaGreatDoor
