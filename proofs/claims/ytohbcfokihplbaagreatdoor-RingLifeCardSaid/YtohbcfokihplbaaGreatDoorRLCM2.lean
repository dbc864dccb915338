/-
  The steps of a walk, in fewer words. Conditions: none; nothing here speaks of one program.
-/
import Derived.Test.YtohbcfokihplbaaGreatDoorRLCM1
import Derived.Laws.MakeOwn
import Derived.MapKept
import Derived.ChangeStays
import Derived.ReadAgain
import Derived.RowKit3
import Derived.ChangeArms
import Derived.JoinedOf
import Derived.SizedLaws
import Derived.Test.YtohbcfokihplbaaGreatDoorRows
import Derived.StillTail
set_option linter.unusedSimpArgs false
set_option linter.unusedVariables false
namespace Go.Hb
def both (x y : Asrt) : Asrt := .ex (fun k=>x.foot k ∨ y.foot k) (fun w=>x.holds w ∧ y.holds w ∧ (∀ k,x.foot k → ¬ y.foot k) ∧ (∀ k,x.foot k ∨ y.foot k → k < w.heap.size))
section
variable {w0 w w' : World} {F : Nat → Prop} {R : List Asrt} {x y x' y' : Asrt}
theorem lt_of_same {w w' : World} {k : Nat} (e : w'.heap[k]? = w.heap[k]?) (h : k < w.heap.size) : k < w'.heap.size := by
 rcases Nat.lt_or_ge k w'.heap.size with h' | h'
 ·exact h'
 ·rw [Array.getElem?_eq_none h',Array.getElem?_eq_getElem h] at e;cases e
theorem both_dep (dx : x.dep) (dy : y.dep) : (both x y).dep := by
 intro w w' hk ⟨h1,h2,h3,h4⟩
 exact ⟨dx w w' (fun k h=>hk k (.inl h)) h1,dy w w' (fun k h=>hk k (.inr h)) h2,h3,fun k h=>lt_of_same (hk k h) (h4 k h)⟩
theorem both_live (h : (both x y).holds w) : ∀ k,(both x y).foot k → k < w.heap.size := h.2.2.2
theorem St.join (h : St w0 F (x :: y :: R) w) (hx : x.excl = true) (hy : y.excl = true) : St w0 F (both x y :: R) w := by
 refine h.merge hx hy ⟨h.holds x (by simp),h.holds y (by simp),(List.pairwise_cons.1 h.dis).1 y (by simp) (by simp [hx]),?_⟩ (fun k hk=>hk) (both_dep (h.dep x (by simp)) (h.dep y (by simp)))
 rintro k (hk | hk)
 ·exact h.live x (by simp) k hk
 ·exact h.live y (by simp) k hk
theorem St.part (h : St w0 F (both x y :: R) w) (dx : x.dep) (dy : y.dep) : St w0 F (x :: y :: R) w := by
 obtain ⟨h1,h2,h3,h4⟩ := h.holds (both x y) (List.Mem.head _)
 exact h.split rfl h1 h2 (fun k hk=>.inl hk) (fun k hk=>.inr hk) h3 dx dy
def Stores (P : Program) (T : TypeId) (ad : Addr) (v : Value) (x x' : Asrt) : Prop := ∀ w,x.holds w → ∃ w',(storeVar T ad v).run P w = .ok () w' ∧ Step x x' w w'
theorem Stores.own {P : Program} {T : TypeId} {m b o : Nat} {v : Value} {cs vs : List Value} {E : TypeId} (h : Sz P T m) (hv : v.cells = vs.toArray) (h1 : vs.all Value.oneCell' = true) (hm : vs.length = m) (hb : o + vs.length ≤ cs.length) :
  Stores P T ⟨b,o,none⟩ v (.own b (.cells cs.toArray E (0,0))) (.own b (.cells (splice cs o vs).toArray E (0,0))) := by
 intro w hg
 refine ⟨_,run_storeVar h w b o v vs cs E hv hm hg hb h1,?_⟩
 exact ⟨Keep.setRow w b _ _ E hg rfl,setRow_heap w b _ _ E (0,0) hg,fun k hk=>.inl hk⟩
theorem Stores.left {P : Program} {T : TypeId} {ad : Addr} {v : Value} (h : Stores P T ad v x x') (dy : y.dep) : Stores P T ad v (both x y) (both x' y) := by
 intro w ⟨h1,h2,h3,h4⟩
 obtain ⟨w',hr,st⟩ := h w h1
 have same : ∀ k,y.foot k → w'.heap[k]? = w.heap[k]? := fun k hk=>st.keep.keep k (h4 k (.inr hk)) (fun hx=>h3 k hx hk)
 refine ⟨w',hr,⟨⟨st.keep.os,st.keep.tape,st.keep.output,st.keep.size,fun k hk hn=>st.keep.keep k hk (fun hx=>hn (.inl hx)),fun _ h=>(by cases h),fun _ h=>(by cases h),fun _ h=>(by cases h),List.Pairwise.nil,fun _ h=>(by cases h)⟩,⟨st.holds,dy w w' same h2,?_,?_⟩,?_⟩⟩
 ·intro k hk hk2
  rcases st.foot k hk with hk | hk
  ·exact h3 k hk hk2
  ·have := h4 k (.inr hk2);omega
 ·rintro k (hk | hk)
  ·rcases st.foot k hk with hk | hk
   ·exact Nat.lt_of_lt_of_le (h4 k (.inl hk)) st.keep.size
   ·exact hk.2
  ·exact Nat.lt_of_lt_of_le (h4 k (.inr hk)) st.keep.size
 ·rintro k (hk | hk)
  ·rcases st.foot k hk with hk | hk
   ·exact .inl (.inl hk)
   ·exact .inr hk
  ·exact .inl (.inr hk)
theorem both_flip {w : World} (h : (both x y).holds w) : (both y x).holds w := ⟨h.2.1,h.1,fun k hk hk2=>h.2.2.1 k hk2 hk,fun k hk=>h.2.2.2 k (Or.symm hk)⟩
theorem Stores.right {P : Program} {T : TypeId} {ad : Addr} {v : Value} (h : Stores P T ad v y y') (dx : x.dep) : Stores P T ad v (both x y) (both x y') := by
 intro w hw
 obtain ⟨w',hr,st⟩ := (Stores.left (y := x) h dx) w (both_flip hw)
 refine ⟨w',hr,⟨⟨st.keep.os,st.keep.tape,st.keep.output,st.keep.size,fun k hk hn=>st.keep.keep k hk (fun hx=>hn (Or.symm hx)),fun _ h=>(by cases h),fun _ h=>(by cases h),fun _ h=>(by cases h),List.Pairwise.nil,fun _ h=>(by cases h)⟩,both_flip st.holds,fun k hk=>?_⟩⟩
 rcases st.foot k (Or.symm hk) with hk | hk
 ·exact .inl (Or.symm hk)
 ·exact .inr hk
end
section
variable {P : Program} {f : Frm} {T T' : TypeId} {s x y : Operand} {v : Value} {w0 : World} {F : Nat → Prop} {L L' : List Asrt} {C : World → Prop}
variable {n : Nat} {ops rest : List Oper} {Q : Post} {p : String} {af : Array Edge} {d : Nat}
theorem LR.store_obj {ad : Addr} {z z' : Asrt} (hx : f.ev x = .pointer (some ad)) (hv : f.ev y = v) (hs : Sel L z z' L') (he : z.excl = true) (hst : Stores P T ad v z z') (hd : z'.dep)
  (k : LR false P n ops rest Q f (St w0 F L')) : LR false P n ops (⟨none,.store T x y,T',p,af,none⟩ :: rest) Q f (St w0 F L) := by
 intro w hw a ha
 refine wpList_plain rfl fun K hK=>?_
 obtain ⟨w',hr',st⟩ := hst w (hw.holds z hs.mem)
 have hr : (execOp a.eval ⟨none,.store T x y,T',p,af,none⟩).run P w = .ok .skip w' := by
  rw [ha.eval]
  simp only [execOp,hx,hv,Instr.storeAt,Instr.sureAddr,Sem.run_bind,Sem.run_pure,Result.andThen_ok,hr']
 simp only [Oper.wp,hr,Oper.upon_skip]
 exact hK _ _ (k _ (hw.did hs he st hd) _ (ha.put_none undef))
theorem made_flat (cs : List Value) (hc : 0 < cs.length) : ∀ m : Nat,(madeCells cs.toArray (m * cs.length)).toList = (List.replicate m cs).flatten := by
 intro m
 induction m with
 | zero=>simp [madeCells]
 | succ m ih=>
  have e : (madeCells cs.toArray ((m + 1) * cs.length)).toList = (madeCells cs.toArray (m * cs.length)).toList ++ cs := by
   refine List.ext_getElem (by simp [Nat.succ_mul,size_madeCells]) fun i h1 h2=>?_
   simp only [Array.getElem_toList,madeCells,Array.getElem_map,Array.getElem_range,Array.toList_map,Array.toList_range,List.size_toArray]
   have hi : i < (m + 1) * cs.length := by simpa [size_madeCells] using h1
   by_cases hlt : i < m * cs.length
   ·rw [List.getElem_append_left (by simpa using hlt)];simp
   ·rw [List.getElem_append_right (by simpa using hlt)]
    have hmod : i % cs.length = i - m * cs.length := by
     have h3 : i = (i - m * cs.length) + cs.length * m := by rw [Nat.mul_comm cs.length m];omega
     have h4 : i - m * cs.length < cs.length := by rw [Nat.succ_mul] at hi;omega
     rw [h3,Nat.add_mul_mod_self_left,Nat.mod_eq_of_lt h4,← h3]
    have h5 : i - m * cs.length < cs.length := by rw [Nat.succ_mul] at hi;omega
    simp only [List.length_map,List.length_range]
    simp [hmod,h5]
  rw [e,ih,List.replicate_succ']
  simp
theorem LR.makeSlice {E : TypeId} {sz by_ m : Nat} {cs : List Value} {kl kc : IntKind} [h : SliceOf P T E sz by_] [hz : ZeroOf P E cs] (hx : f.ev x = .int kl (m : Int)) (hy : f.ev y = .int kc (m : Int)) (hb : by_ * m ≤ 281474976710656) (hm : m ≤ 281474976710656) (hl : Nat.beq cs.length sz = true) (hd : Nat.blt d n = true)
  (k : ∀ b,LR false P n ops rest Q (upd f d (.slice (some ⟨b,0,none⟩) m m)) (St w0 F (.own b (.cells (List.replicate m cs).flatten.toArray E (0,0)) :: L))) :
  LR false P n ops (⟨some d,.makeSlice T x y,T',p,af,none⟩ :: rest) Q f (St w0 F L) := by
 intro w hw a ha
 refine wpList_plain rfl fun K hK=>?_
 have hinf := h.inf
 have hpos := h.pos
 have hl' := Nat.eq_of_beq_eq_true hl
 obtain ⟨z,hzz,hzs⟩ := h.zero
 obtain ⟨z2,hz2,hzc⟩ := hz.zero
 cases hi : P.info? E with
 | none=>simp [hi] at hinf
 | some inf=>
  simp only [hi,Option.map_some,Option.some.injEq,Prod.mk.injEq] at hinf
  simp only [hi,Option.bind_some] at hzz
  have e2 : z2 = z := by
   have := hz2 w
   simp [zeroValue,typeInfo,hi,hzz] at this
   exact this.symm
  subst e2
  have hb' : ((by_ * m : Nat) : Int) ≤ 281474976710656 := by omega
  have hr0 := run_make (P := P) w T E inf z2 h.und hi hzz kl kc (m : Int) (m : Int) (by omega) (by omega) (by rw [hinf.2,← Int.natCast_mul];exact hb') (by omega)
  have hr : (execOp a.eval ⟨some d,.makeSlice T x y,T',p,af,none⟩).run P w = .ok (.value (.slice (some ⟨w.heap.size,0,none⟩) m m)) { w with heap := w.heap.push (.cells (List.replicate m cs).flatten.toArray E (0,0)) } := by
   rw [ha.eval]
   have e3 : madeCells z2.cells (m * inf.size) = (List.replicate m cs).flatten.toArray := by
    rw [hzc,hinf.1,← hl']
    exact Array.toList_inj.1 (by rw [made_flat cs (by omega)])
   simp only [Int.toNat_natCast,e3] at hr0
   simp only [execOp,hx,hy,Sem.run_bind,hr0,Result.andThen_ok,Sem.run_pure]
   rfl
  simp only [Oper.wp,hr,Oper.upon_value]
  exact hK _ _ (k w.heap.size _ (hw.alloc _) _ (ha.put _ hd))
end
class MapOf (P : Program) (T : TypeId) (q : outParam IntKind) (z : outParam Value) : Prop where
 ex : ∃ k e,P.underlying T = some (.map k e) ∧ P.underlying k = some (.int q) ∧ ∀ w,(zeroValue e).run P w = .ok z w
def ents (q : IntKind) : Nat → List (Int × Value) → List MapEntry
 | _,[]=>[]
 | n,x :: r=>⟨.int q x.1,x.2,n⟩ :: ents q (n + 1) r
theorem ents_snoc (q : IntKind) : ∀ (l : List (Int × Value)) (n : Nat) (x : Int × Value),ents q n (l ++ [x]) = ents q n l ++ [⟨.int q x.1,x.2,n + l.length⟩]
 | [],n,x=>by simp [ents]
 | y :: r,n,x=>by simp [ents,ents_snoc q r (n + 1) x];omega
def mapObj (q : IntKind) (l : List (Int × Value)) : Obj := .map (ents q 0 l).toArray l.length
def findI (key : Int) : List (Int × Value) → Nat → Option (Nat × Value)
 | [],_=>none
 | x :: r,n=>if key = x.1 then some (n,x.2) else findI key r (n + 1)
theorem findNow_ents (q : IntKind) (key : Int) : ∀ (l : List (Int × Value)) (m n : Nat),Instr.findNow (.int q) (.int q key) (ents q m l) n = some (findI key l n)
 | [],m,n=>by simp [ents,Instr.findNow,findI]
 | x :: r,m,n=>by
  have e : Instr.sameNow (.int q) (.int q key) (.int q x.1) = some (decide (key = x.1)) := by
   simp only [Instr.sameNow]
   congr 1
  simp only [ents,Instr.findNow,e,findI]
  by_cases h : key = x.1
  ·simp [h]
  ·simp [h,findNow_ents q key r (m + 1) (n + 1)]
theorem Keep.setObj (w : World) (r : Nat) (o : Obj) {F : Nat → Prop} (hF : F r) : Keep F w { w with heap := w.heap.setIfInBounds r o } :=
 ⟨rfl,rfl,rfl,by simp,fun k _ hk=>by
  have : k ≠ r := fun e=>hk (e ▸ hF)
  simp [Ne.symm this],fun _ h=>(by cases h),fun _ h=>(by cases h),fun _ h=>(by cases h),List.Pairwise.nil,fun _ h=>(by cases h)⟩
section
variable {P : Program} {n m : Nat} {f : Frm} {fn : Func} {K : Value → World → Prop} {w0 : World} {F : Nat → Prop} {L : List Asrt} {t u : Tmp} {T : TypeId} {b : Nat} {cs : List Value} {E : TypeId} {fr : Nat × Nat}
theorem load_own_all (h : Agg P T m) {w : World} (hb : w.heap[b]? = some (.cells cs.toArray E fr)) (hl : cs.length = m) : (loadVar T ⟨b,0,none⟩).run P w = .ok (.agg cs.toArray) w :=
 run_load_agg h hl fun j v hj=>by rw [addr_add,cell_own hb];simpa using hj
theorem ret1c (hr : fn.results = #[.cell t T]) (h : Agg P T m) (hp : f t = .pointer (some ⟨b,0,none⟩)) (hm : Asrt.own b (.cells cs.toArray E fr) ∈ L) (hl : Nat.beq cs.length m = true) (hk : ∀ w,St w0 F L w → K (.agg cs.toArray) w) :
  At (finK P fn n K) .ret f (St w0 F L) := by
 intro w hw a ha
 refine bodyPost_ret (v := .agg cs.toArray) ?_ ha.1 ⟨_,rfl,hk w hw⟩
 have hld := load_own_all (P := P) h (hw.own_at hm) (Nat.eq_of_beq_eq_true hl)
 have hp' : a.tmps.getD t undef = .pointer (some ⟨b,0,none⟩) := by rw [ha.2.2];exact hp
 simp [results,hr,hp',asAddr,hld,-Array.getD_eq_getD_getElem?]
theorem ret2c (hr : fn.results = #[.cell t T,.tmp u]) (h : Agg P T m) (hp : f t = .pointer (some ⟨b,0,none⟩)) (hm : Asrt.own b (.cells cs.toArray E fr) ∈ L) (hl : Nat.beq cs.length m = true) (hk : ∀ w,St w0 F L w → K (.tuple [.agg cs.toArray,f u].toArray) w) :
  At (finK P fn n K) .ret f (St w0 F L) := by
 intro w hw a ha
 refine bodyPost_ret (v := .tuple #[.agg cs.toArray,f u]) ?_ ha.1 ⟨_,rfl,hk w hw⟩
 have hld := load_own_all (P := P) h (hw.own_at hm) (Nat.eq_of_beq_eq_true hl)
 have hp' : a.tmps.getD t undef = .pointer (some ⟨b,0,none⟩) := by rw [ha.2.2];exact hp
 have hu' : a.tmps.getD u undef = f u := ha.2.2 u
 simp [results,hr,hp',hu',asAddr,hld,-Array.getD_eq_getD_getElem?]
end
section
variable {P : Program} {f : Frm} {T T' : TypeId} {x y z : Operand} {v zv : Value} {w0 : World} {F : Nat → Prop} {L L' : List Asrt}
variable {n : Nat} {ops rest : List Oper} {Q : Post} {p : String} {af : Array Edge} {d : Nat} {q : IntKind}
theorem LR.makeMap [h : MapOf P T q zv] (hd : Nat.blt d n = true) (k : ∀ b,LR false P n ops rest Q (upd f d (.map (some b))) (St w0 F (.own b (mapObj q []) :: L))) :
  LR false P n ops (⟨some d,.makeMap T none,T',p,af,none⟩ :: rest) Q f (St w0 F L) := by
 intro w hw a ha
 refine wpList_plain rfl fun K hK=>?_
 have hr : (execOp a.eval ⟨some d,.makeMap T none,T',p,af,none⟩).run P w = .ok (.value (.map (some w.heap.size))) { w with heap := w.heap.push (mapObj q []) } := by
  simp [execOp,Instr.makeMap,newObj,Sem.run,mapObj,ents]
 simp only [Oper.wp,hr,Oper.upon_value]
 exact hK _ _ (k w.heap.size _ (hw.alloc _) _ (ha.put _ hd))
theorem LR.insert {b : Nat} {l : List (Int × Value)} {key : Int} [h : MapOf P T q zv] (hx : f.ev x = .map (some b)) (hy : f.ev y = .int q key) (hz : f.ev z = v)
  (hs : Sel L (.own b (mapObj q l)) (.own b (mapObj q (l ++ [(key,v)]))) L') (hnew : (findI key l 0).isNone = true)
  (k : LR false P n ops rest Q f (St w0 F L')) : LR false P n ops (⟨none,.insert T x y z,T',p,af,none⟩ :: rest) Q f (St w0 F L) := by
 intro w hw a ha
 refine wpList_plain rfl fun K hK=>?_
 obtain ⟨kt,et,ht,hk,_⟩ := h.ex
 have hb : w.heap[b]? = some (.map (ents q 0 l).toArray l.length) := hw.own_at hs.mem
 have hfind : (Instr.findKey kt (.int q key) (ents q 0 l)).run P w = .ok none w := by
  refine MapKept.run_findKey hk ?_
  rw [findNow_ents]
  cases hf : findI key l 0 with
  | none=>rfl
  | some r=>rw [hf] at hnew;cases hnew
 have hr : (execOp a.eval ⟨none,.insert T x y z,T',p,af,none⟩).run P w = .ok .skip { w with heap := w.heap.setIfInBounds b (mapObj q (l ++ [(key,v)])) } := by
  rw [ha.eval]
  have e : Obj.map ((ents q 0 l).toArray.push ⟨.int q key,v,l.length⟩) (l.length + 1) = mapObj q (l ++ [(key,v)]) := by
   simp [mapObj,ents_snoc]
  simp only [execOp,hx,hy,hz,Instr.mapUpdate,Sem.run_bind,run_underlying ht,Result.andThen_ok,MapKept.run_getObj_map hb,MapKept.run_checkKey (k := .int q key) hk (by rfl) _ 9999,hfind,MapKept.run_setObj_map _ hb,e,Sem.run_pure]
 simp only [Oper.wp,hr,Oper.upon_skip]
 have hsz : b < w.heap.size := (Array.getElem?_eq_some_iff.1 hb).1
 refine hK _ _ (k _ ?_ _ (ha.put_none undef))
 exact hw.turn hs rfl (Keep.setObj w b _ rfl) (by show (w.heap.setIfInBounds b _)[b]? = _;simp [hsz]) (fun k hk=>.inl hk) (Asrt.dep_own _ _)
theorem Ev.lookup_ok {b : Nat} {l : List (Int × Value)} {key : Int} {r : Option (Nat × Value)} [h : MapOf P T q zv] (hx : f.ev x = .map (some b)) (hy : f.ev y = .int q key) (hm : .own b (mapObj q l) ∈ L) (hr : findI key l 0 = r) :
  Ev P (St w0 F L) f (.lookup T x y true) T' (.tuple [(r.map Prod.snd).getD zv,.bool r.isSome].toArray) := fun w hw d p af g=>by
 obtain ⟨kt,et,ht,hk,hz⟩ := h.ex
 have hb : w.heap[b]? = some (.map (ents q 0 l).toArray l.length) := hw.own_at hm
 have hfind : (Instr.findKey kt (.int q key) (ents q 0 l)).run P w = .ok r w := by
  refine MapKept.run_findKey hk ?_
  rw [findNow_ents,hr]
 cases r with
 | none=>simp [execOp,hx,hy,Instr.lookup,run_underlying ht,MapKept.run_getObj_map hb,MapKept.run_checkKey (k := .int q key) hk (by rfl) _ 9999,hfind,hz,Result.andThen]
 | some s=>simp [execOp,hx,hy,Instr.lookup,run_underlying ht,MapKept.run_getObj_map hb,MapKept.run_checkKey (k := .int q key) hk (by rfl) _ 9999,hfind,Result.andThen]
end
end Go.Hb
namespace Go.Hb
open Go.ChangeShapes Go.WideShapes
def Opn (P : Program) (t : TypeId) (G : World → List Value → Prop) : Prop :=
 ∀ (H : Type) (enc : TypeId × Value → H) (w : World) (base fuel : Nat) (cs : List Value) (x : DataW H × List MemPlace),
  DataW.trod enc P w base (fun _=>true) true fuel t cs = some x → (∀ y ∈ x.1.weights P t,y ≤ reachBytes) → G w cs
section
variable {P : Program} {t e : TypeId}
theorem Opn.mono {G G' : World → List Value → Prop} (h : Opn P t G) (hg : ∀ w cs,G w cs → G' w cs) : Opn P t G' := fun H enc w base fuel cs x hx hw=>hg w cs (h H enc w base fuel cs x hx hw)
theorem opn_int {k : IntKind} (ht : P.underlying t = some (.int k)) : Opn P t (fun _ cs=>∃ n,cs = [.int k n] ∧ (Lit.int k n).wf = true) := by
 intro H enc w base fuel cs x h _
 obtain ⟨n,h1,_,h2⟩ := DataW.trod_int ht h
 exact ⟨n,h1,h2⟩
theorem opn_bool (ht : P.underlying t = some .bool) : Opn P t (fun _ cs=>∃ b,cs = [.bool b]) := by
 intro H enc w base fuel cs x h _
 obtain ⟨b,h1,_⟩ := DataW.trod_bool ht h
 exact ⟨b,h1⟩
theorem mem_weightsAll {H : Type} {d : DataW H} {y : Nat} (hy : y ∈ d.weights P e) : ∀ {l : List (DataW H)},d ∈ l → y ∈ DataW.weightsAll P e l
 | c :: r,h=>by
  simp only [DataW.weightsAll,List.mem_append]
  rcases List.mem_cons.1 h with rfl | h
  ·exact .inl hy
  ·exact .inr (mem_weightsAll hy h)
theorem mem_weightsEach {H : Type} {d : DataW H} {y : Nat} {t : TypeId} (hy : y ∈ d.weights P t) : ∀ {ts : List TypeId} {ds : List (DataW H)} {i : Nat},ts[i]? = some t → ds[i]? = some d → y ∈ DataW.weightsEach P ts ds
 | [],_,_,h,_=>by simp at h
 | _ :: _,[],_,_,h=>by simp at h
 | a :: ts,b :: ds,0,h1,h2=>by
  simp only [List.getElem?_cons_zero,Option.some.injEq] at h1 h2
  subst h1;subst h2
  simp only [DataW.weightsEach,List.mem_append]
  exact .inl hy
 | a :: ts,b :: ds,i + 1,h1,h2=>by
  simp only [List.getElem?_cons_succ] at h1 h2
  simp only [DataW.weightsEach,List.mem_append]
  exact .inr (mem_weightsEach hy h1 h2)
theorem rd_flat {w : World} {b off sz : Nat} : ∀ (css : List (List Value)) (k : Nat),(∀ i c,css[i]? = some c → c.length = sz ∧ ∀ j v,c[j]? = some v → w.cell? ⟨b,off + ((k + i) * sz + j),none⟩ = some v) →
  ∀ j v,css.flatten[j]? = some v → w.cell? ⟨b,off + (k * sz + j),none⟩ = some v
 | [],_,_,j,v,h=>by simp at h
 | c :: r,k,hc,j,v,h=>by
  obtain ⟨hl,h0⟩ := hc 0 c rfl
  rw [List.flatten_cons,List.getElem?_append] at h
  split at h
  ·have := h0 j v h;simpa using this
  ·rename_i hge
   have ih := rd_flat r (k + 1) (fun i c' hi=>by
    have := hc (i + 1) c' (by simpa using hi)
    rw [show k + (i + 1) = k + 1 + i by omega] at this
    exact this) (j - c.length) v h
   have e : (k + 1) * sz + (j - c.length) = k * sz + j := by rw [Nat.add_mul,hl];omega
   rw [e] at ih;exact ih
theorem opn_slice {sz by_ : Nat} {G : World → List Value → Prop} (ht : P.underlying t = some (.slice e)) (hs : P.cellsOf e = sz) (hpos : 0 < sz) (hb : P.bytesOf e = by_) (he : Opn P e G) :
  Opn P t (fun w cs=>∃ (a : Option Addr) (len cap : Nat) (css : List (List Value)),cs = [.slice a len cap] ∧ css.length = len ∧ (∀ c ∈ css,G w c ∧ c.length = sz) ∧ Rd w a css.flatten ∧ (a = none → cap = 0) ∧ len ≤ cap ∧ len * by_ ≤ reachBytes) := by
 intro H enc w base fuel cs x h hw
 rcases DataW.trod_slice ht h with ⟨rfl,rfl⟩ | ⟨a,len,cap,elems,rest,n,rfl,rfl,rfl,hbase,hlc,hcm,hel,hat,_,_⟩
 ·exact ⟨none,0,0,[],rfl,rfl,fun c hc=>by simp at hc,Rd.nil w none,fun _=>rfl,Nat.le_refl _,by simp [reachBytes]⟩
 ·rw [hs] at hat
  have key : ∀ i,i < len → ∃ c y,w.cells? base (a.add (i * sz)) sz = some c ∧ DataW.trod enc P w base (fun _=>true) true n e c = some y ∧ elems[i]? = some y := by
   intro i hi
   have h1 := hat i hi
   rw [List.getElem?_eq_getElem (by omega),Option.bind_eq_some_iff] at h1
   obtain ⟨c,h2,h3⟩ := h1
   exact ⟨c,_,h2,h3,List.getElem?_eq_getElem (by omega)⟩
  let css := (List.range len).map fun i=>(w.cells? base (a.add (i * sz)) sz).getD []
  have hget : ∀ i c,css[i]? = some c → i < len ∧ w.cells? base (a.add (i * sz)) sz = some c := by
   intro i c hi
   simp only [css,List.getElem?_map,Option.map_eq_some_iff] at hi
   obtain ⟨j,hj,hc⟩ := hi
   have hlt : i < len := by
    rcases Nat.lt_or_ge i len with h | h
    ·exact h
    ·rw [List.getElem?_eq_none (by simpa using h)] at hj;cases hj
   rw [List.getElem?_range hlt] at hj
   cases hj
   obtain ⟨c',y,h1,_,_⟩ := key i hlt
   rw [h1] at hc ⊢
   exact ⟨hlt,by simpa using hc⟩
  have hw0 : ∀ y ∈ (DataW.slice (elems.map (·.1)) (rest.map (·.1))).weights P t,y ≤ reachBytes := hw
  simp only [DataW.weights,ht] at hw0
  refine ⟨some a,len,cap,css,rfl,by simp [css],?_,?_,fun h=>(by cases h),hlc,?_⟩
  ·intro c hc
   obtain ⟨i,hi,rfl⟩ := List.getElem_of_mem hc
   obtain ⟨hlt,hci⟩ := hget i _ (List.getElem?_eq_getElem hi)
   obtain ⟨c',y,h1,h2,h3⟩ := key i hlt
   rw [hci] at h1
   cases h1
   refine ⟨he H enc w base n _ y h2 (fun z hz=>hw0 z ?_),(World.cells?_some hci).2.1⟩
   refine List.mem_cons_of_mem _ (List.mem_append_left _ (mem_weightsAll hz ?_))
   exact List.mem_map.2 ⟨y,List.mem_of_getElem? h3,rfl⟩
  ·by_cases h0 : len = 0
   ·subst h0
    simpa [css] using Rd.nil w (some a)
   ·obtain ⟨c0,_,h1,_,_⟩ := key 0 (by omega)
    obtain ⟨_,hl0,hc0⟩ := World.cells?_some h1
    have h2 := hc0 0 hpos
    rw [List.getElem?_eq_getElem (by omega)] at h2
    have hsp : a.spot = none := by simpa [Addr.add] using World.cell?_spot h2
    obtain ⟨b,off,spot⟩ := a
    simp only at hsp
    subst hsp
    intro j v hj
    refine ⟨_,rfl,?_⟩
    rw [addr_add]
    have := rd_flat (w := w) (b := b) (off := off) (sz := sz) css 0 (fun i c hi=>by
     obtain ⟨_,hci⟩ := hget i c hi
     obtain ⟨_,hl,hc⟩ := World.cells?_some hci
     refine ⟨hl,fun j v hj=>?_⟩
     have hjl : j < sz := by have := (List.getElem?_eq_some_iff.1 hj).1;omega
     have := hc j hjl
     rw [hj,addr_add,addr_add] at this
     rw [Nat.zero_add,← Nat.add_assoc];exact this) j v hj
    simpa using this
  ·have := hw0 _ (List.mem_cons_self)
   rw [hb,List.length_map,List.length_map,hel] at this
   exact Nat.le_trans (Nat.mul_le_mul_right _ (Nat.le_add_right _ _)) this
theorem opn_struct {fs : Array Field} (ht : P.underlying t = some (.struct fs)) :
  Opn P t (fun w cs=>cs.length = P.cellsOf t ∧ ∀ (i : Nat) (f : Field),fs[i]? = some f → ∀ G,Opn P f.type G → G w ((cs.drop f.offset).take (P.cellsOf f.type))) := by
 intro H enc w base fuel cs x h hw
 obtain ⟨xs,n,rfl,rfl,hl,hsz,hat⟩ := DataW.trod_struct ht h
 refine ⟨hl,fun i f hf G hG=>?_⟩
 have h1 := hat i f hf
 have hi : i < xs.length := by rw [hsz];exact (Array.getElem?_eq_some_iff.1 hf).1
 rw [List.getElem?_eq_getElem hi] at h1
 refine hG H enc w base n _ _ h1 (fun y hy=>hw y ?_)
 simp only [DataW.weights,ht]
 refine mem_weightsEach (i := i) hy ?_ ?_
 ·simp only [List.getElem?_map,Array.getElem?_toList,hf,Option.map_some]
 ·simp only [List.getElem?_map,List.getElem?_eq_getElem hi,Option.map_some]
theorem opn_arg {H : Type} {enc : TypeId × Value → H} {G : World → List Value → Prop} (hG : Opn P t G) {W : World} {ts' : List TypeId} {ds gs : List (DataW H)} {v : Value} {d : DataW H} {ps : List MemPlace} {i : Nat}
  (h : DataW.Trod enc P W 0 (fun _=>true) true t v d ps) (hw : (DataW.weightsEach P ts' (ds ++ gs)).all (·≤ reachBytes) = true) (hi : ts'[i]? = some t) (hd : ds[i]? = some d) : G W v.cells.toList := by
 obtain ⟨fuel,hf⟩ := h
 refine hG H enc W 0 fuel _ _ hf (fun y hy=>?_)
 have := List.all_eq_true.1 hw y (mem_weightsEach (i := i) hy hi (by rw [List.getElem?_append_left ((List.getElem?_eq_some_iff.1 hd).1)];exact hd))
 simpa using this
end
theorem CallsTo.calls {P : Program} {g : FuncId} {args : List Value} {w : World} {K : Value → World → Prop} {R : Ending → World → Prop} (h : CallsTo P g args w K) (hk : ∀ v w',K v w' → R (.returned v) w') : Calls P g args.toArray w R :=
 Calls.mono h fun _ _ ⟨v,he,hv⟩=>by subst he;exact hk v _ hv
theorem Grew.keptBut {W W' : World} (h : Grew W W') (may : MemPlace → Prop) : W.keptBut W' may := by
 refine ⟨h.os,h.output,fun i hi=>?_⟩
 rw [h.keep i hi (fun x=>x)]
 cases W.heap[i]? with
 | none=>rfl
 | some o=>cases o <;> simp
theorem Grew.sameAt {W W' : World} (h : Grew W W') (p : MemPlace) (hp : p.block < W.heap.size) : W.sameAt W' p := by
 have hk := h.keep p.block hp (fun x=>x)
 cases p with
 | cell b off=>simp only [World.sameAt,World.cell?];simp only [MemPlace.block] at hk;rw [hk]
 | map b=>exact hk
section
variable {H : Type} {enc : TypeId × Value → H} {P : Program}
theorem trodAll_grew (K : Kids P (·< P.types.size)) (hz : ∀ t e,t < P.types.size → P.underlying t = some (.slice e) → 0 < P.cellsOf e) {W W' : World} (hg : Grew W W') {sp : Nat → Bool} : ∀ {ts : List TypeId} {vs : List Value} {ds : List (DataW H)} {ps : List MemPlace},
  (∀ t ∈ ts,t < P.types.size) → (∀ p ∈ ps,p.block < W.heap.size) → (∀ p ∈ ps,sp p.block = true) → DataW.TrodAll enc P W 0 (fun _=>true) true ts vs ds ps → DataW.TrodAll enc P W' 0 sp true ts vs ds ps
 | [],[],[],_,_,_,_,h=>h
 | t :: ts,v :: vs,d :: ds,ps,hT,hlt,hsp,⟨p,q,h1,h2,e⟩=>by
  subst e
  refine ⟨p,q,?_,trodAll_grew K hz hg (fun t ht=>hT t (List.mem_cons_of_mem _ ht)) (fun x hx=>hlt x (List.mem_append_right _ hx)) (fun x hx=>hsp x (List.mem_append_right _ hx)) h2,rfl⟩
  obtain ⟨n,hn⟩ := h1
  exact ⟨n,DataW.trod_stays K (fun {t e} a b=>hz t e a b) (fun h=>by cases h) (hT t (List.mem_cons_self)) hn (fun x hx=>hg.sameAt x (hlt x (List.mem_append_left _ hx))) (fun x hx=>hsp x (List.mem_append_left _ hx))⟩
theorem law_post (K : Kids P (·< P.types.size)) (hz : ∀ t e,t < P.types.size → P.underlying t = some (.slice e) → 0 < P.cellsOf e) {f : Func} {s : ChangeSpec} {apart fresh handsOn : Bool} {W W' : World} {args : Array Value} {ds gs : List (DataW H)} {before : List MemPlace} {tb : TypeId}
  (hW : DataW.Whole enc P f.params.toList s.vars apart W args.toList ds gs before) (hg : Grew W W') (hv : s.vars = []) (hs : s.fn H (ds ++ gs) = { results := [.lit (.bool true)],args := ds })
  (hr : f.resultTypes = #[tb]) (hb : P.underlying tb = some .bool) (hT : ∀ t ∈ f.params.toList,t < P.types.size) : s.post enc P f apart fresh handsOn false W args (.bool true) W' := by
 have hlt := hW.lt
 have hW0 := hW
 obtain ⟨p,q,hA,hV,rfl,hfz,hnd⟩ := hW0
 rw [hv] at hV
 obtain ⟨rfl,rfl⟩ := trodVars_none hV
 simp only [List.append_nil] at *
 have hres : ∀ (b : Nat) (sp : Nat → Bool) (hd : Bool),DataW.TrodAll enc P W' b sp hd [tb] [Value.bool true] [.lit (.bool true)] [] := fun b sp hd=>trodAll_mk1 ⟨1,by simp [DataW.trod,Value.cells,hb]⟩
 have hrl : (Value.bool true).resultList f.resultTypes.size = [Value.bool true] := by rw [hr];rfl
 refine ⟨ds,[],p,[],p,[],hW,?_,?_,?_,?_,fun h=>by cases h⟩
 ·simp only [List.append_nil,hs,hr];exact hres _ _ _
 ·simp only [List.append_nil,hs];exact trodAll_grew K hz hg hT hlt (fun x hx=>by simpa using hlt x hx) hA
 ·simp only [List.append_nil,hs,hv];rfl
 ·exact hg.keptBut _
end
end Go.Hb
namespace Go.Hb
theorem mH {α : Type} (a : α) (l : List α) : a ∈ a :: l := List.Mem.head l
theorem mT {α : Type} {a : α} (b : α) {l : List α} (h : a ∈ l) : a ∈ b :: l := List.Mem.tail b h
theorem sH (a a' : Asrt) (L : List Asrt) : Sel (a :: L) a a' (a' :: L) := Sel.head a a' L
theorem sT {L L' : List Asrt} {a a' : Asrt} (x : Asrt) (h : Sel L a a' L') : Sel (x :: L) a a' (x :: L') := Sel.tail x h
section
variable {w0 w : World} {F : Nat → Prop} {R : List Asrt} {a b0 b1 b2 b3 b4 b5 b6 : Asrt}
theorem St.g0 (h : St w0 F (a :: R) w) : a.holds w := h.holds _ (mH _ _)
theorem St.g1 (h : St w0 F (b0 :: a :: R) w) : a.holds w := h.holds _ (mT _ (mH _ _))
end
def lookV : Value → Option Value
 | .bool b=>some (.bool b)
 | .int k n=>some (.int k n)
 | .pointer a=>some (.pointer a)
 | .slice a l c=>some (.slice a l c)
 | .map r=>some (.map r)
 | .func g a b=>some (.func g a b)
 | .nilFunc=>some .nilFunc
 | .agg cs=>some (.agg cs)
 | .tuple cs=>some (.tuple cs)
 | _=>none
theorem lookV_eq {v u : Value} (h : lookV v = some u) : v = u := by cases v <;> simp [lookV] at h <;> exact h
def sameK : (k k' : IntKind) → Option (PLift (k = k'))
 | .i8,.i8=>some ⟨rfl⟩ | .i16,.i16=>some ⟨rfl⟩ | .i32,.i32=>some ⟨rfl⟩ | .i64,.i64=>some ⟨rfl⟩
 | .u8,.u8=>some ⟨rfl⟩ | .u16,.u16=>some ⟨rfl⟩ | .u32,.u32=>some ⟨rfl⟩ | .u64,.u64=>some ⟨rfl⟩
 | _,_=>none
def cmpV (op : BinOp) (k : IntKind) (a b : Int) : Option Value :=
 match op with
 | .eql=>some (.bool (decide (a = b)))
 | .neq=>some (.bool (!decide (a = b)))
 | .lss=>some (.bool (decide (a < b)))
 | .leq=>some (.bool (decide (a ≤ b)))
 | .gtr=>some (.bool (decide (b < a)))
 | .geq=>some (.bool (decide (b ≤ a)))
 | .and=>some (.int k (andI k a b))
 | .or=>some (.int k (orI k a b))
 | .xor=>some (.int k (xorI k a b))
 | .andNot=>some (.int k (andNotI k a b))
 | _=>none
def binV (op : BinOp) : Value → Value → Option Value
 | .int k a,.int k' b=>match sameK k k' with | some _=>cmpV op k a b | none=>none
 | _,_=>none
def evV (f : Frm) : Op → Option Value
 | .move x=>lookV (f.ev x)
 | .assign x=>lookV (f.ev x)
 | .pick c a b=>match f.ev c with | .bool true=>lookV (f.ev a) | .bool false=>lookV (f.ev b) | _=>none
 | .binOp op _ x y _=>binV op (f.ev x) (f.ev y)
 | .unOp .not _ x=>match f.ev x with | .bool b=>some (.bool (!b)) | _=>none
 | .nilCheck x=>match f.ev x with | .pointer (some a)=>some (.pointer (some a)) | _=>none
 | .extract x i=>match f.ev x with | .tuple cs=>(cs.toList[i]?).bind lookV | _=>none
 | .makeFunc fn xs ys=>some (.func fn (xs.toList.map f.ev).toArray (ys.toList.map f.ev).toArray)
 | _=>none
section
variable {P : Program} {C : World → Prop} {f : Frm} {T T' T'' : TypeId} {x y z : Operand} {v : Value}
theorem binV_sound {op : BinOp} (h : binV op (f.ev x) (f.ev y) = some v) : Ev P C f (.binOp op T' x y T'') T v := by
 cases hx : f.ev x <;> cases hy : f.ev y <;> simp only [hx,hy,binV,reduceCtorEq] at h
 rename_i k a k' b
 split at h
 ·rename_i e _
  have e := e.down
  subst e
  cases op <;> simp only [cmpV,Option.some.injEq,reduceCtorEq] at h <;> subst h
  ·exact Ev.and hx hy
  ·exact Ev.or hx hy
  ·exact Ev.xor hx hy
  ·exact Ev.andNot hx hy
  ·exact Ev.eql hx hy
  ·exact Ev.neq hx hy
  ·exact Ev.lss hx hy
  ·exact Ev.leq hx hy
  ·exact Ev.gtr hx hy
  ·exact Ev.geq hx hy
 ·cases h
theorem evV_sound {op : Op} (h : evV f op = some v) : Ev P C f op T v := by
 cases op with
 | move x=>exact Ev.moveV (lookV_eq h)
 | assign x=>exact Ev.assignV (lookV_eq h)
 | pick c a b=>
  simp only [evV] at h
  split at h
  ·rename_i hc;exact lookV_eq h ▸ Ev.pick_t hc
  ·rename_i hc;exact lookV_eq h ▸ Ev.pick_f hc
  ·cases h
 | binOp op t x y t'=>exact binV_sound h
 | unOp op t x=>
  cases op with
  | not=>
   simp only [evV] at h
   split at h
   ·rename_i hc;cases h;exact Ev.not hc
   ·cases h
  | _=>cases h
 | nilCheck x=>
  simp only [evV] at h
  split at h
  ·rename_i hc;cases h;exact Ev.nilCheck hc
  ·cases h
 | extract x i=>
  simp only [evV] at h
  split at h
  ·rename_i cs hc
   obtain ⟨l⟩ := cs
   obtain ⟨u,hu,hl⟩ := Option.bind_eq_some_iff.1 h
   exact lookV_eq hl ▸ Ev.extract hc hu
  ·cases h
 | makeFunc fn xs ys=>
  cases h
  exact Ev.makeFunc (xs := xs.toList) (ys := ys.toList)
 | _=>cases h
end
class EqOf (P : Program) (T : TypeId) (e : outParam (Value → Value → Option Bool)) : Prop where
 eq : ∀ {C : World → Prop} {f : Frm} {T1 T2 : TypeId} {x y : Operand} {b : Bool},e (f.ev x) (f.ev y) = some b → Ev P C f (.binOp .eql T x y T2) T1 (.bool b)
 ne : ∀ {C : World → Prop} {f : Frm} {T1 T2 : TypeId} {x y : Operand} {b : Bool},e (f.ev x) (f.ev y) = some b → Ev P C f (.binOp .neq T x y T2) T1 (.bool (!b))
def eqPtr : Value → Value → Option Bool
 | .pointer a,.pointer none=>some a.isNone
 | _,_=>none
def eqSl : Value → Value → Option Bool
 | .slice a _ _,.slice none 0 0=>some a.isNone
 | _,_=>none
def eq2V : Value → Value → Option Bool
 | .agg ⟨[.int .i64 a,.int .i64 b]⟩,.agg ⟨[.int .i64 a',.int .i64 b']⟩=>some (decide ([a,b] = [a',b']))
 | _,_=>none
def eq4V : Value → Value → Option Bool
 | .agg ⟨[.int .i64 a,.int .i64 b,.int .i64 c,.int .i64 d]⟩,.agg ⟨[.int .i64 a',.int .i64 b',.int .i64 c',.int .i64 d']⟩=>some (decide ([a,b,c,d] = [a',b',c',d']))
 | _,_=>none
theorem eqPtr_inv {v u : Value} {b : Bool} (h : eqPtr v u = some b) : ∃ x,v = .pointer x ∧ u = .pointer none ∧ b = x.isNone := by
 unfold eqPtr at h;split at h
 ·cases h;exact ⟨_,rfl,rfl,rfl⟩
 ·cases h
theorem eqSl_inv {v u : Value} {b : Bool} (h : eqSl v u = some b) : ∃ x l c,v = .slice x l c ∧ u = .slice none 0 0 ∧ b = x.isNone := by
 unfold eqSl at h;split at h
 ·cases h;exact ⟨_,_,_,rfl,rfl,rfl⟩
 ·cases h
theorem eq2V_inv {v u : Value} {r : Bool} (h : eq2V v u = some r) : ∃ a b a' b',v = .agg [.int .i64 a,.int .i64 b].toArray ∧ u = .agg [.int .i64 a',.int .i64 b'].toArray ∧ r = decide ([a,b] = [a',b']) := by
 unfold eq2V at h;split at h
 ·cases h;exact ⟨_,_,_,_,rfl,rfl,rfl⟩
 ·cases h
theorem eq4V_inv {v u : Value} {r : Bool} (h : eq4V v u = some r) : ∃ a b c d a' b' c' d',v = .agg [.int .i64 a,.int .i64 b,.int .i64 c,.int .i64 d].toArray ∧ u = .agg [.int .i64 a',.int .i64 b',.int .i64 c',.int .i64 d'].toArray ∧ r = decide ([a,b,c,d] = [a',b',c',d']) := by
 unfold eq4V at h;split at h
 ·cases h;exact ⟨_,_,_,_,_,_,_,_,rfl,rfl,rfl⟩
 ·cases h
instance {P : Program} {T : TypeId} [h : PtrTo P T] : EqOf P T eqPtr where
 eq := fun hb=>by obtain ⟨_,h1,h2,rfl⟩ := eqPtr_inv hb;exact Ev.ptr_nil h1 h2
 ne := fun hb=>by obtain ⟨_,h1,h2,rfl⟩ := eqPtr_inv hb;exact Ev.ptr_not_nil h1 h2
theorem Ev.slice_not_nil {P : Program} {C : World → Prop} {f : Frm} {T T' T'' : TypeId} {x y : Operand} {E : TypeId} {sz by_ : Nat} [h : SliceOf P T' E sz by_] {a : Option Addr} {l c : Nat} (hx : f.ev x = .slice a l c) (hy : f.ev y = .slice none 0 0) : Ev P C f (.binOp .neq T' x y T'') T (.bool (!a.isNone)) :=
 ev_neq_of (fun w=>by rw [hx,hy];rfl) (by rw [hx,hy];rfl) (fun w=>by rw [hx,hy];exact run_equalIn_slc w _ a l c h.und)
instance {P : Program} {T E : TypeId} {sz by_ : Nat} [h : SliceOf P T E sz by_] : EqOf P T eqSl where
 eq := fun hb=>by obtain ⟨_,_,_,h1,h2,rfl⟩ := eqSl_inv hb;exact Ev.slice_nil h1 h2
 ne := fun hb=>by obtain ⟨_,_,_,h1,h2,rfl⟩ := eqSl_inv hb;exact Ev.slice_not_nil h1 h2
instance {P : Program} {T : TypeId} [h : Eqs P T 2] : EqOf P T eq2V where
 eq := fun hb=>by obtain ⟨_,_,_,_,h1,h2,rfl⟩ := eq2V_inv hb;exact Ev.eq2 h1 h2
 ne := fun hb=>by obtain ⟨_,_,_,_,h1,h2,rfl⟩ := eq2V_inv hb;exact Ev.ne2 h1 h2
instance {P : Program} {T : TypeId} [h : Eqs P T 4] : EqOf P T eq4V where
 eq := fun hb=>by obtain ⟨_,_,_,_,_,_,_,_,h1,h2,rfl⟩ := eq4V_inv hb;exact Ev.eq4 h1 h2
 ne := fun hb=>by obtain ⟨_,_,_,_,_,_,_,_,h1,h2,rfl⟩ := eq4V_inv hb;exact Ev.ne4 h1 h2
def cellV : Value → Option (List Value)
 | .bool b=>some [.bool b]
 | .int k n=>some [.int k n]
 | .pointer a=>some [.pointer a]
 | .slice a l c=>some [.slice a l c]
 | .map r=>some [.map r]
 | .func g a b=>some [.func g a b]
 | .agg ⟨l⟩=>some l
 | _=>none
theorem cell_of {v : Value} {cs : List Value} (h : cellV v = some cs) : v.cells = cs.toArray := by
 cases v <;> simp only [cellV,Option.some.injEq,reduceCtorEq] at h
 all_goals try (subst h;rfl)
def nfL : List Value → Option (List Value)
 | []=>some []
 | a :: r=>match lookV a with
  | some a'=>(match nfL r with | some r'=>some (a' :: r') | none=>none)
  | none=>none
theorem nfL_eq : ∀ {l r : List Value},nfL l = some r → l = r
 | [],r,h=>by simpa [nfL] using h
 | a :: l,r,h=>by
  simp only [nfL] at h
  split at h
  ·rename_i a' ha
   split at h
   ·rename_i r' hr;cases h;rw [nfL_eq hr,lookV_eq ha]
   ·cases h
  ·cases h
def fillN (places : List (Nat × Nat)) : List Value → List (Nat × Value) → Option (List Value)
 | zero,[]=>some zero
 | zero,q :: r=>match cellV q.2 with
  | some cs=>(match (Nat.blt q.1 places.length && Nat.beq cs.length (places.getD q.1 (0,0)).2 && Nat.ble ((places.getD q.1 (0,0)).1 + cs.length) zero.length) with
   | true=>(match nfL (zero.take (places.getD q.1 (0,0)).1 ++ cs ++ zero.drop ((places.getD q.1 (0,0)).1 + cs.length)) with
    | some z=>fillN places z r
    | none=>none)
   | false=>none)
  | none=>none
theorem fillN_eq {places : List (Nat × Nat)} : ∀ {parts : List (Nat × Value)} {zero cs : List Value},fillN places zero parts = some cs → wfParts places zero.length parts = true ∧ fillL places zero parts = cs
 | [],zero,cs,h=>by simp only [fillN,Option.some.injEq] at h;exact ⟨rfl,h⟩
 | q :: r,zero,cs,h=>by
  simp only [fillN] at h
  split at h
  ·rename_i c hc
   have hcl := congrArg Array.toList (cell_of hc)
   split at h
   ·rename_i hw
    split at h
    ·rename_i z hz
     have hz := nfL_eq hz
     simp only [Bool.and_eq_true] at hw
     obtain ⟨h1,h2⟩ := fillN_eq h
     have hlen : z.length = zero.length := by
      rw [← hz]
      have := Nat.le_of_ble_eq_true hw.2
      simp only [List.length_append,List.length_take,List.length_drop];omega
     refine ⟨?_,?_⟩
     ·simp only [wfParts,hcl,hw.1.1,hw.1.2,hw.2,Bool.true_and,hlen ▸ h1]
     ·simp only [fillL,hcl,hz,h2]
    ·cases h
   ·cases h
  ·cases h
def noV : Value → Bool → Bool
 | .bool c,b=>!(c == b)
 | .tuple _,_=>true
 | _,_=>false
section
variable {m : Bool} {P : Program} {n : Nat} {ops rest : List Oper} {Q : Post} {f : Frm} {C : World → Prop} {op : Op} {T T' T'' : TypeId} {p : String} {af : Array Edge} {d : Nat} {v : Value} {x y : Operand} {w0 : World} {F : Nat → Prop} {L L' : List Asrt}
theorem Ev.buildN {parts : List (Nat × Operand)} {zero cs : List Value} {places : List (Nat × Nat)} [h : Build P T' zero places] (hw : fillN places zero (parts.map fun q=>(q.1,f.ev q.2)) = some cs) : Ev P C f (.build T' parts.toArray) T (.agg cs.toArray) := by
 obtain ⟨h1,rfl⟩ := fillN_eq hw
 exact Ev.build h1
theorem kg {dst : Option Tmp} {j dj : Nat} {b : Bool} (hj : (ops[j]?).bind (·.dst) = some dj) (hb : f dj = .bool b) (k : LR m P n ops (⟨dst,op,T,p,af,none⟩ :: rest) Q f C) : LR m P n ops (⟨dst,op,T,p,af,some (j,b)⟩ :: rest) Q f C := LR.guard_yes hj hb k
theorem kG {j dj : Nat} {b : Bool} (hj : (ops[j]?).bind (·.dst) = some dj) (hb : noV (f dj) b = true) (hd : Nat.blt d n = true) (k : LR m P n ops rest Q (upd f d undef) C) : LR m P n ops (⟨some d,op,T,p,af,some (j,b)⟩ :: rest) Q f C :=
 LR.skip_of hj (by cases hx : f dj <;> rw [hx] at hb <;> simp [noV] at hb ⊢;exact fun e=>hb e) hd k
theorem kB {cs : List Value} (hv : cellV (f.ev x) = some cs) (hd : Nat.blt d n = true) (k : ∀ b,LR false P n ops rest Q (upd f d (.pointer (some ⟨b,0,none⟩))) (St w0 F (.own b (.cells cs.toArray T (0,0)) :: L))) :
  LR false P n ops (⟨some d,.box T x,T',p,af,none⟩ :: rest) Q f (St w0 F L) := LR.box (cell_of hv) hd k
theorem kA {cs : List Value} [h : ZeroOf P T cs] (hd : Nat.blt d n = true) (k : ∀ b,LR false P n ops rest Q (upd f d (.pointer (some ⟨b,0,none⟩))) (St w0 F (.own b (.cells cs.toArray T (0,0)) :: L))) :
  LR false P n ops (⟨some d,.alloc T,T',p,af,none⟩ :: rest) Q f (St w0 F L) := LR.alloc hd k
theorem kS {b o q : Nat} {cs vs : List Value} {E : TypeId} [h : Sz P T q] (hx : f.ev x = .pointer (some ⟨b,o,none⟩)) (hv : cellV (f.ev y) = some vs)
  (hs : Sel L (.own b (.cells cs.toArray E (0,0))) (.own b (.cells (splice cs o vs).toArray E (0,0))) L')
  (h1 : (vs.all Value.oneCell' && Nat.beq vs.length q && Nat.ble (o + vs.length) cs.length) = true)
  (k : LR false P n ops rest Q f (St w0 F L')) : LR false P n ops (⟨none,.store T x y,T',p,af,none⟩ :: rest) Q f (St w0 F L) := by
 simp only [Bool.and_eq_true] at h1
 exact LR.store hx (cell_of hv) hs h1.1.1 h1.1.2 h1.2 k
theorem kL {E : TypeId} {sz by_ len : Nat} [h : SliceOf P T E sz by_] {parts : List (Nat × Operand)} {cs : List Value} (hd : Nat.blt d n = true) (hlen : Nat.ble (len * sz) 100000 = true)
  (hp : parts.map (·.1) = List.range len) (hb : BS f sz parts cs)
  (k : ∀ b,LR false P n ops rest Q (upd f d (.slice (some ⟨b,0,none⟩) len len)) (St w0 F (.own b (.cells cs.toArray E (0,0)) :: L))) :
  LR false P n ops (⟨some d,.buildSlice T len parts.toArray,T',p,af,none⟩ :: rest) Q f (St w0 F L) := LR.buildSliceB hd hlen hp hb k
theorem kN {y : Code} (h : CW P n y Q f C) : LR m P n ops [] (thn P n y Q) f C := LR.nil_thn h
theorem kM (h : At Q .normal f C) : LR m P n ops [] Q f C := LR.nil h
theorem kQ {c : Operand} {s t : Code} {b : Bool} (hb : f.ev c = .bool b) (ht : b = true → CW P n s Q f C) (hf : b = false → CW P n t Q f C) : CW P n (.cond c s t) Q f C := CW.cond hb ht hf
theorem kR {op' : Op} {dst : Option Tmp} {j dj : Nat} {b c : Bool} (hj : (ops[j]?).bind (·.dst) = some dj) (hb : f dj = .bool c)
  (yes : c = true → LR m P n ops (⟨dst,op',T,p,af,some (j,b)⟩ :: rest) Q (upd f dj (.bool true)) C)
  (no : c = false → LR m P n ops (⟨dst,op',T,p,af,some (j,b)⟩ :: rest) Q (upd f dj (.bool false)) C) :
  LR m P n ops (⟨dst,op',T,p,af,some (j,b)⟩ :: rest) Q f C := LR.guard_split hj hb yes no
theorem kq {g : FuncId} {xs : List Operand} {ts : Array TypeId} [own : Own P g] (hd : Nat.blt d n = true)
  (h : ∀ w,C w → CallsTo P g (xs.map f.ev) w fun u w'=>u = v ∧ C w') (k : LR m P n ops rest Q (upd f d v) C) :
  LR m P n ops (⟨some d,.call ⟨.value (.func g),xs.toArray,ts⟩,T,p,af,none⟩ :: rest) Q f C := LR.qcall hd h k
end
section
variable {P : Program} {n : Nat} {Q : Post} {f : Frm} {C : World → Prop}
theorem jc {id : Nat} {l : List Oper} [hm : Mixed P] [hc : Drawn C] (hB : Region.lexB .any l.toArray = true) (h : LR true P n l l Q f C) : CW P n (.region id l.toArray true) Q f C := CW.reg_draw hB h
theorem jp {id j : Nat} (hj : Nat.beq j id = false) (h : At Q (.exit j) f C) : At (blk id Q) (.exit j) f C := At.blk_other hj h
end
section
variable {α : Type} {M : List Nat} {f g : Frm} {I : α → Prop} {vs : α → List (Nat × Value)} {D : α → World → Prop} {μ : α → Nat} {i : α} {Q : Post} {C : World → Prop}
end
section
variable {P : Program} {n : Nat} {ops : List Oper} {S : World → Prop} {f : Frm} {K : Frm → Prop} {r : List Nat} {i j dj d : Nat} {op : Op} {T : TypeId} {p : String} {af : Array Edge} {v : Value} {b : Bool}
theorem yn (hi : ops[i]? = some ⟨some d,op,T,p,af,some (j,b)⟩) (hj : (ops[j]?).bind (·.dst) = some dj) (hb : noV (f dj) b = true) (hd : Nat.blt d n = true) (k : QL P n ops S K r (upd f d undef)) : QL P n ops S K (i :: r) f :=
 QL.skip_of hi hj (fun b' e=>by rw [e] at hb;intro e2;subst e2;simp [noV] at hb) hd k
end
end Go.Hb
namespace Go.Proofs.YtohbcfokihplbaaGreatDoor
open Go.Hb
instance : Mixed Tryz.prog := ⟨by kernel_rfl⟩
instance : Own Tryz.prog 7 := ⟨Tryz.call7⟩
instance : Own Tryz.prog 9 := ⟨Tryz.call9⟩
instance : Own Tryz.prog 14 := ⟨Tryz.call14⟩
instance : Own Tryz.prog 15 := ⟨Tryz.call15⟩
instance : Own Tryz.prog 16 := ⟨Tryz.call16⟩
instance : Own Tryz.prog 17 := ⟨Tryz.call17⟩
instance : Own Tryz.prog 18 := ⟨Tryz.call18⟩
instance : Own Tryz.prog 19 := ⟨Tryz.call19⟩
instance : Own Tryz.prog 20 := ⟨Tryz.call20⟩
instance : Own Tryz.prog 21 := ⟨Tryz.call21⟩
instance : Own Tryz.prog 24 := ⟨Tryz.call24⟩
instance : Own Tryz.prog 25 := ⟨Tryz.call25⟩
instance : Own Tryz.prog 37 := ⟨Tryz.call37⟩
instance : Own Tryz.prog 38 := ⟨Tryz.call38⟩
instance : Own Tryz.prog 39 := ⟨Tryz.call39⟩
instance : Own Tryz.prog 40 := ⟨Tryz.call40⟩
instance : Own Tryz.prog 41 := ⟨Tryz.call41⟩
instance : Own Tryz.prog 42 := ⟨Tryz.call42⟩
instance : Own Tryz.prog 43 := ⟨Tryz.call43⟩
instance : Own Tryz.prog 44 := ⟨Tryz.call44⟩
instance : Own Tryz.prog 45 := ⟨Tryz.call45⟩
instance : Own Tryz.prog 46 := ⟨Tryz.call46⟩
instance : Own Tryz.prog 47 := ⟨Tryz.call47⟩
instance : Own Tryz.prog 48 := ⟨Tryz.call48⟩
instance : Own Tryz.prog 49 := ⟨Tryz.call49⟩
instance : Own Tryz.prog 50 := ⟨Tryz.call50⟩
instance : Own Tryz.prog 51 := ⟨Tryz.call51⟩
instance : Own Tryz.prog 52 := ⟨Tryz.call52⟩
instance : Own Tryz.prog 53 := ⟨Tryz.call53⟩
instance : Own Tryz.prog 54 := ⟨Tryz.call54⟩
instance : Own Tryz.prog 56 := ⟨Tryz.call56⟩
instance : Own Tryz.prog 57 := ⟨Tryz.call57⟩
instance : Own Tryz.prog 65 := ⟨Tryz.call65⟩
instance : Own Tryz.prog 66 := ⟨Tryz.call66⟩
instance : Own Tryz.prog 67 := ⟨Tryz.call67⟩
instance : Own Tryz.prog 68 := ⟨Tryz.call68⟩
instance : Own Tryz.prog 69 := ⟨Tryz.call69⟩
instance : Own Tryz.prog 70 := ⟨Tryz.call70⟩
instance : Own Tryz.prog 71 := ⟨Tryz.call71⟩
instance : Own Tryz.prog 72 := ⟨Tryz.call72⟩
instance : Own Tryz.prog 73 := ⟨Tryz.call73⟩
instance : Own Tryz.prog 74 := ⟨Tryz.call74⟩
instance : Own Tryz.prog 75 := ⟨Tryz.call75⟩
instance : Own Tryz.prog 76 := ⟨Tryz.call76⟩
instance : Own Tryz.prog 77 := ⟨Tryz.call77⟩
instance : Own Tryz.prog 78 := ⟨Tryz.call78⟩
instance : Own Tryz.prog 79 := ⟨Tryz.call79⟩
instance : Own Tryz.prog 80 := ⟨Tryz.call80⟩
instance : Own Tryz.prog 81 := ⟨Tryz.call81⟩
instance : Own Tryz.prog 82 := ⟨Tryz.call82⟩
instance : Own Tryz.prog 83 := ⟨Tryz.call83⟩
instance : Own Tryz.prog 84 := ⟨Tryz.call84⟩
instance : Own Tryz.prog 85 := ⟨Tryz.call85⟩
instance : Own Tryz.prog 86 := ⟨Tryz.call86⟩
instance : Own Tryz.prog 87 := ⟨Tryz.call87⟩
instance : Own Tryz.prog 88 := ⟨Tryz.call88⟩
instance : Own Tryz.prog 89 := ⟨Tryz.call89⟩
instance : Own Tryz.prog 90 := ⟨Tryz.call90⟩
instance : Own Tryz.prog 91 := ⟨Tryz.call91⟩
instance : Own Tryz.prog 117 := ⟨Tryz.call117⟩
instance : Own Tryz.prog 118 := ⟨Tryz.call118⟩
instance : Own Tryz.prog 119 := ⟨Tryz.call119⟩
instance : Own Tryz.prog 120 := ⟨Tryz.call120⟩
instance : Own Tryz.prog 121 := ⟨Tryz.call121⟩
instance : Own Tryz.prog 122 := ⟨Tryz.call122⟩
instance : Own Tryz.prog 123 := ⟨Tryz.call123⟩
instance : Own Tryz.prog 124 := ⟨Tryz.call124⟩
instance : Own Tryz.prog 125 := ⟨Tryz.call125⟩
instance : Own Tryz.prog 126 := ⟨Tryz.call126⟩
instance : Own Tryz.prog 127 := ⟨Tryz.call127⟩
instance : Own Tryz.prog 128 := ⟨Tryz.call128⟩
instance : Own Tryz.prog 129 := ⟨Tryz.call129⟩
instance : Own Tryz.prog 130 := ⟨Tryz.call130⟩
instance : Own Tryz.prog 131 := ⟨Tryz.call131⟩
instance : Own Tryz.prog 132 := ⟨Tryz.call132⟩
instance : Own Tryz.prog 133 := ⟨Tryz.call133⟩
instance : Own Tryz.prog 134 := ⟨Tryz.call134⟩
instance : Own Tryz.prog 135 := ⟨Tryz.call135⟩
instance : Own Tryz.prog 136 := ⟨Tryz.call136⟩
instance : Own Tryz.prog 137 := ⟨Tryz.call137⟩
instance : Own Tryz.prog 138 := ⟨Tryz.call138⟩
instance : Own Tryz.prog 139 := ⟨Tryz.call139⟩
instance : Own Tryz.prog 140 := ⟨Tryz.call140⟩
instance : Own Tryz.prog 141 := ⟨Tryz.call141⟩
instance : Own Tryz.prog 142 := ⟨Tryz.call142⟩
instance : Own Tryz.prog 143 := ⟨Tryz.call143⟩
instance : Own Tryz.prog 144 := ⟨Tryz.call144⟩
instance : Own Tryz.prog 145 := ⟨Tryz.call145⟩
instance : Own Tryz.prog 146 := ⟨Tryz.call146⟩
instance : Own Tryz.prog 147 := ⟨Tryz.call147⟩
instance : Own Tryz.prog 170 := ⟨Tryz.call170⟩
instance : Own Tryz.prog 171 := ⟨Tryz.call171⟩
instance : Own Tryz.prog 172 := ⟨Tryz.call172⟩
instance : Own Tryz.prog 173 := ⟨Tryz.call173⟩
instance : Own Tryz.prog 174 := ⟨Tryz.call174⟩
instance : Own Tryz.prog 175 := ⟨Tryz.call175⟩
instance : Own Tryz.prog 176 := ⟨Tryz.call176⟩
instance : Own Tryz.prog 177 := ⟨Tryz.call177⟩
instance : Own Tryz.prog 178 := ⟨Tryz.call178⟩
instance : Own Tryz.prog 179 := ⟨Tryz.call179⟩
instance : Own Tryz.prog 180 := ⟨Tryz.call180⟩
instance : Own Tryz.prog 181 := ⟨Tryz.call181⟩
instance : Own Tryz.prog 182 := ⟨Tryz.call182⟩
instance : Own Tryz.prog 183 := ⟨Tryz.call183⟩
instance : Own Tryz.prog 184 := ⟨Tryz.call184⟩
instance : Own Tryz.prog 185 := ⟨Tryz.call185⟩
instance : Own Tryz.prog 186 := ⟨Tryz.call186⟩
instance : Own Tryz.prog 187 := ⟨Tryz.call187⟩
instance : Own Tryz.prog 188 := ⟨Tryz.call188⟩
instance : Own Tryz.prog 189 := ⟨Tryz.call189⟩
instance : Own Tryz.prog 190 := ⟨Tryz.call190⟩
instance : Own Tryz.prog 191 := ⟨Tryz.call191⟩
instance : Own Tryz.prog 192 := ⟨Tryz.call192⟩
instance : Own Tryz.prog 193 := ⟨Tryz.call193⟩
instance : Own Tryz.prog 194 := ⟨Tryz.call194⟩
instance : Own Tryz.prog 195 := ⟨Tryz.call195⟩
instance : Own Tryz.prog 196 := ⟨Tryz.call196⟩
instance : Own Tryz.prog 197 := ⟨Tryz.call197⟩
instance : Own Tryz.prog 198 := ⟨Tryz.call198⟩
instance : Own Tryz.prog 199 := ⟨Tryz.call199⟩
instance : Own Tryz.prog 200 := ⟨Tryz.call200⟩
instance : Own Tryz.prog 201 := ⟨Tryz.call201⟩
instance : Own Tryz.prog 202 := ⟨Tryz.call202⟩
instance : Own Tryz.prog 203 := ⟨Tryz.call203⟩
instance : Own Tryz.prog 233 := ⟨Tryz.call233⟩
instance : Own Tryz.prog 234 := ⟨Tryz.call234⟩
instance : Own Tryz.prog 235 := ⟨Tryz.call235⟩
instance : Own Tryz.prog 236 := ⟨Tryz.call236⟩
instance : Own Tryz.prog 237 := ⟨Tryz.call237⟩
instance : Own Tryz.prog 238 := ⟨Tryz.call238⟩
instance : Own Tryz.prog 239 := ⟨Tryz.call239⟩
instance : Own Tryz.prog 240 := ⟨Tryz.call240⟩
instance : Own Tryz.prog 241 := ⟨Tryz.call241⟩
instance : Own Tryz.prog 242 := ⟨Tryz.call242⟩
instance : Own Tryz.prog 243 := ⟨Tryz.call243⟩
instance : Own Tryz.prog 244 := ⟨Tryz.call244⟩
instance : Own Tryz.prog 246 := ⟨Tryz.call246⟩
instance : Own Tryz.prog 247 := ⟨Tryz.call247⟩
instance : Own Tryz.prog 248 := ⟨Tryz.call248⟩
instance : Own Tryz.prog 249 := ⟨Tryz.call249⟩
instance : Own Tryz.prog 250 := ⟨Tryz.call250⟩
instance : Own Tryz.prog 251 := ⟨Tryz.call251⟩
instance : Own Tryz.prog 252 := ⟨Tryz.call252⟩
instance : Own Tryz.prog 253 := ⟨Tryz.call253⟩
instance : Own Tryz.prog 254 := ⟨Tryz.call254⟩
instance : Own Tryz.prog 255 := ⟨Tryz.call255⟩
instance : Own Tryz.prog 256 := ⟨Tryz.call256⟩
instance : Own Tryz.prog 294 := ⟨Tryz.call294⟩
instance : Own Tryz.prog 295 := ⟨Tryz.call295⟩
instance : Own Tryz.prog 296 := ⟨Tryz.call296⟩
instance : Own Tryz.prog 297 := ⟨Tryz.call297⟩
instance : Own Tryz.prog 298 := ⟨Tryz.call298⟩
instance : Own Tryz.prog 299 := ⟨Tryz.call299⟩
instance : Own Tryz.prog 300 := ⟨Tryz.call300⟩
instance : Own Tryz.prog 301 := ⟨Tryz.call301⟩
instance : Own Tryz.prog 302 := ⟨Tryz.call302⟩
instance : Own Tryz.prog 303 := ⟨Tryz.call303⟩
instance : Own Tryz.prog 304 := ⟨Tryz.call304⟩
instance : Own Tryz.prog 305 := ⟨Tryz.call305⟩
instance : Own Tryz.prog 306 := ⟨Tryz.call306⟩
instance : Own Tryz.prog 311 := ⟨Tryz.call311⟩
instance : Own Tryz.prog 312 := ⟨Tryz.call312⟩
instance : Own Tryz.prog 313 := ⟨Tryz.call313⟩
instance : Own Tryz.prog 314 := ⟨Tryz.call314⟩
instance : Own Tryz.prog 315 := ⟨Tryz.call315⟩
instance : Own Tryz.prog 316 := ⟨Tryz.call316⟩
instance : Own Tryz.prog 338 := ⟨Tryz.call338⟩
instance : Own Tryz.prog 339 := ⟨Tryz.call339⟩
instance : Own Tryz.prog 340 := ⟨Tryz.call340⟩
instance : Own Tryz.prog 341 := ⟨Tryz.call341⟩
instance : Own Tryz.prog 342 := ⟨Tryz.call342⟩
instance : Own Tryz.prog 356 := ⟨Tryz.call356⟩
instance : Own Tryz.prog 357 := ⟨Tryz.call357⟩
instance : Own Tryz.prog 358 := ⟨Tryz.call358⟩
instance : Own Tryz.prog 359 := ⟨Tryz.call359⟩
instance : Own Tryz.prog 360 := ⟨Tryz.call360⟩
instance : Own Tryz.prog 361 := ⟨Tryz.call361⟩
instance : Own Tryz.prog 362 := ⟨Tryz.call362⟩
instance : Own Tryz.prog 379 := ⟨Tryz.call379⟩
instance : Own Tryz.prog 380 := ⟨Tryz.call380⟩
instance : Own Tryz.prog 381 := ⟨Tryz.call381⟩
instance : One Tryz.prog 3 := ⟨Tryz.isAgg3,Tryz.sizeOf3⟩
instance : ZeroOf Tryz.prog 3 [.int .i64 0] := ⟨⟨_,Tryz.zeroValue3,rfl⟩⟩
instance : IntT Tryz.prog 3 .i64 := ⟨Tryz.underlying3⟩
-- 4 bool
instance : One Tryz.prog 4 := ⟨Tryz.isAgg4,Tryz.sizeOf4⟩
instance : One Tryz.prog 5 := ⟨Tryz.isAgg5,Tryz.sizeOf5⟩
instance : IntT Tryz.prog 5 .u8 := ⟨Tryz.underlying5⟩
-- 9 string
instance : One Tryz.prog 22 := ⟨Tryz.isAgg22,Tryz.sizeOf22⟩
instance : SliceOf Tryz.prog 22 3 1 8 := ⟨Tryz.underlying22,by kernel_rfl,by decide,⟨.int .i64 0,by kernel_rfl,rfl⟩⟩
-- 24 *hauberklaw22.net
instance : SliceOf Tryz.prog 35 66 43 408 := ⟨Tryz.underlying35,by kernel_rfl,by decide,⟨.agg #[.int .i64 0,.int .i64 0,.int .i64 0,.int .i64 0,.int .i64 0,.int .i64 0,.int .i64 0,.int .i64 0,.int .i64 0,.int .i64 0,.int .i64 0,.int .i64 0,.int .i64 0,.int .i64 0,.int .i64 0,.int .i64 0,.bool false,.int .i64 0,.int .i64 0,.int .i64 0,.int .i64 0,.slice none 0 0,.int .i64 0,.int .i64 0,.int .i64 0,.int .i64 0,.int .i64 0,.int .i64 0,.int .i64 0,.int .i64 0,.slice none 0 0,.int .i64 0,.int .i64 0,.int .i64 0,.int .i64 0,.int .i64 0,.int .i64 0,.int .i64 0,.slice none 0 0,.int .i64 0,.int .i64 0,.int .i64 0,.slice none 0 0],by kernel_rfl,rfl⟩⟩
-- 36 *ring.Ring
instance : PtrTo Tryz.prog 36 := ⟨⟨_,Tryz.underlying36⟩⟩
-- 37 []api.Packet
instance : One Tryz.prog 37 := ⟨Tryz.isAgg37,Tryz.sizeOf37⟩
instance : SliceOf Tryz.prog 37 63 40 368 := ⟨Tryz.underlying37,by kernel_rfl,by decide,⟨.agg #[.int .i64 0,.int .i64 0,.int .i64 0,.int .i64 0,.int .i64 0,.int .i64 0,.int .i64 0,.int .i64 0,.int .i64 0,.int .i64 0,.int .i64 0,.int .i64 0,.int .i64 0,.int .i64 0,.bool false,.int .i64 0,.int .i64 0,.int .i64 0,.int .i64 0,.slice none 0 0,.int .i64 0,.int .i64 0,.int .i64 0,.int .i64 0,.int .i64 0,.int .i64 0,.int .i64 0,.int .i64 0,.slice none 0 0,.int .i64 0,.int .i64 0,.int .i64 0,.int .i64 0,.int .i64 0,.int .i64 0,.int .i64 0,.slice none 0 0,.int .i64 0,.int .i64 0,.int .i64 0],by kernel_rfl,rfl⟩⟩
-- 38 []api.Event
instance : One Tryz.prog 38 := ⟨Tryz.isAgg38,Tryz.sizeOf38⟩
instance : SliceOf Tryz.prog 38 76 26 224 := ⟨Tryz.underlying38,by kernel_rfl,by decide,⟨.agg #[.int .i64 0,.int .i64 0,.int .i64 0,.int .i64 0,.int .i64 0,.int .i64 0,.bool false,.int .i64 0,.int .i64 0,.int .i64 0,.int .i64 0,.int .i64 0,.int .i64 0,.int .i64 0,.int .i64 0,.int .i64 0,.int .i64 0,.int .i64 0,.int .i64 0,.int .i64 0,.bool false,.int .i64 0,.int .i64 0,.int .i64 0,.int .i64 0,.slice none 0 0],by kernel_rfl,rfl⟩⟩
-- 40 api.Out
instance : Agg Tryz.prog 40 3 := ⟨Tryz.isAgg40,Tryz.sizeOf40⟩
instance : ZeroOf Tryz.prog 40 [.int .i64 0,.slice none 0 0,.slice none 0 0] := ⟨⟨_,Tryz.zeroValue40,rfl⟩⟩
instance : Fld Tryz.prog 40 0 0 := ⟨fun _ _ _=>by kernel_rfl⟩
instance : Fld Tryz.prog 40 1 1 := ⟨fun _ _ _=>by kernel_rfl⟩
instance : Fld Tryz.prog 40 2 2 := ⟨fun _ _ _=>by kernel_rfl⟩
instance : Build Tryz.prog 40 [.int .i64 0,.slice none 0 0,.slice none 0 0] [(0,1),(1,1),(2,1)] := ⟨fun w parts cells h=>by
 simp only [Instr.build,Sem.run_bind,Tryz.zeroValue40,run_underlying Tryz.underlying40,Result.andThen_ok]
 simp only [List.mapM_toArray,List.mapM_cons,List.mapM_nil,Sem.run_bind,Sem.run_map,Sem.run_pure,Result.andThen_ok,pure_bind,bind_assoc,map_eq_pure_bind,Tryz.sizeOf3,Tryz.sizeOf37,Tryz.sizeOf38,Value.cells]
 rw [h]
 rfl⟩
-- 41 api.Errno
instance : Agg Tryz.prog 45 2 := ⟨Tryz.isAgg45,Tryz.sizeOf45⟩
instance : ZeroOf Tryz.prog 45 [.int .i64 0,.int .i64 0] := ⟨⟨_,Tryz.zeroValue45,rfl⟩⟩
instance : Fld Tryz.prog 45 0 0 := ⟨fun _ _ _=>by kernel_rfl⟩
instance : Fld Tryz.prog 45 1 1 := ⟨fun _ _ _=>by kernel_rfl⟩
instance : Build Tryz.prog 45 [.int .i64 0,.int .i64 0] [(0,1),(1,1)] := ⟨fun w parts cells h=>by
 simp only [Instr.build,Sem.run_bind,Tryz.zeroValue45,run_underlying Tryz.underlying45,Result.andThen_ok]
 simp only [List.mapM_toArray,List.mapM_cons,List.mapM_nil,Sem.run_bind,Sem.run_map,Sem.run_pure,Result.andThen_ok,pure_bind,bind_assoc,map_eq_pure_bind,Tryz.sizeOf3,Value.cells]
 rw [h]
 rfl⟩
instance : Eqs Tryz.prog 45 2 where
 eq := fun x y xs ys w h1 h2=>by
  match xs,ys,h1,h2 with
  | [a,b],[a',b'],_,_=>
   simp [go_sem,Sem.run_bind,run_eqGuard_agg,run_eql_struct,run_neq_struct,run_equalIn_agg,run_equalIn_int,Tryz.underlying3,Tryz.underlying45,Tryz.stoodInHeld45,Tryz.eqGuardType45]
   (repeat' split) <;> simp_all
 ne := fun x y xs ys w h1 h2=>by
  match xs,ys,h1,h2 with
  | [a,b],[a',b'],_,_=>
   simp [go_sem,Sem.run_bind,run_eqGuard_agg,run_eql_struct,run_neq_struct,run_equalIn_agg,run_equalIn_int,Tryz.underlying3,Tryz.underlying45,Tryz.stoodInHeld45,Tryz.eqGuardType45]
   (repeat' split) <;> simp_all
-- 47 api.Key
instance : Agg Tryz.prog 47 4 := ⟨Tryz.isAgg47,Tryz.sizeOf47⟩
instance : Fld Tryz.prog 47 0 0 := ⟨fun _ _ _=>by kernel_rfl⟩
instance : Fld Tryz.prog 47 1 1 := ⟨fun _ _ _=>by kernel_rfl⟩
instance : Fld Tryz.prog 47 2 3 := ⟨fun _ _ _=>by kernel_rfl⟩
instance : Build Tryz.prog 47 [.int .i64 0,.int .i64 0,.int .i64 0,.int .i64 0] [(0,1),(1,2),(3,1)] := ⟨fun w parts cells h=>by
 simp only [Instr.build,Sem.run_bind,Tryz.zeroValue47,run_underlying Tryz.underlying47,Result.andThen_ok]
 simp only [List.mapM_toArray,List.mapM_cons,List.mapM_nil,Sem.run_bind,Sem.run_map,Sem.run_pure,Result.andThen_ok,pure_bind,bind_assoc,map_eq_pure_bind,Tryz.sizeOf3,Tryz.sizeOf45,Value.cells]
 rw [h]
 rfl⟩
instance : Eqs Tryz.prog 47 4 where
 eq := fun x y xs ys w h1 h2=>by
  match xs,ys,h1,h2 with
  | [a,b,c,d],[a',b',c',d'],_,_=>
   simp [go_sem,Sem.run_bind,run_eqGuard_agg,run_eql_struct,run_neq_struct,run_equalIn_agg,run_equalIn_int,Tryz.underlying3,Tryz.underlying45,Tryz.underlying47,Tryz.stoodInHeld45,Tryz.stoodInHeld47,Tryz.eqGuardType47]
   (repeat' split) <;> simp_all
 ne := fun x y xs ys w h1 h2=>by
  match xs,ys,h1,h2 with
  | [a,b,c,d],[a',b',c',d'],_,_=>
   simp [go_sem,Sem.run_bind,run_eqGuard_agg,run_eql_struct,run_neq_struct,run_equalIn_agg,run_equalIn_int,Tryz.underlying3,Tryz.underlying45,Tryz.underlying47,Tryz.stoodInHeld45,Tryz.stoodInHeld47,Tryz.eqGuardType47]
   (repeat' split) <;> simp_all
-- 48 []uint8
instance : One Tryz.prog 48 := ⟨Tryz.isAgg48,Tryz.sizeOf48⟩
instance : SliceOf Tryz.prog 48 5 1 1 := ⟨Tryz.underlying48,by kernel_rfl,by decide,⟨.int .u8 0,by kernel_rfl,rfl⟩⟩
-- 50 api.Message
instance : Agg Tryz.prog 50 13 := ⟨Tryz.isAgg50,Tryz.sizeOf50⟩
instance : ZeroOf Tryz.prog 50 [.int .i64 0,.int .i64 0,.int .i64 0,.int .i64 0,.int .i64 0,.int .i64 0,.int .i64 0,.bool false,.int .i64 0,.int .i64 0,.int .i64 0,.int .i64 0,.slice none 0 0] := ⟨⟨_,Tryz.zeroValue50,rfl⟩⟩
instance : Fld Tryz.prog 50 0 0 := ⟨fun _ _ _=>by kernel_rfl⟩
instance : Fld Tryz.prog 50 1 1 := ⟨fun _ _ _=>by kernel_rfl⟩
instance : Fld Tryz.prog 50 2 2 := ⟨fun _ _ _=>by kernel_rfl⟩
instance : Fld Tryz.prog 50 3 3 := ⟨fun _ _ _=>by kernel_rfl⟩
instance : Fld Tryz.prog 50 4 4 := ⟨fun _ _ _=>by kernel_rfl⟩
instance : Fld Tryz.prog 50 5 5 := ⟨fun _ _ _=>by kernel_rfl⟩
instance : Fld Tryz.prog 50 6 6 := ⟨fun _ _ _=>by kernel_rfl⟩
instance : Fld Tryz.prog 50 7 7 := ⟨fun _ _ _=>by kernel_rfl⟩
instance : Fld Tryz.prog 50 8 8 := ⟨fun _ _ _=>by kernel_rfl⟩
instance : Fld Tryz.prog 50 9 12 := ⟨fun _ _ _=>by kernel_rfl⟩
instance : Build Tryz.prog 50 [.int .i64 0,.int .i64 0,.int .i64 0,.int .i64 0,.int .i64 0,.int .i64 0,.int .i64 0,.bool false,.int .i64 0,.int .i64 0,.int .i64 0,.int .i64 0,.slice none 0 0] [(0,1),(1,1),(2,1),(3,1),(4,1),(5,1),(6,1),(7,1),(8,4),(12,1)] := ⟨fun w parts cells h=>by
 simp only [Instr.build,Sem.run_bind,Tryz.zeroValue50,run_underlying Tryz.underlying50,Result.andThen_ok]
 simp only [List.mapM_toArray,List.mapM_cons,List.mapM_nil,Sem.run_bind,Sem.run_map,Sem.run_pure,Result.andThen_ok,pure_bind,bind_assoc,map_eq_pure_bind,Tryz.sizeOf3,Tryz.sizeOf4,Tryz.sizeOf47,Tryz.sizeOf48,Value.cells]
 rw [h]
 rfl⟩
-- 52 api.Data
instance : Agg Tryz.prog 52 18 := ⟨Tryz.isAgg52,Tryz.sizeOf52⟩
instance : ZeroOf Tryz.prog 52 [.int .i64 0,.int .i64 0,.int .i64 0,.int .i64 0,.int .i64 0,.int .i64 0,.int .i64 0,.int .i64 0,.int .i64 0,.int .i64 0,.int .i64 0,.int .i64 0,.bool false,.int .i64 0,.int .i64 0,.int .i64 0,.int .i64 0,.slice none 0 0] := ⟨⟨_,Tryz.zeroValue52,rfl⟩⟩
instance : Fld Tryz.prog 52 0 0 := ⟨fun _ _ _=>by kernel_rfl⟩
instance : Fld Tryz.prog 52 1 2 := ⟨fun _ _ _=>by kernel_rfl⟩
instance : Fld Tryz.prog 52 2 3 := ⟨fun _ _ _=>by kernel_rfl⟩
instance : Fld Tryz.prog 52 3 4 := ⟨fun _ _ _=>by kernel_rfl⟩
instance : Fld Tryz.prog 52 4 5 := ⟨fun _ _ _=>by kernel_rfl⟩
instance : Build Tryz.prog 52 [.int .i64 0,.int .i64 0,.int .i64 0,.int .i64 0,.int .i64 0,.int .i64 0,.int .i64 0,.int .i64 0,.int .i64 0,.int .i64 0,.int .i64 0,.int .i64 0,.bool false,.int .i64 0,.int .i64 0,.int .i64 0,.int .i64 0,.slice none 0 0] [(0,2),(2,1),(3,1),(4,1),(5,13)] := ⟨fun w parts cells h=>by
 simp only [Instr.build,Sem.run_bind,Tryz.zeroValue52,run_underlying Tryz.underlying52,Result.andThen_ok]
 simp only [List.mapM_toArray,List.mapM_cons,List.mapM_nil,Sem.run_bind,Sem.run_map,Sem.run_pure,Result.andThen_ok,pure_bind,bind_assoc,map_eq_pure_bind,Tryz.sizeOf3,Tryz.sizeOf45,Tryz.sizeOf50,Value.cells]
 rw [h]
 rfl⟩
-- 54 api.Token
instance : Agg Tryz.prog 54 9 := ⟨Tryz.isAgg54,Tryz.sizeOf54⟩
instance : ZeroOf Tryz.prog 54 [.int .i64 0,.int .i64 0,.int .i64 0,.int .i64 0,.int .i64 0,.int .i64 0,.int .i64 0,.int .i64 0,.slice none 0 0] := ⟨⟨_,Tryz.zeroValue54,rfl⟩⟩
instance : Fld Tryz.prog 54 0 0 := ⟨fun _ _ _=>by kernel_rfl⟩
instance : Fld Tryz.prog 54 1 2 := ⟨fun _ _ _=>by kernel_rfl⟩
instance : Fld Tryz.prog 54 2 3 := ⟨fun _ _ _=>by kernel_rfl⟩
instance : Fld Tryz.prog 54 3 4 := ⟨fun _ _ _=>by kernel_rfl⟩
instance : Fld Tryz.prog 54 4 5 := ⟨fun _ _ _=>by kernel_rfl⟩
instance : Fld Tryz.prog 54 5 6 := ⟨fun _ _ _=>by kernel_rfl⟩
instance : Fld Tryz.prog 54 6 7 := ⟨fun _ _ _=>by kernel_rfl⟩
instance : Fld Tryz.prog 54 7 8 := ⟨fun _ _ _=>by kernel_rfl⟩
instance : Build Tryz.prog 54 [.int .i64 0,.int .i64 0,.int .i64 0,.int .i64 0,.int .i64 0,.int .i64 0,.int .i64 0,.int .i64 0,.slice none 0 0] [(0,2),(2,1),(3,1),(4,1),(5,1),(6,1),(7,1),(8,1)] := ⟨fun w parts cells h=>by
 simp only [Instr.build,Sem.run_bind,Tryz.zeroValue54,run_underlying Tryz.underlying54,Result.andThen_ok]
 simp only [List.mapM_toArray,List.mapM_cons,List.mapM_nil,Sem.run_bind,Sem.run_map,Sem.run_pure,Result.andThen_ok,pure_bind,bind_assoc,map_eq_pure_bind,Tryz.sizeOf22,Tryz.sizeOf3,Tryz.sizeOf45,Value.cells]
 rw [h]
 rfl⟩
-- 56 api.Join
instance : Agg Tryz.prog 56 3 := ⟨Tryz.isAgg56,Tryz.sizeOf56⟩
instance : ZeroOf Tryz.prog 56 [.int .i64 0,.int .i64 0,.int .i64 0] := ⟨⟨_,Tryz.zeroValue56,rfl⟩⟩
instance : Fld Tryz.prog 56 0 0 := ⟨fun _ _ _=>by kernel_rfl⟩
instance : Fld Tryz.prog 56 1 1 := ⟨fun _ _ _=>by kernel_rfl⟩
instance : Fld Tryz.prog 56 2 2 := ⟨fun _ _ _=>by kernel_rfl⟩
instance : Build Tryz.prog 56 [.int .i64 0,.int .i64 0,.int .i64 0] [(0,1),(1,1),(2,1)] := ⟨fun w parts cells h=>by
 simp only [Instr.build,Sem.run_bind,Tryz.zeroValue56,run_underlying Tryz.underlying56,Result.andThen_ok]
 simp only [List.mapM_toArray,List.mapM_cons,List.mapM_nil,Sem.run_bind,Sem.run_map,Sem.run_pure,Result.andThen_ok,pure_bind,bind_assoc,map_eq_pure_bind,Tryz.sizeOf3,Value.cells]
 rw [h]
 rfl⟩
instance : Eqs Tryz.prog 56 3 where
 eq := fun x y xs ys w h1 h2=>by
  match xs,ys,h1,h2 with
  | [a,b,c],[a',b',c'],_,_=>
   simp [go_sem,Sem.run_bind,run_eqGuard_agg,run_eql_struct,run_neq_struct,run_equalIn_agg,run_equalIn_int,Tryz.underlying3,Tryz.underlying56,Tryz.stoodInHeld56,Tryz.eqGuardType56]
   (repeat' split) <;> simp_all
 ne := fun x y xs ys w h1 h2=>by
  match xs,ys,h1,h2 with
  | [a,b,c],[a',b',c'],_,_=>
   simp [go_sem,Sem.run_bind,run_eqGuard_agg,run_eql_struct,run_neq_struct,run_equalIn_agg,run_equalIn_int,Tryz.underlying3,Tryz.underlying56,Tryz.stoodInHeld56,Tryz.eqGuardType56]
   (repeat' split) <;> simp_all
-- 57 []api.Entry
instance : One Tryz.prog 57 := ⟨Tryz.isAgg57,Tryz.sizeOf57⟩
instance : SliceOf Tryz.prog 57 91 6 48 := ⟨Tryz.underlying57,by kernel_rfl,by decide,⟨.agg #[.int .i64 0,.int .i64 0,.int .i64 0,.int .i64 0,.int .i64 0,.int .i64 0],by kernel_rfl,rfl⟩⟩
-- 59 api.Commit
instance : Agg Tryz.prog 59 5 := ⟨Tryz.isAgg59,Tryz.sizeOf59⟩
instance : ZeroOf Tryz.prog 59 [.int .i64 0,.int .i64 0,.int .i64 0,.int .i64 0,.slice none 0 0] := ⟨⟨_,Tryz.zeroValue59,rfl⟩⟩
instance : Fld Tryz.prog 59 0 0 := ⟨fun _ _ _=>by kernel_rfl⟩
instance : Fld Tryz.prog 59 1 2 := ⟨fun _ _ _=>by kernel_rfl⟩
instance : Fld Tryz.prog 59 2 3 := ⟨fun _ _ _=>by kernel_rfl⟩
instance : Fld Tryz.prog 59 3 4 := ⟨fun _ _ _=>by kernel_rfl⟩
instance : Build Tryz.prog 59 [.int .i64 0,.int .i64 0,.int .i64 0,.int .i64 0,.slice none 0 0] [(0,2),(2,1),(3,1),(4,1)] := ⟨fun w parts cells h=>by
 simp only [Instr.build,Sem.run_bind,Tryz.zeroValue59,run_underlying Tryz.underlying59,Result.andThen_ok]
 simp only [List.mapM_toArray,List.mapM_cons,List.mapM_nil,Sem.run_bind,Sem.run_map,Sem.run_pure,Result.andThen_ok,pure_bind,bind_assoc,map_eq_pure_bind,Tryz.sizeOf3,Tryz.sizeOf45,Tryz.sizeOf57,Value.cells]
 rw [h]
 rfl⟩
-- 61 api.Beacon
instance : Agg Tryz.prog 61 3 := ⟨Tryz.isAgg61,Tryz.sizeOf61⟩
instance : Fld Tryz.prog 61 0 0 := ⟨fun _ _ _=>by kernel_rfl⟩
instance : Fld Tryz.prog 61 1 2 := ⟨fun _ _ _=>by kernel_rfl⟩
instance : Build Tryz.prog 61 [.int .i64 0,.int .i64 0,.int .i64 0] [(0,2),(2,1)] := ⟨fun w parts cells h=>by
 simp only [Instr.build,Sem.run_bind,Tryz.zeroValue61,run_underlying Tryz.underlying61,Result.andThen_ok]
 simp only [List.mapM_toArray,List.mapM_cons,List.mapM_nil,Sem.run_bind,Sem.run_map,Sem.run_pure,Result.andThen_ok,pure_bind,bind_assoc,map_eq_pure_bind,Tryz.sizeOf3,Tryz.sizeOf45,Value.cells]
 rw [h]
 rfl⟩
instance : Eqs Tryz.prog 61 3 where
 eq := fun x y xs ys w h1 h2=>by
  match xs,ys,h1,h2 with
  | [a,b,c],[a',b',c'],_,_=>
   simp [go_sem,Sem.run_bind,run_eqGuard_agg,run_eql_struct,run_neq_struct,run_equalIn_agg,run_equalIn_int,Tryz.underlying3,Tryz.underlying45,Tryz.underlying61,Tryz.stoodInHeld45,Tryz.stoodInHeld61,Tryz.eqGuardType61]
   (repeat' split) <;> simp_all
 ne := fun x y xs ys w h1 h2=>by
  match xs,ys,h1,h2 with
  | [a,b,c],[a',b',c'],_,_=>
   simp [go_sem,Sem.run_bind,run_eqGuard_agg,run_eql_struct,run_neq_struct,run_equalIn_agg,run_equalIn_int,Tryz.underlying3,Tryz.underlying45,Tryz.underlying61,Tryz.stoodInHeld45,Tryz.stoodInHeld61,Tryz.eqGuardType61]
   (repeat' split) <;> simp_all
-- 63 api.Packet
instance : Agg Tryz.prog 63 40 := ⟨Tryz.isAgg63,Tryz.sizeOf63⟩
instance : ZeroOf Tryz.prog 63 [.int .i64 0,.int .i64 0,.int .i64 0,.int .i64 0,.int .i64 0,.int .i64 0,.int .i64 0,.int .i64 0,.int .i64 0,.int .i64 0,.int .i64 0,.int .i64 0,.int .i64 0,.int .i64 0,.bool false,.int .i64 0,.int .i64 0,.int .i64 0,.int .i64 0,.slice none 0 0,.int .i64 0,.int .i64 0,.int .i64 0,.int .i64 0,.int .i64 0,.int .i64 0,.int .i64 0,.int .i64 0,.slice none 0 0,.int .i64 0,.int .i64 0,.int .i64 0,.int .i64 0,.int .i64 0,.int .i64 0,.int .i64 0,.slice none 0 0,.int .i64 0,.int .i64 0,.int .i64 0] := ⟨⟨_,Tryz.zeroValue63,rfl⟩⟩
instance : Fld Tryz.prog 63 0 0 := ⟨fun _ _ _=>by kernel_rfl⟩
instance : Fld Tryz.prog 63 1 1 := ⟨fun _ _ _=>by kernel_rfl⟩
instance : Fld Tryz.prog 63 2 2 := ⟨fun _ _ _=>by kernel_rfl⟩
instance : Fld Tryz.prog 63 3 20 := ⟨fun _ _ _=>by kernel_rfl⟩
instance : Fld Tryz.prog 63 4 29 := ⟨fun _ _ _=>by kernel_rfl⟩
instance : Fld Tryz.prog 63 5 32 := ⟨fun _ _ _=>by kernel_rfl⟩
instance : Fld Tryz.prog 63 6 37 := ⟨fun _ _ _=>by kernel_rfl⟩
instance : Build Tryz.prog 63 [.int .i64 0,.int .i64 0,.int .i64 0,.int .i64 0,.int .i64 0,.int .i64 0,.int .i64 0,.int .i64 0,.int .i64 0,.int .i64 0,.int .i64 0,.int .i64 0,.int .i64 0,.int .i64 0,.bool false,.int .i64 0,.int .i64 0,.int .i64 0,.int .i64 0,.slice none 0 0,.int .i64 0,.int .i64 0,.int .i64 0,.int .i64 0,.int .i64 0,.int .i64 0,.int .i64 0,.int .i64 0,.slice none 0 0,.int .i64 0,.int .i64 0,.int .i64 0,.int .i64 0,.int .i64 0,.int .i64 0,.int .i64 0,.slice none 0 0,.int .i64 0,.int .i64 0,.int .i64 0] [(0,1),(1,1),(2,18),(20,9),(29,3),(32,5),(37,3)] := ⟨fun w parts cells h=>by
 simp only [Instr.build,Sem.run_bind,Tryz.zeroValue63,run_underlying Tryz.underlying63,Result.andThen_ok]
 simp only [List.mapM_toArray,List.mapM_cons,List.mapM_nil,Sem.run_bind,Sem.run_map,Sem.run_pure,Result.andThen_ok,pure_bind,bind_assoc,map_eq_pure_bind,Tryz.sizeOf3,Tryz.sizeOf52,Tryz.sizeOf54,Tryz.sizeOf56,Tryz.sizeOf59,Tryz.sizeOf61,Value.cells]
 rw [h]
 rfl⟩
-- 64 []api.Message
instance : One Tryz.prog 64 := ⟨Tryz.isAgg64,Tryz.sizeOf64⟩
instance : SliceOf Tryz.prog 64 50 13 120 := ⟨Tryz.underlying64,by kernel_rfl,by decide,⟨.agg #[.int .i64 0,.int .i64 0,.int .i64 0,.int .i64 0,.int .i64 0,.int .i64 0,.int .i64 0,.bool false,.int .i64 0,.int .i64 0,.int .i64 0,.int .i64 0,.slice none 0 0],by kernel_rfl,rfl⟩⟩
-- 66 hauberklaw22.Do
instance : Agg Tryz.prog 66 43 := ⟨Tryz.isAgg66,Tryz.sizeOf66⟩
instance : Fld Tryz.prog 66 0 0 := ⟨fun _ _ _=>by kernel_rfl⟩
instance : Fld Tryz.prog 66 1 1 := ⟨fun _ _ _=>by kernel_rfl⟩
instance : Fld Tryz.prog 66 2 2 := ⟨fun _ _ _=>by kernel_rfl⟩
instance : Fld Tryz.prog 66 3 42 := ⟨fun _ _ _=>by kernel_rfl⟩
instance : Agg Tryz.prog 74 7 := ⟨Tryz.isAgg74,Tryz.sizeOf74⟩
instance : ZeroOf Tryz.prog 74 [.int .i64 0,.int .i64 0,.int .i64 0,.int .i64 0,.int .i64 0,.bool false,.int .i64 0] := ⟨⟨_,Tryz.zeroValue74,rfl⟩⟩
instance : Fld Tryz.prog 74 0 0 := ⟨fun _ _ _=>by kernel_rfl⟩
instance : Fld Tryz.prog 74 1 2 := ⟨fun _ _ _=>by kernel_rfl⟩
instance : Fld Tryz.prog 74 2 4 := ⟨fun _ _ _=>by kernel_rfl⟩
instance : Fld Tryz.prog 74 3 5 := ⟨fun _ _ _=>by kernel_rfl⟩
instance : Fld Tryz.prog 74 4 6 := ⟨fun _ _ _=>by kernel_rfl⟩
instance : Build Tryz.prog 74 [.int .i64 0,.int .i64 0,.int .i64 0,.int .i64 0,.int .i64 0,.bool false,.int .i64 0] [(0,2),(2,2),(4,1),(5,1),(6,1)] := ⟨fun w parts cells h=>by
 simp only [Instr.build,Sem.run_bind,Tryz.zeroValue74,run_underlying Tryz.underlying74,Result.andThen_ok]
 simp only [List.mapM_toArray,List.mapM_cons,List.mapM_nil,Sem.run_bind,Sem.run_map,Sem.run_pure,Result.andThen_ok,pure_bind,bind_assoc,map_eq_pure_bind,Tryz.sizeOf3,Tryz.sizeOf4,Tryz.sizeOf45,Value.cells]
 rw [h]
 rfl⟩
-- 76 api.Event
instance : Agg Tryz.prog 76 26 := ⟨Tryz.isAgg76,Tryz.sizeOf76⟩
instance : ZeroOf Tryz.prog 76 [.int .i64 0,.int .i64 0,.int .i64 0,.int .i64 0,.int .i64 0,.int .i64 0,.bool false,.int .i64 0,.int .i64 0,.int .i64 0,.int .i64 0,.int .i64 0,.int .i64 0,.int .i64 0,.int .i64 0,.int .i64 0,.int .i64 0,.int .i64 0,.int .i64 0,.int .i64 0,.bool false,.int .i64 0,.int .i64 0,.int .i64 0,.int .i64 0,.slice none 0 0] := ⟨⟨_,Tryz.zeroValue76,rfl⟩⟩
instance : Fld Tryz.prog 76 0 0 := ⟨fun _ _ _=>by kernel_rfl⟩
instance : Fld Tryz.prog 76 1 1 := ⟨fun _ _ _=>by kernel_rfl⟩
instance : Fld Tryz.prog 76 2 8 := ⟨fun _ _ _=>by kernel_rfl⟩
instance : Build Tryz.prog 76 [.int .i64 0,.int .i64 0,.int .i64 0,.int .i64 0,.int .i64 0,.int .i64 0,.bool false,.int .i64 0,.int .i64 0,.int .i64 0,.int .i64 0,.int .i64 0,.int .i64 0,.int .i64 0,.int .i64 0,.int .i64 0,.int .i64 0,.int .i64 0,.int .i64 0,.int .i64 0,.bool false,.int .i64 0,.int .i64 0,.int .i64 0,.int .i64 0,.slice none 0 0] [(0,1),(1,7),(8,18)] := ⟨fun w parts cells h=>by
 simp only [Instr.build,Sem.run_bind,Tryz.zeroValue76,run_underlying Tryz.underlying76,Result.andThen_ok]
 simp only [List.mapM_toArray,List.mapM_cons,List.mapM_nil,Sem.run_bind,Sem.run_map,Sem.run_pure,Result.andThen_ok,pure_bind,bind_assoc,map_eq_pure_bind,Tryz.sizeOf3,Tryz.sizeOf52,Tryz.sizeOf74,Value.cells]
 rw [h]
 rfl⟩
-- 83 *alarm.Alarms
instance : One Tryz.prog 83 := ⟨Tryz.isAgg83,Tryz.sizeOf83⟩
instance : PtrTo Tryz.prog 83 := ⟨⟨_,Tryz.underlying83⟩⟩
-- 84 *queue.Queue
instance : One Tryz.prog 84 := ⟨Tryz.isAgg84,Tryz.sizeOf84⟩
instance : PtrTo Tryz.prog 84 := ⟨⟨_,Tryz.underlying84⟩⟩
-- 85 *window.Window
instance : One Tryz.prog 85 := ⟨Tryz.isAgg85,Tryz.sizeOf85⟩
instance : PtrTo Tryz.prog 85 := ⟨⟨_,Tryz.underlying85⟩⟩
-- 87 ring.way
instance : Agg Tryz.prog 87 11 := ⟨Tryz.isAgg87,Tryz.sizeOf87⟩
instance : ZeroOf Tryz.prog 87 [.int .i64 0,.int .i64 0,.int .i64 0,.int .i64 0,.int .i64 0,.bool false,.int .i64 0,.pointer none,.int .i64 0,.int .i64 0,.int .i64 0] := ⟨⟨_,Tryz.zeroValue87,rfl⟩⟩
instance : Fld Tryz.prog 87 0 0 := ⟨fun _ _ _=>by kernel_rfl⟩
instance : Fld Tryz.prog 87 1 7 := ⟨fun _ _ _=>by kernel_rfl⟩
instance : Fld Tryz.prog 87 2 8 := ⟨fun _ _ _=>by kernel_rfl⟩
instance : Fld Tryz.prog 87 3 9 := ⟨fun _ _ _=>by kernel_rfl⟩
instance : Fld Tryz.prog 87 4 10 := ⟨fun _ _ _=>by kernel_rfl⟩
instance : Build Tryz.prog 87 [.int .i64 0,.int .i64 0,.int .i64 0,.int .i64 0,.int .i64 0,.bool false,.int .i64 0,.pointer none,.int .i64 0,.int .i64 0,.int .i64 0] [(0,7),(7,1),(8,1),(9,1),(10,1)] := ⟨fun w parts cells h=>by
 simp only [Instr.build,Sem.run_bind,Tryz.zeroValue87,run_underlying Tryz.underlying87,Result.andThen_ok]
 simp only [List.mapM_toArray,List.mapM_cons,List.mapM_nil,Sem.run_bind,Sem.run_map,Sem.run_pure,Result.andThen_ok,pure_bind,bind_assoc,map_eq_pure_bind,Tryz.sizeOf3,Tryz.sizeOf74,Tryz.sizeOf85,Value.cells]
 rw [h]
 rfl⟩
-- 88 *order.Order
instance : One Tryz.prog 88 := ⟨Tryz.isAgg88,Tryz.sizeOf88⟩
instance : PtrTo Tryz.prog 88 := ⟨⟨_,Tryz.underlying88⟩⟩
-- 89 *gather.Gather
instance : One Tryz.prog 89 := ⟨Tryz.isAgg89,Tryz.sizeOf89⟩
instance : PtrTo Tryz.prog 89 := ⟨⟨_,Tryz.underlying89⟩⟩
-- 91 api.Entry
instance : Agg Tryz.prog 91 6 := ⟨Tryz.isAgg91,Tryz.sizeOf91⟩
instance : ZeroOf Tryz.prog 91 [.int .i64 0,.int .i64 0,.int .i64 0,.int .i64 0,.int .i64 0,.int .i64 0] := ⟨⟨_,Tryz.zeroValue91,rfl⟩⟩
instance : Fld Tryz.prog 91 0 0 := ⟨fun _ _ _=>by kernel_rfl⟩
instance : Fld Tryz.prog 91 1 1 := ⟨fun _ _ _=>by kernel_rfl⟩
instance : Fld Tryz.prog 91 2 3 := ⟨fun _ _ _=>by kernel_rfl⟩
instance : Fld Tryz.prog 91 3 4 := ⟨fun _ _ _=>by kernel_rfl⟩
instance : Fld Tryz.prog 91 4 5 := ⟨fun _ _ _=>by kernel_rfl⟩
instance : Build Tryz.prog 91 [.int .i64 0,.int .i64 0,.int .i64 0,.int .i64 0,.int .i64 0,.int .i64 0] [(0,1),(1,2),(3,1),(4,1),(5,1)] := ⟨fun w parts cells h=>by
 simp only [Instr.build,Sem.run_bind,Tryz.zeroValue91,run_underlying Tryz.underlying91,Result.andThen_ok]
 simp only [List.mapM_toArray,List.mapM_cons,List.mapM_nil,Sem.run_bind,Sem.run_map,Sem.run_pure,Result.andThen_ok,pure_bind,bind_assoc,map_eq_pure_bind,Tryz.sizeOf3,Tryz.sizeOf45,Value.cells]
 rw [h]
 rfl⟩
instance : Eqs Tryz.prog 91 6 where
 eq := fun x y xs ys w h1 h2=>by
  match xs,ys,h1,h2 with
  | [a,b,c,d,e,g],[a',b',c',d',e',g'],_,_=>
   simp [go_sem,Sem.run_bind,run_eqGuard_agg,run_eql_struct,run_neq_struct,run_equalIn_agg,run_equalIn_int,Tryz.underlying3,Tryz.underlying45,Tryz.underlying91,Tryz.stoodInHeld45,Tryz.stoodInHeld91,Tryz.eqGuardType91]
   (repeat' split) <;> simp_all
 ne := fun x y xs ys w h1 h2=>by
  match xs,ys,h1,h2 with
  | [a,b,c,d,e,g],[a',b',c',d',e',g'],_,_=>
   simp [go_sem,Sem.run_bind,run_eqGuard_agg,run_eql_struct,run_neq_struct,run_equalIn_agg,run_equalIn_int,Tryz.underlying3,Tryz.underlying45,Tryz.underlying91,Tryz.stoodInHeld45,Tryz.stoodInHeld91,Tryz.eqGuardType91]
   (repeat' split) <;> simp_all
-- 92 *regain.Regain
instance : One Tryz.prog 92 := ⟨Tryz.isAgg92,Tryz.sizeOf92⟩
instance : PtrTo Tryz.prog 92 := ⟨⟨_,Tryz.underlying92⟩⟩
-- 94 ring.Ring
instance : Fld Tryz.prog 94 0 0 := ⟨fun _ _ _=>by kernel_rfl⟩
instance : Fld Tryz.prog 94 1 1 := ⟨fun _ _ _=>by kernel_rfl⟩
instance : Fld Tryz.prog 94 2 2 := ⟨fun _ _ _=>by kernel_rfl⟩
instance : Fld Tryz.prog 94 3 3 := ⟨fun _ _ _=>by kernel_rfl⟩
instance : Fld Tryz.prog 94 4 4 := ⟨fun _ _ _=>by kernel_rfl⟩
instance : Fld Tryz.prog 94 5 5 := ⟨fun _ _ _=>by kernel_rfl⟩
instance : Fld Tryz.prog 94 6 6 := ⟨fun _ _ _=>by kernel_rfl⟩
instance : Fld Tryz.prog 94 7 17 := ⟨fun _ _ _=>by kernel_rfl⟩
instance : Fld Tryz.prog 94 8 18 := ⟨fun _ _ _=>by kernel_rfl⟩
instance : Fld Tryz.prog 94 9 19 := ⟨fun _ _ _=>by kernel_rfl⟩
instance : Fld Tryz.prog 94 10 30 := ⟨fun _ _ _=>by kernel_rfl⟩
instance : Fld Tryz.prog 94 11 36 := ⟨fun _ _ _=>by kernel_rfl⟩
instance : Fld Tryz.prog 94 12 37 := ⟨fun _ _ _=>by kernel_rfl⟩
instance : Fld Tryz.prog 94 13 38 := ⟨fun _ _ _=>by kernel_rfl⟩
instance : Fld Tryz.prog 94 14 39 := ⟨fun _ _ _=>by kernel_rfl⟩
instance : Fld Tryz.prog 94 15 79 := ⟨fun _ _ _=>by kernel_rfl⟩
-- 96 uint
instance : IntT Tryz.prog 96 .u64 := ⟨Tryz.underlying96⟩
-- 98 hauberklaw22.mail
instance : SliceOf Tryz.prog 126 52 18 160 := ⟨Tryz.underlying126,by kernel_rfl,by decide,⟨.agg #[.int .i64 0,.int .i64 0,.int .i64 0,.int .i64 0,.int .i64 0,.int .i64 0,.int .i64 0,.int .i64 0,.int .i64 0,.int .i64 0,.int .i64 0,.int .i64 0,.bool false,.int .i64 0,.int .i64 0,.int .i64 0,.int .i64 0,.slice none 0 0],by kernel_rfl,rfl⟩⟩
-- 127 ([]api.Data, api.Config, api.Config, bool)
-- 130 map[int]int
instance : One Tryz.prog 130 := ⟨Tryz.isAgg130,Tryz.sizeOf130⟩
instance : Fld Tryz.prog 132 0 0 := ⟨fun _ _ _=>by kernel_rfl⟩
instance : Fld Tryz.prog 132 1 1 := ⟨fun _ _ _=>by kernel_rfl⟩
instance : Build Tryz.prog 132 [.int .i64 0,.map none] [(0,1),(1,1)] := ⟨fun w parts cells h=>by
 simp only [Instr.build,Sem.run_bind,Tryz.zeroValue132,run_underlying Tryz.underlying132,Result.andThen_ok]
 simp only [List.mapM_toArray,List.mapM_cons,List.mapM_nil,Sem.run_bind,Sem.run_map,Sem.run_pure,Result.andThen_ok,pure_bind,bind_assoc,map_eq_pure_bind,Tryz.sizeOf130,Tryz.sizeOf3,Value.cells]
 rw [h]
 rfl⟩
-- 133 [32]api.Message
instance : ArrOf Tryz.prog 133 32 50 13 := ⟨Tryz.underlying133,Tryz.sizeOf50⟩
-- 135 queue.Queue
instance : Fld Tryz.prog 135 0 0 := ⟨fun _ _ _=>by kernel_rfl⟩
instance : Fld Tryz.prog 135 1 1 := ⟨fun _ _ _=>by kernel_rfl⟩
instance : Fld Tryz.prog 135 2 2 := ⟨fun _ _ _=>by kernel_rfl⟩
instance : Fld Tryz.prog 135 3 3 := ⟨fun _ _ _=>by kernel_rfl⟩
-- 138 order.Order
instance : Fld Tryz.prog 138 0 0 := ⟨fun _ _ _=>by kernel_rfl⟩
instance : Fld Tryz.prog 138 1 1 := ⟨fun _ _ _=>by kernel_rfl⟩
instance : Build Tryz.prog 138 [.bool false,.int .i64 0] [(0,1),(1,1)] := ⟨fun w parts cells h=>by
 simp only [Instr.build,Sem.run_bind,Tryz.zeroValue138,run_underlying Tryz.underlying138,Result.andThen_ok]
 simp only [List.mapM_toArray,List.mapM_cons,List.mapM_nil,Sem.run_bind,Sem.run_map,Sem.run_pure,Result.andThen_ok,pure_bind,bind_assoc,map_eq_pure_bind,Tryz.sizeOf3,Tryz.sizeOf4,Value.cells]
 rw [h]
 rfl⟩
-- 140 (*gather.Gather, api.Errno)
-- 143 packet.shape
instance : Agg Tryz.prog 143 5 := ⟨Tryz.isAgg143,Tryz.sizeOf143⟩
instance : ZeroOf Tryz.prog 143 [.bool false,.bool false,.bool false,.bool false,.bool false] := ⟨⟨_,Tryz.zeroValue143,rfl⟩⟩
instance : Fld Tryz.prog 143 0 0 := ⟨fun _ _ _=>by kernel_rfl⟩
instance : Fld Tryz.prog 143 1 1 := ⟨fun _ _ _=>by kernel_rfl⟩
instance : Fld Tryz.prog 143 2 2 := ⟨fun _ _ _=>by kernel_rfl⟩
instance : Fld Tryz.prog 143 3 3 := ⟨fun _ _ _=>by kernel_rfl⟩
instance : Fld Tryz.prog 143 4 4 := ⟨fun _ _ _=>by kernel_rfl⟩
instance : Build Tryz.prog 143 [.bool false,.bool false,.bool false,.bool false,.bool false] [(0,1),(1,1),(2,1),(3,1),(4,1)] := ⟨fun w parts cells h=>by
 simp only [Instr.build,Sem.run_bind,Tryz.zeroValue143,run_underlying Tryz.underlying143,Result.andThen_ok]
 simp only [List.mapM_toArray,List.mapM_cons,List.mapM_nil,Sem.run_bind,Sem.run_map,Sem.run_pure,Result.andThen_ok,pure_bind,bind_assoc,map_eq_pure_bind,Tryz.sizeOf4,Value.cells]
 rw [h]
 rfl⟩
-- 146 func(int) bool
instance : IntT Tryz.prog 161 .u64 := ⟨Tryz.underlying161⟩
-- 162 *hauberkref08.Alarms
instance : One Tryz.prog 181 := ⟨Tryz.isAgg181,Tryz.sizeOf181⟩
instance : Fld Tryz.prog 183 0 0 := ⟨fun _ _ _=>by kernel_rfl⟩
instance : Fld Tryz.prog 183 1 1 := ⟨fun _ _ _=>by kernel_rfl⟩
instance : Fld Tryz.prog 183 2 2 := ⟨fun _ _ _=>by kernel_rfl⟩
instance : Fld Tryz.prog 183 3 3 := ⟨fun _ _ _=>by kernel_rfl⟩
instance : Build Tryz.prog 183 [.bool false,.map none,.int .i64 0,.int .i64 0] [(0,1),(1,1),(2,1),(3,1)] := ⟨fun w parts cells h=>by
 simp only [Instr.build,Sem.run_bind,Tryz.zeroValue183,run_underlying Tryz.underlying183,Result.andThen_ok]
 simp only [List.mapM_toArray,List.mapM_cons,List.mapM_nil,Sem.run_bind,Sem.run_map,Sem.run_pure,Result.andThen_ok,pure_bind,bind_assoc,map_eq_pure_bind,Tryz.sizeOf181,Tryz.sizeOf3,Tryz.sizeOf4,Value.cells]
 rw [h]
 rfl⟩
-- 184 map[int]api.Join
instance : One Tryz.prog 184 := ⟨Tryz.isAgg184,Tryz.sizeOf184⟩
instance : Fld Tryz.prog 186 0 0 := ⟨fun _ _ _=>by kernel_rfl⟩
instance : Fld Tryz.prog 186 1 1 := ⟨fun _ _ _=>by kernel_rfl⟩
instance : Fld Tryz.prog 186 2 2 := ⟨fun _ _ _=>by kernel_rfl⟩
instance : Fld Tryz.prog 186 3 3 := ⟨fun _ _ _=>by kernel_rfl⟩
instance : Build Tryz.prog 186 [.int .i64 0,.int .i64 0,.int .i64 0,.map none] [(0,1),(1,1),(2,1),(3,1)] := ⟨fun w parts cells h=>by
 simp only [Instr.build,Sem.run_bind,Tryz.zeroValue186,run_underlying Tryz.underlying186,Result.andThen_ok]
 simp only [List.mapM_toArray,List.mapM_cons,List.mapM_nil,Sem.run_bind,Sem.run_map,Sem.run_pure,Result.andThen_ok,pure_bind,bind_assoc,map_eq_pure_bind,Tryz.sizeOf184,Tryz.sizeOf3,Value.cells]
 rw [h]
 rfl⟩
-- 191 (bool, api.Errno)
-- 195 *ring.way
instance : Agg Tryz.prog 266 9 := ⟨Tryz.isAgg266,Tryz.sizeOf266⟩
instance : ZeroOf Tryz.prog 266 [.int .i64 0,.int .i64 0,.int .i64 0,.int .i64 0,.int .i64 0,.bool false,.int .i64 0,.int .i64 0,.int .i64 0] := ⟨⟨_,Tryz.zeroValue266,rfl⟩⟩
instance : Fld Tryz.prog 266 0 0 := ⟨fun _ _ _=>by kernel_rfl⟩
instance : Fld Tryz.prog 266 1 7 := ⟨fun _ _ _=>by kernel_rfl⟩
instance : Fld Tryz.prog 266 2 8 := ⟨fun _ _ _=>by kernel_rfl⟩
instance : Build Tryz.prog 266 [.int .i64 0,.int .i64 0,.int .i64 0,.int .i64 0,.int .i64 0,.bool false,.int .i64 0,.int .i64 0,.int .i64 0] [(0,7),(7,1),(8,1)] := ⟨fun w parts cells h=>by
 simp only [Instr.build,Sem.run_bind,Tryz.zeroValue266,run_underlying Tryz.underlying266,Result.andThen_ok]
 simp only [List.mapM_toArray,List.mapM_cons,List.mapM_nil,Sem.run_bind,Sem.run_map,Sem.run_pure,Result.andThen_ok,pure_bind,bind_assoc,map_eq_pure_bind,Tryz.sizeOf3,Tryz.sizeOf74,Value.cells]
 rw [h]
 rfl⟩
-- 267 ([]api.Event, api.Errno)
-- 270 func() (api.Message, api.Errno)
instance : One Tryz.prog 270 := ⟨Tryz.isAgg270,Tryz.sizeOf270⟩
instance : Agg Tryz.prog 272 3 := ⟨Tryz.isAgg272,Tryz.sizeOf272⟩
instance : ZeroOf Tryz.prog 272 [.int .i64 0,.nilFunc,.int .i64 0] := ⟨⟨_,Tryz.zeroValue272,rfl⟩⟩
instance : Fld Tryz.prog 272 0 0 := ⟨fun _ _ _=>by kernel_rfl⟩
instance : Fld Tryz.prog 272 1 1 := ⟨fun _ _ _=>by kernel_rfl⟩
instance : Fld Tryz.prog 272 2 2 := ⟨fun _ _ _=>by kernel_rfl⟩
instance : Build Tryz.prog 272 [.int .i64 0,.nilFunc,.int .i64 0] [(0,1),(1,1),(2,1)] := ⟨fun w parts cells h=>by
 simp only [Instr.build,Sem.run_bind,Tryz.zeroValue272,run_underlying Tryz.underlying272,Result.andThen_ok]
 simp only [List.mapM_toArray,List.mapM_cons,List.mapM_nil,Sem.run_bind,Sem.run_map,Sem.run_pure,Result.andThen_ok,pure_bind,bind_assoc,map_eq_pure_bind,Tryz.sizeOf270,Tryz.sizeOf3,Value.cells]
 rw [h]
 rfl⟩
-- 275 regain.Regain
instance : Fld Tryz.prog 275 0 0 := ⟨fun _ _ _=>by kernel_rfl⟩
instance : Fld Tryz.prog 275 1 1 := ⟨fun _ _ _=>by kernel_rfl⟩
instance : Build Tryz.prog 275 [.bool false,.slice none 0 0] [(0,1),(1,1)] := ⟨fun w parts cells h=>by
 simp only [Instr.build,Sem.run_bind,Tryz.zeroValue275,run_underlying Tryz.underlying275,Result.andThen_ok]
 simp only [List.mapM_toArray,List.mapM_cons,List.mapM_nil,Sem.run_bind,Sem.run_map,Sem.run_pure,Result.andThen_ok,pure_bind,bind_assoc,map_eq_pure_bind,Tryz.sizeOf4,Tryz.sizeOf64,Value.cells]
 rw [h]
 rfl⟩
-- 278 (api.Join, bool)
-- 282 func(api.Entry, api.Entry) int
instance : SliceOf Tryz.prog 285 318 4 32 := ⟨Tryz.underlying285,by kernel_rfl,by decide,⟨.agg #[.int .i64 0,.int .i64 0,.int .i64 0,.int .i64 0],by kernel_rfl,rfl⟩⟩
-- 286 ([]api.Place, api.Errno)
-- 288 (int, api.Errno)
-- 294 (*hauberkref20.Regain, api.Errno)
-- 296 *word.Reader
instance : PtrTo Tryz.prog 296 := ⟨⟨_,Tryz.underlying296⟩⟩
-- 299 *int
instance : One Tryz.prog 299 := ⟨Tryz.isAgg299,Tryz.sizeOf299⟩
instance : One Tryz.prog 303 := ⟨Tryz.isAgg303,Tryz.sizeOf303⟩
instance : ZeroOf Tryz.prog 303 [.slice none 0 0] := ⟨⟨_,Tryz.zeroValue303,rfl⟩⟩
instance : SliceOf Tryz.prog 303 76 26 224 := ⟨Tryz.underlying303,by kernel_rfl,by decide,⟨.agg #[.int .i64 0,.int .i64 0,.int .i64 0,.int .i64 0,.int .i64 0,.int .i64 0,.bool false,.int .i64 0,.int .i64 0,.int .i64 0,.int .i64 0,.int .i64 0,.int .i64 0,.int .i64 0,.int .i64 0,.int .i64 0,.int .i64 0,.int .i64 0,.int .i64 0,.int .i64 0,.bool false,.int .i64 0,.int .i64 0,.int .i64 0,.int .i64 0,.slice none 0 0],by kernel_rfl,rfl⟩⟩
-- 308 [][]api.Entry
instance : SliceOf Tryz.prog 308 57 1 24 := ⟨Tryz.underlying308,by kernel_rfl,by decide,⟨.slice none 0 0,by kernel_rfl,rfl⟩⟩
-- 311 func(func(int) bool)
instance : Agg Tryz.prog 318 4 := ⟨Tryz.isAgg318,Tryz.sizeOf318⟩
instance : ZeroOf Tryz.prog 318 [.int .i64 0,.int .i64 0,.int .i64 0,.int .i64 0] := ⟨⟨_,Tryz.zeroValue318,rfl⟩⟩
instance : Fld Tryz.prog 318 0 0 := ⟨fun _ _ _=>by kernel_rfl⟩
instance : Fld Tryz.prog 318 1 1 := ⟨fun _ _ _=>by kernel_rfl⟩
instance : Fld Tryz.prog 318 2 3 := ⟨fun _ _ _=>by kernel_rfl⟩
instance : Fld Tryz.prog 328 0 0 := ⟨fun _ _ _=>by kernel_rfl⟩
instance : Fld Tryz.prog 328 1 1 := ⟨fun _ _ _=>by kernel_rfl⟩
instance : Build Tryz.prog 328 [.slice none 0 0,.bool false] [(0,1),(1,1)] := ⟨fun w parts cells h=>by
 simp only [Instr.build,Sem.run_bind,Tryz.zeroValue328,run_underlying Tryz.underlying328,Result.andThen_ok]
 simp only [List.mapM_toArray,List.mapM_cons,List.mapM_nil,Sem.run_bind,Sem.run_map,Sem.run_pure,Result.andThen_ok,pure_bind,bind_assoc,map_eq_pure_bind,Tryz.sizeOf4,Tryz.sizeOf48,Value.cells]
 rw [h]
 rfl⟩
-- 329 []*int
instance : SliceOf Tryz.prog 329 299 1 8 := ⟨Tryz.underlying329,by kernel_rfl,by decide,⟨.pointer none,by kernel_rfl,rfl⟩⟩
-- 330 (int, int, api.Errno)
-- 332 *change.told
instance : ArrOf Tryz.prog 343 64 5 1 := ⟨Tryz.underlying343,Tryz.sizeOf5⟩
-- 344 *word.Writer
instance : PtrTo Tryz.prog 344 := ⟨⟨_,Tryz.underlying344⟩⟩
-- 350 func(api.Place) bool
instance : Fld Tryz.prog 364 0 0 := ⟨fun _ _ _=>by kernel_rfl⟩
instance : Fld Tryz.prog 364 1 1 := ⟨fun _ _ _=>by kernel_rfl⟩
instance : Build Tryz.prog 364 [.slice none 0 0,.bool false] [(0,1),(1,1)] := ⟨fun w parts cells h=>by
 simp only [Instr.build,Sem.run_bind,Tryz.zeroValue364,run_underlying Tryz.underlying364,Result.andThen_ok]
 simp only [List.mapM_toArray,List.mapM_cons,List.mapM_nil,Sem.run_bind,Sem.run_map,Sem.run_pure,Result.andThen_ok,pure_bind,bind_assoc,map_eq_pure_bind,Tryz.sizeOf4,Tryz.sizeOf48,Value.cells]
 rw [h]
 rfl⟩
-- 367 hauberkref01.Reader
end Go.Proofs.YtohbcfokihplbaaGreatDoor
namespace Go.Hb
theorem Stores.osl {P : Program} {T : TypeId} {q b o i n c : Nat} {v : Value} {vs xs : List Value} {E : TypeId} {sz : Nat} (h : Sz P T q) (hv : v.cells = vs.toArray) (h1 : vs.all Value.oneCell' = true) (hm : vs.length = q) (hb : i + vs.length ≤ xs.length) :
  Stores P T ⟨b,o + i,none⟩ v (osl (.slice (some ⟨b,o,none⟩) n c) E sz n xs) (osl (.slice (some ⟨b,o,none⟩) n c) E sz n (splice xs i vs)) := by
 intro w hw
 have hw' : w.ownsRow 0 E sz (.slice (some ⟨b,o,none⟩) n c) n xs := hw
 obtain ⟨hl,hr⟩ := hw'
 rcases hr with ⟨he,_⟩ | ⟨g,cap,cur,he,hbg,hg,hnc,hcm,hcs,htake⟩
 ·cases he
 simp only [Value.slice.injEq,Option.some.injEq,Addr.mk.injEq,and_true,true_and] at he
 obtain ⟨⟨rfl,rfl⟩,rfl⟩ := he
 have hxs : xs.length ≤ cur.toList.length := by rw [← htake];simp;omega
 have hg' : w.heap[b]? = some (.cells cur.toList.toArray E (0,0)) := by simpa using hg
 have hrun := run_storeVar (P := P) h w b i v vs cur.toList E hv hm hg' (by omega) h1
 rw [Nat.zero_add]
 refine ⟨_,hrun,⟨Keep.setRow w b _ _ E hg' rfl,?_,fun k hk=>.inl hk⟩⟩
 refine ⟨by simp [splice];omega,.inr ⟨b,c,(splice cur.toList i vs).toArray,rfl,hbg,setRow_heap w b _ _ E (0,0) hg',hnc,hcm,?_,?_⟩⟩
 ·simp [splice];simp at hxs;omega
 ·have e2 : splice cur.toList i vs = splice xs i vs ++ cur.toList.drop xs.length := by
   have e3 : cur.toList = xs ++ cur.toList.drop xs.length := by
    conv=>lhs;rw [← List.take_append_drop xs.length cur.toList]
    congr 1
    rw [← htake];simp
   rw [e3]
   unfold splice
   rw [List.take_append_of_le_length (by omega),List.drop_append_of_le_length (by omega)]
   simp
  have e4 : (splice xs i vs).length = xs.length := by simp [splice];omega
  show (splice cur.toList i vs).take _ = splice xs i vs
  rw [e2]
  rw [List.take_append_of_le_length (by omega),List.take_of_length_le (by omega)]
theorem LR_cls_cw {P : Program} {n : Nat} {c : Code} {Q : Post} {f : Frm} {C : World → Prop} (h : ∀ w,C w → CW P n c Q f (fun u=>u = w)) : CW P n c Q f C := fun w hw=>h w hw w rfl
theorem wpStill_mono' {P : Program} {ops : Array Oper} {w : World} {Q Q' : Act → Prop} : ∀ {l : List Oper} {a : Act},wpStill P ops w Q l a → (∀ a,Q a → Q' a) → wpStill P ops w Q' l a
 | [],a,h,hq=>hq _ h
 | o :: r,a,h,hq=>by
  simp only [wpStill] at h ⊢
  split
  ·rename_i hw
   rw [if_pos hw] at h
   exact Oper.still_mono (fun a' h'=>wpStill_mono' h' hq) h
  ·rename_i hw
   rw [if_neg hw] at h
   exact wpStill_mono' h hq
def TW (P : Program) (n : Nat) (ops l : List Oper) (K : Frm → Prop) (f : Frm) (C : World → Prop) : Prop :=
 ∀ w,C w → ∀ a,Fits n a f → wpStill P ops.toArray w (fun a'=>∃ f',Fits n a' f' ∧ K f') l a
section
variable {P : Program} {n : Nat} {ops rest : List Oper} {K : Frm → Prop} {f : Frm} {C : World → Prop} {op : Op} {T : TypeId} {p : String} {af : Array Edge} {d : Nat} {v : Value} {Q : Post}
theorem TW.nil (h : K f) : TW P n ops [] K f C := fun _ _ _ ha=>wpStill_nil ⟨f,ha,h⟩
theorem TW.ev (he : Ev P C f op T v) (hd : Nat.blt d n = true) (k : TW P n ops rest K (upd f d v) C) : TW P n ops (⟨some d,op,T,p,af,none⟩ :: rest) K f C := by
 intro w hw a ha
 refine wpStill_step fun K' hK=>?_
 simp only [Region.wanted,if_true]
 have hr := he w hw (some d) p af none
 rw [← ha.eval] at hr
 simp only [Oper.still,hr,Oper.stillUpon_value]
 exact hK _ (k w hw _ (ha.put v hd))
theorem CW.reg_tail (k : Nat) {id : Nat} {l : List Oper} [hm : Mixed P] [hc : Drawn C] (hB : Region.lexTailB .any l.toArray k = true)
  (h : TW P n l (l.take k) (fun f'=>LR false P n l (l.drop k) Q f' C) f C) : CW P n (.region id l.toArray true) Q f C := by
 intro w hw a ha
 refine wp_region_still_tail k hm.mixed hB ?_
 have hd := hc.drew w hw
 have := h _ hd a ha
 refine wpStill_mono' this fun a' ⟨f',hf',hk⟩=>hk _ hd a' hf'
end
class Nx (G : Prop) (H : outParam Prop) : Prop where
 go : H → G
theorem jJ {G H : Prop} [h : Nx G H] (k : H) : G := h.go k
section
variable {P : Program} {n : Nat} {Q : Post} {f g : Frm} {C : World → Prop} {m : Bool} {ops : List Oper}
instance {x y : Code} : Nx (CW P n (.seq x y) Q f C) (CW P n x (thn P n y Q) f C) := ⟨CW.seq⟩
instance {id : Nat} {l : List Oper} : Nx (CW P n (.region id l.toArray false) Q f C) (LR false P n l l Q f C) := ⟨CW.reg⟩
instance {id : Nat} {c : Code} : Nx (CW P n (.block id c) Q f C) (CW P n c (blk id Q) f C) := ⟨CW.block⟩
instance : Nx (CW P n .ret Q f C) (At Q .ret f C) := ⟨CW.ret⟩
instance : Nx (CW P n .skip Q f C) (At Q .normal f C) := ⟨CW.skip⟩
instance {id : Nat} : Nx (CW P n (.exit id) Q f C) (At Q (.exit id) f C) := ⟨CW.exit⟩
instance {l : Nat} : Nx (CW P n (.label l) Q f C) (At Q .normal f C) := ⟨CW.label⟩
instance {c : Code} : Nx (CW P n (.scope c) Q f C) (CW P n c (noG Q) f C) := ⟨CW.scope⟩
instance {y : Code} : Nx (At (thn P n y Q) .normal f C) (CW P n y Q f C) := ⟨At.thn⟩
instance {y : Code} : Nx (At (thn P n y Q) .ret f C) (At Q .ret f C) := ⟨fun h=>h⟩
instance {y : Code} {id : Nat} : Nx (At (thn P n y Q) (.exit id) f C) (At Q (.exit id) f C) := ⟨fun h=>h⟩
instance {id : Nat} : Nx (At (blk id Q) .normal f C) (At Q .normal f C) := ⟨fun h=>h⟩
instance {id : Nat} : Nx (At (blk id Q) .ret f C) (At Q .ret f C) := ⟨fun h=>h⟩
instance {id : Nat} : Nx (At (blk id Q) (.exit id) f C) (At Q .normal f C) := ⟨At.blk_here⟩
instance : Nx (At (noG Q) .ret f C) (At Q .ret f C) := ⟨fun h=>h⟩
instance {α : Type} {M : List Nat} {I : α → Prop} {vs : α → List (Nat × Value)} {D : α → World → Prop} {μ : α → Nat} {i : α} : Nx (At (again M f I vs D μ i Q) .ret g C) (At Q .ret g C) := ⟨fun h=>h⟩
instance {α : Type} {M : List Nat} {I : α → Prop} {vs : α → List (Nat × Value)} {D : α → World → Prop} {μ : α → Nat} {i : α} {id : Nat} : Nx (At (again M f I vs D μ i Q) (.exit id) g C) (At Q (.exit id) g C) := ⟨fun h=>h⟩
instance {y : Code} : Nx (LR m P n ops [] (thn P n y Q) f C) (CW P n y Q f C) := ⟨kN⟩
instance (priority := low) : Nx (LR m P n ops [] Q f C) (At Q .normal f C) := ⟨kM⟩
def selC (v : Value) (x y : Code) : Option Code := match v with | .bool true=>some x | .bool false=>some y | _=>none
theorem jE {c : Operand} {x y z : Code} (hb : selC (f.ev c) x y = some z) (h : CW P n z Q f C) : CW P n (.cond c x y) Q f C := by
 cases hv : f.ev c <;> rw [hv] at hb <;> simp only [selC,reduceCtorEq] at hb
 rename_i b
 cases b
 ·simp only [Option.some.injEq] at hb;subst hb;exact CW.cond_false hv h
 ·simp only [Option.some.injEq] at hb;subst hb;exact CW.cond_true hv h
end
inductive InL : List Asrt → Nat → Nat → Nat → List Value → Prop
 | own {b q : Nat} {cs : List Value} {E : TypeId} {fr : Nat × Nat} {L : List Asrt} : InL (.own b (.cells cs.toArray E fr) :: L) b q q cs
 | rd {b o q : Nat} {xs : List Value} {L : List Asrt} (h : Nat.ble o q = true) : InL (rdA (some ⟨b,o,none⟩) xs :: L) b q (q - o) xs
 | tail {x : Asrt} {L : List Asrt} {b q j : Nat} {cs : List Value} (h : InL L b q j cs) : InL (x :: L) b q j cs
theorem iO {b q : Nat} {cs : List Value} {E : TypeId} {fr : Nat × Nat} {L : List Asrt} : InL (.own b (.cells cs.toArray E fr) :: L) b q q cs := .own
theorem iR {b o q : Nat} {xs : List Value} {L : List Asrt} (h : Nat.ble o q = true) : InL (rdA (some ⟨b,o,none⟩) xs :: L) b q (q - o) xs := .rd h
theorem iT {x : Asrt} {L : List Asrt} {b q j : Nat} {cs : List Value} (h : InL L b q j cs) : InL (x :: L) b q j cs := .tail h
theorem InL.get {b q j : Nat} {cs : List Value} : ∀ {L L2 : List Asrt} {w0 w : World} {F : Nat → Prop},InL L b q j cs → St w0 F L2 w → (∀ x ∈ L,x ∈ L2) → ∀ i v,cs[j + i]? = some v → w.cell? ⟨b,q + i,none⟩ = some v
 | _,_,w0,w,F,.own,hS,hm,i,v,hv=>by
  rw [cell_own (hS.own_at (hm _ (mH _ _)))]
  simpa using hv
 | _,_,w0,w,F,.rd (o := o) h,hS,hm,i,v,hv=>by
  have := (hS.rd_of (hm _ (mH _ _))).cell hv
  rwa [show o + (q - o + i) = q + i by have := Nat.le_of_ble_eq_true h;omega] at this
 | _,_,w0,w,F,.tail h,hS,hm,i,v,hv=>InL.get h hS (fun x hx=>hm x (mT _ hx)) i v hv
section
variable {m : Bool} {P : Program} {n : Nat} {ops rest : List Oper} {Q : Post} {f : Frm} {C : World → Prop} {op : Op} {T T' T'' : TypeId} {p : String} {af : Array Edge} {d : Nat} {v : Value} {x y : Operand} {w0 : World} {F : Nat → Prop} {L L' : List Asrt}
theorem Ez {b q j : Nat} {cs : List Value} [h : One P T] (hx : f.ev x = .pointer (some ⟨b,q,none⟩)) (hm : InL L b q j cs) (hc : cs[j]? = some v) : Ev P (St w0 F L) f (.load T x) T' v :=
 Ev.load hx fun w hw=>by have := hm.get hw (fun _ h=>h) 0 v (by simpa using hc);simpa using this
theorem Ey {b q j k : Nat} {cs : List Value} [h : Agg P T k] (hx : f.ev x = .pointer (some ⟨b,q,none⟩)) (hm : InL L b q j cs) (hl : Nat.ble (j + k) cs.length = true) : Ev P (St w0 F L) f (.load T x) T' (.agg ((cs.drop j).take k).toArray) := by
 have h1 := Nat.le_of_ble_eq_true hl
 refine Ev.load_agg_at hx (by simp;omega) fun w hw i v hi=>?_
 rw [List.getElem?_take] at hi
 split at hi
 ·rw [List.getElem?_drop] at hi
  rw [addr_add]
  exact hm.get hw (fun _ h=>h) i v hi
 ·cases hi
theorem kU {b o q : Nat} {cs vs cs' : List Value} {E : TypeId} [h : Sz P T q] (hx : f.ev x = .pointer (some ⟨b,o,none⟩)) (hv : cellV (f.ev y) = some vs)
  (hs : Sel L (.own b (.cells cs.toArray E (0,0))) (.own b (.cells cs'.toArray E (0,0))) L')
  (hn : splice cs o vs = cs') (h1 : (vs.all Value.oneCell' && Nat.beq vs.length q && Nat.ble (o + vs.length) cs.length) = true)
  (k : LR false P n ops rest Q f (St w0 F L')) : LR false P n ops (⟨none,.store T x y,T',p,af,none⟩ :: rest) Q f (St w0 F L) := by
 subst hn
 exact kS hx hv hs h1 k
def bsN (f : Frm) (sz : Nat) : List (Nat × Operand) → Option (List Value)
 | []=>some []
 | (_,x) :: ps=>match bsN f sz ps with
  | some cs=>(match f.ev x with
   | .int k a=>(match Nat.beq sz 1 with | true=>some (.int k a :: cs) | false=>none)
   | .pointer a=>(match Nat.beq sz 1 with | true=>some (.pointer a :: cs) | false=>none)
   | .slice a l c=>(match Nat.beq sz 1 with | true=>some (.slice a l c :: cs) | false=>none)
   | .agg ⟨vs⟩=>(match Nat.beq vs.length sz with | true=>some (vs ++ cs) | false=>none)
   | _=>none)
  | none=>none
theorem bsN_BS {sz : Nat} : ∀ {ps : List (Nat × Operand)} {cs : List Value},bsN f sz ps = some cs → BS f sz ps cs
 | [],cs,h=>by simp only [bsN,Option.some.injEq] at h;subst h;exact BS.nil _
 | (i,x) :: ps,cs,h=>by
  simp only [bsN] at h
  split at h
  ·rename_i r hr
   have ih := bsN_BS hr
   split at h
   ·rename_i hx;split at h
    ·rename_i hs;cases Nat.eq_of_beq_eq_true hs;cases h;exact BS.int hx ih
    ·cases h
   ·rename_i hx;split at h
    ·rename_i hs;cases Nat.eq_of_beq_eq_true hs;cases h;exact BS.ptr hx ih
    ·cases h
   ·rename_i hx;split at h
    ·rename_i hs;cases Nat.eq_of_beq_eq_true hs;cases h;exact BS.slice hx ih
    ·cases h
   ·rename_i hx;split at h
    ·rename_i hs;cases h;exact BS.agg hx (Nat.eq_of_beq_eq_true hs) ih
    ·cases h
   ·cases h
  ·cases h
theorem kK {E : TypeId} {sz by_ len : Nat} [h : SliceOf P T E sz by_] {parts : List (Nat × Operand)} {cs : List Value} (hd : Nat.blt d n = true) (hlen : Nat.ble (len * sz) 100000 = true)
  (hp : parts.map (·.1) = List.range len) (hb : bsN f sz parts = some cs)
  (k : ∀ b,LR false P n ops rest Q (upd f d (.slice (some ⟨b,0,none⟩) len len)) (St w0 F (.own b (.cells cs.toArray E (0,0)) :: L))) :
  LR false P n ops (⟨some d,.buildSlice T len parts.toArray,T',p,af,none⟩ :: rest) Q f (St w0 F L) := kL hd hlen hp (bsN_BS hb) k
theorem addX {a b : Int} (hx : f.ev x = .int .i64 a) (hy : f.ev y = .int .i64 b) (h1 : -9223372036854775808 ≤ a + b) (h2 : a + b ≤ 9223372036854775807) (hd : Nat.blt d n = true) (k : LR m P n ops rest Q (upd f d (.int .i64 (a + b))) C) :
  LR m P n ops (⟨some d,.binOp .add T' x y T'',T,p,af,none⟩ :: rest) Q f C := LR.ev (Ev.add hx hy h1 h2) hd k
theorem subX {a b : Int} (hx : f.ev x = .int .i64 a) (hy : f.ev y = .int .i64 b) (h1 : -9223372036854775808 ≤ a - b) (h2 : a - b ≤ 9223372036854775807) (hd : Nat.blt d n = true) (k : LR m P n ops rest Q (upd f d (.int .i64 (a - b))) C) :
  LR m P n ops (⟨some d,.binOp .sub T' x y T'',T,p,af,none⟩ :: rest) Q f C := LR.ev (Ev.sub hx hy h1 h2) hd k
theorem mulX {a b : Int} (hx : f.ev x = .int .i64 a) (hy : f.ev y = .int .i64 b) (h1 : -9223372036854775808 ≤ a * b) (h2 : a * b ≤ 9223372036854775807) (hd : Nat.blt d n = true) (k : LR m P n ops rest Q (upd f d (.int .i64 (a * b))) C) :
  LR m P n ops (⟨some d,.binOp .mul T' x y T'',T,p,af,none⟩ :: rest) Q f C := LR.ev (Ev.mul hx hy h1 h2) hd k
theorem idxX {E : TypeId} {sz by_ b o l c : Nat} {q : IntKind} {i : Int} [h : SliceOf P T' E sz by_] (hx : f.ev x = .slice (some ⟨b,o,none⟩) l c) (hy : f.ev y = .int q i) (h0 : 0 ≤ i) (h1 : i < l) (hd : Nat.blt d n = true)
  (k : LR m P n ops rest Q (upd f d (.pointer (some ⟨b,o + i.toNat * sz,none⟩))) C) : LR m P n ops (⟨some d,.indexAddr T' x y,T,p,af,none⟩ :: rest) Q f C := LR.ev (Ev.indexAddr hx hy h0 h1) hd k
end
theorem hcs : (∀ (p : Prop) [Decidable p],(decide p = true) = p) ∧ (∀ (p : Prop) [Decidable p],(decide p = false) = ¬p) ∧ (∀ b : Bool,((!b) = true) = (b = false)) ∧ (∀ b : Bool,((!b) = false) = (b = true)) ∧
  (∀ b : Bool,(¬b = true) = (b = false)) ∧ (∀ b : Bool,(¬b = false) = (b = true)) ∧ (!true) = false ∧ (!false) = true ∧ (∀ a b : Int,(¬a < b) = (b ≤ a)) ∧ (∀ a b : Int,(¬a ≤ b) = (b < a)) ∧
  (∀ (α : Type) (a b : α) (l r : List α),(a :: l = b :: r) = (a = b ∧ l = r)) ∧ (∀ p : Prop,(p ∧ True) = p) ∧ (∀ (α : Type) [BEq α] [LawfulBEq α] (a b : α),((a == b) = true) = (a = b)) ∧ (∀ (α : Type) [BEq α] [LawfulBEq α] (a b : α),((a == b) = false) = (a ≠ b)) := by
 refine ⟨fun p _=>by simp,fun p _=>by simp,by simp,by simp,by simp,by simp,rfl,rfl,fun a b=>by simp,fun a b=>by simp,fun _ _ _ _ _=>by simp,by simp,fun _ _ _ _ _=>by simp,fun _ _ _ _ _=>by simp⟩
section
variable {m : Bool} {P : Program} {n : Nat} {ops rest : List Oper} {Q : Post} {f : Frm} {C S : World → Prop} {op : Op} {T T' T'' : TypeId} {p : String} {af : Array Edge} {d : Nat} {v : Value} {x y : Operand} {L L' : List Asrt} {K : Frm → Prop} {r : List Nat} {i j dj : Nat} {b : Bool}
theorem kv' (k : LR m P n ops rest Q (upd f d v) C) (he : Ev P C f op T v := by first | exact evV_sound rfl | ((first | apply Ez | apply Ey);(·exact rfl);(·repeat (first | exact iO | exact iR rfl | apply iT));exact rfl) | ((first | apply Ev.fieldAddr | apply Ev.len | apply EqOf.eq | apply EqOf.ne | apply Ev.conv | apply Ev.buildN);exact rfl) | ((first | apply Ev.shr | apply Ev.shl);(iterate 2 exact rfl);first | decide | omega)) (hd : Nat.blt d n = true := by exact rfl) :
  LR m P n ops (⟨some d,op,T,p,af,none⟩ :: rest) Q f C := LR.ev he hd k
theorem yv' (k : QL P n ops S K r (upd f d v)) (hi : ops[i]? = some ⟨some d,op,T,p,af,none⟩ := by exact rfl) (he : Ev P S f op T v := by first | exact evV_sound rfl | ((first | apply Ez | apply Ey);(·exact rfl);(·repeat (first | exact iO | exact iR rfl | apply iT));exact rfl) | ((first | apply Ev.fieldAddr | apply Ev.len | apply EqOf.eq | apply EqOf.ne | apply Ev.conv | apply Ev.buildN);exact rfl) | ((first | apply Ev.shr | apply Ev.shl);(iterate 2 exact rfl);first | decide | omega)) (hd : Nat.blt d n = true := by exact rfl) :
  QL P n ops S K (i :: r) f := QL.ev hi he hd k
theorem uv' (k : QL P n ops S K r (upd f d v)) (hi : ops[i]? = some ⟨some d,op,T,p,af,some (j,b)⟩ := by exact rfl) (hj : (ops[j]?).bind (·.dst) = some dj := by exact rfl) (hb : f dj = .bool b := by exact rfl) (he : Ev P S f op T v := by first | exact evV_sound rfl | ((first | apply Ez | apply Ey);(·exact rfl);(·repeat (first | exact iO | exact iR rfl | apply iT));exact rfl) | ((first | apply Ev.fieldAddr | apply Ev.len | apply EqOf.eq | apply EqOf.ne | apply Ev.conv | apply Ev.buildN);exact rfl) | ((first | apply Ev.shr | apply Ev.shl);(iterate 2 exact rfl);first | decide | omega)) (hd : Nat.blt d n = true := by exact rfl) :
  QL P n ops S K (i :: r) f := QL.evg hi hj hb he hd k
theorem un' (k : QL P n ops S K r (upd f d undef)) (hi : ops[i]? = some ⟨some d,op,T,p,af,some (j,b)⟩ := by exact rfl) (hj : (ops[j]?).bind (·.dst) = some dj := by exact rfl) (hb : noV (f dj) b = true := by exact rfl) (hd : Nat.blt d n = true := by exact rfl) : QL P n ops S K (i :: r) f := yn hi hj hb hd k
theorem us' {c : Bool} (yes : c = true → QL P n ops S K (i :: r) (upd f dj (.bool true))) (no : c = false → QL P n ops S K (i :: r) (upd f dj (.bool false))) (hi : ops[i]? = some ⟨some d,op,T,p,af,some (j,b)⟩ := by exact rfl) (hj : (ops[j]?).bind (·.dst) = some dj := by exact rfl) (hb : f dj = .bool c := by exact rfl) : QL P n ops S K (i :: r) f := QL.split hi hj hb yes no
theorem jE' {c : Operand} {x y z : Code} (h : CW P n z Q f C) (hb : selC (f.ev c) x y = some z := by exact rfl) : CW P n (.cond c x y) Q f C := jE hb h
theorem jp' {id j : Nat} (h : At Q (.exit j) f C) (hj : Nat.beq j id = false := by exact rfl) : At (blk id Q) (.exit j) f C := jp hj h
theorem kg' {dst : Option Tmp} (k : LR m P n ops (⟨dst,op,T,p,af,none⟩ :: rest) Q f C) (hj : (ops[j]?).bind (·.dst) = some dj := by exact rfl) (hb : f dj = .bool b := by exact rfl) : LR m P n ops (⟨dst,op,T,p,af,some (j,b)⟩ :: rest) Q f C := kg hj hb k
theorem kG' (k : LR m P n ops rest Q (upd f d undef) C) (hj : (ops[j]?).bind (·.dst) = some dj := by exact rfl) (hb : noV (f dj) b = true := by exact rfl) (hd : Nat.blt d n = true := by exact rfl) : LR m P n ops (⟨some d,op,T,p,af,some (j,b)⟩ :: rest) Q f C := kG hj hb hd k
theorem kR' {op' : Op} {dst : Option Tmp} {c : Bool} (yes : c = true → LR m P n ops (⟨dst,op',T,p,af,some (j,b)⟩ :: rest) Q (upd f dj (.bool true)) C)
  (no : c = false → LR m P n ops (⟨dst,op',T,p,af,some (j,b)⟩ :: rest) Q (upd f dj (.bool false)) C) (hj : (ops[j]?).bind (·.dst) = some dj := by exact rfl) (hb : f dj = .bool c := by exact rfl) :
  LR m P n ops (⟨dst,op',T,p,af,some (j,b)⟩ :: rest) Q f C := kR hj hb yes no
theorem kQ' {c : Operand} {s t : Code} (ht : b = true → CW P n s Q f C) (hf : b = false → CW P n t Q f C) (hb : f.ev c = .bool b := by exact rfl) : CW P n (.cond c s t) Q f C := kQ hb ht hf
end
section
variable {m : Bool} {P : Program} {n : Nat} {ops rest : List Oper} {Q : Post} {f : Frm} {F : Nat → Prop} {w0 : World} {T T' T'' : TypeId} {p : String} {af : Array Edge} {d : Nat} {x y : Operand} {L L' : List Asrt}
theorem kB' {cs : List Value} (k : ∀ b,LR false P n ops rest Q (upd f d (.pointer (some ⟨b,0,none⟩))) (St w0 F (.own b (.cells cs.toArray T (0,0)) :: L))) (hv : cellV (f.ev x) = some cs := by exact rfl) (hd : Nat.blt d n = true := by exact rfl) :
  LR false P n ops (⟨some d,.box T x,T',p,af,none⟩ :: rest) Q f (St w0 F L) := kB hv hd k
theorem kA' {cs : List Value} [h : ZeroOf P T cs] (k : ∀ b,LR false P n ops rest Q (upd f d (.pointer (some ⟨b,0,none⟩))) (St w0 F (.own b (.cells cs.toArray T (0,0)) :: L))) (hd : Nat.blt d n = true := by exact rfl) :
  LR false P n ops (⟨some d,.alloc T,T',p,af,none⟩ :: rest) Q f (St w0 F L) := kA hd k
theorem kK' {E : TypeId} {sz by_ len : Nat} [h : SliceOf P T E sz by_] {parts : List (Nat × Operand)} {cs : List Value} (k : ∀ b,LR false P n ops rest Q (upd f d (.slice (some ⟨b,0,none⟩) len len)) (St w0 F (.own b (.cells cs.toArray E (0,0)) :: L)))
  (hd : Nat.blt d n = true := by exact rfl) (hlen : Nat.ble (len * sz) 100000 = true := by exact rfl) (hp : parts.map (·.1) = List.range len := by exact rfl) (hb : bsN f sz parts = some cs := by exact rfl) :
  LR false P n ops (⟨some d,.buildSlice T len parts.toArray,T',p,af,none⟩ :: rest) Q f (St w0 F L) := kK hd hlen hp hb k
theorem kU' {b o q : Nat} {cs vs cs' : List Value} {E : TypeId} [h : Sz P T q] (k : LR false P n ops rest Q f (St w0 F L')) (hx : f.ev x = .pointer (some ⟨b,o,none⟩) := by exact rfl) (hv : cellV (f.ev y) = some vs := by exact rfl)
  (hs : Sel L (.own b (.cells cs.toArray E (0,0))) (.own b (.cells cs'.toArray E (0,0))) L' := by (repeat (first | exact sH _ _ _ | apply sT));done)
  (hn : splice cs o vs = cs' := by first | exact nfL_eq rfl | exact rfl) (h1 : (vs.all Value.oneCell' && Nat.beq vs.length q && Nat.ble (o + vs.length) cs.length) = true := by exact rfl) :
  LR false P n ops (⟨none,.store T x y,T',p,af,none⟩ :: rest) Q f (St w0 F L) := kU hx hv hs hn h1 k
end
theorem memZ {a : Asrt} {L : List Asrt} (h : a ∈ L := by (repeat (first | exact mH _ _ | apply mT))) : a ∈ L := h
theorem selZ {L L' : List Asrt} {a a' : Asrt} (h : Sel L a a' L' := by (repeat (first | exact sH _ _ _ | apply sT))) : Sel L a a' L' := h
end Go.Hb
