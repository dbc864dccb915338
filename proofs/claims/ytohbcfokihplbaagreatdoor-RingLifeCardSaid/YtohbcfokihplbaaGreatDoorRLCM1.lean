/-
  Regions that draw their order: what only reads may be taken first; what makes or turns memory comes up alone. Conditions: none; nothing here speaks of one program.
-/
import Derived.WalkKit
import Derived.ProofKit
import Derived.BigQuiet
import Derived.Deep.QuietTactic
import Derived.Scope
import Derived.OrdersHeld
set_option linter.unusedSimpArgs false
set_option linter.unusedVariables false
namespace Go.Hb
abbrev Frm := Nat → Value
def upd (f : Frm) (d : Nat) (v : Value) : Frm := fun t=>bif Nat.beq t d then v else f t
def Frm.ev (f : Frm) : Operand → Value
 | .tmp t=>f t
 | .const v=>v
 | .global g=>.pointer (some ⟨g,0,none⟩)
 | .func g=>.func (.func g) #[] #[]
theorem upd_same (f : Frm) (d : Nat) (v : Value) : upd f d v d = v := by
 simp only [upd,show Nat.beq d d = true from Nat.beq_refl d,cond_true]
theorem upd_ne (f : Frm) (d t : Nat) (v : Value) (h : t ≠ d) : upd f d v t = f t := by
 have hb : Nat.beq t d = false := by
  cases hx : Nat.beq t d with
  | false=>rfl
  | true=>exact (h (Nat.eq_of_beq_eq_true hx)).elim
 simp only [upd,hb,cond_false]
def Fits (n : Nat) (a : Act) (f : Frm) : Prop := a.defers = [] ∧ a.tmps.size = n ∧ ∀ t,a.tmps.getD t undef = f t
theorem Fits.eval {n : Nat} {a : Act} {f : Frm} (h : Fits n a f) : a.eval = f.ev := by
 funext x
 cases x with
 | tmp t=>exact h.2.2 t
 | const v=>rfl
 | global g=>rfl
 | func g=>rfl
theorem Fits.put {n : Nat} {a : Act} {f : Frm} {d : Nat} (v : Value) (h : Fits n a f) (hd : Nat.blt d n = true) : Fits n (a.put (some d) v) (upd f d v) := by
 obtain ⟨h1,h2,h3⟩ := h
 have hd' : d < a.tmps.size := by rw [h2];exact Nat.le_of_ble_eq_true hd
 refine ⟨h1,by simp [Act.put,h2],fun t=>?_⟩
 have h3t := h3 t
 by_cases htd : t = d
 ·subst htd
  rw [upd_same]
  simp [Act.put,Array.getD_eq_getD_getElem?,hd']
 ·rw [upd_ne _ _ _ _ htd,← h3t]
  simp only [Act.put,Array.getD_eq_getD_getElem?]
  rw [Array.getElem?_setIfInBounds_ne (by omega)]
theorem Fits.put_none {n : Nat} {a : Act} {f : Frm} (v : Value) (h : Fits n a f) : Fits n (a.put none v) f := h
abbrev Post := Exit → Frm → World → Prop
def lift (n : Nat) (Q : Post) : Exit → Act → World → Prop := fun e a w=>∃ f,Fits n a f ∧ Q e f w
def LW (P : Program) (n : Nat) (ops : List Oper) (l : List Oper) (Q : Post) (f : Frm) (C : World → Prop) : Prop :=
 ∀ w,C w → ∀ a,Fits n a f → wpList P ops.toArray (lift n Q) l a w
def CW (P : Program) (n : Nat) (c : Code) (Q : Post) (f : Frm) (C : World → Prop) : Prop :=
 ∀ w,C w → ∀ a,Fits n a f → c.wp P (lift n Q) a w
def At (Q : Post) (e : Exit) (f : Frm) (C : World → Prop) : Prop := ∀ w,C w → Q e f w
def thn (P : Program) (n : Nat) (y : Code) (Q : Post) : Post
 | .normal,f,w=>CW P n y Q f (fun w'=>w' = w)
 | e,f,w=>Q e f w
def blk (id : Nat) (Q : Post) : Post
 | .exit j,f,w=>bif Nat.beq j id then Q .normal f w else Q (.exit j) f w
 | e,f,w=>Q e f w
section
variable {P : Program} {n : Nat} {Q : Post} {f : Frm} {C : World → Prop}
theorem CW.at {c : Code} (h : CW P n c Q f C) {w : World} (hw : C w) : CW P n c Q f (fun w'=>w' = w) := fun _ e=>e ▸ h w hw
theorem CW.sub {c : Code} {D : World → Prop} (h : CW P n c Q f D) (hs : ∀ w,C w → D w) : CW P n c Q f C := fun w hw=>h w (hs w hw)
theorem LW.sub {ops l : List Oper} {D : World → Prop} (h : LW P n ops l Q f D) (hs : ∀ w,C w → D w) : LW P n ops l Q f C := fun w hw=>h w (hs w hw)
theorem CW.seq {x y : Code} (h : CW P n x (thn P n y Q) f C) : CW P n (.seq x y) Q f C := by
 intro w hw a ha
 refine wp_seq (Code.wp_mono (fun e a' w' hq=>?_) (h w hw a ha))
 obtain ⟨f',hf',hq⟩ := hq
 cases e with
 | normal=>exact hq w' rfl a' hf'
 | exit id=>exact ⟨f',hf',hq⟩
 | goto l=>exact ⟨f',hf',hq⟩
 | ret=>exact ⟨f',hf',hq⟩
 | panic ch=>exact ⟨f',hf',hq⟩
 | outgrown=>exact ⟨f',hf',hq⟩
theorem At.thn {y : Code} (h : CW P n y Q f C) : At (Hb.thn P n y Q) .normal f C := fun _ hw=>h.at hw
theorem At.blk_here {id : Nat} (h : At Q .normal f C) : At (Hb.blk id Q) (.exit id) f C := fun w hw=>by
 have := h w hw
 simpa only [Hb.blk,show Nat.beq id id = true from Nat.beq_refl id,cond_true] using this
theorem At.blk_other {id j : Nat} (hj : Nat.beq j id = false) (h : At Q (.exit j) f C) : At (Hb.blk id Q) (.exit j) f C := fun w hw=>by
 have := h w hw
 simpa only [Hb.blk,hj,cond_false] using this
theorem CW.skip (h : At Q .normal f C) : CW P n .skip Q f C := fun w hw _ ha=>wp_skip ⟨f,ha,h w hw⟩
theorem CW.ret (h : At Q .ret f C) : CW P n .ret Q f C := fun w hw _ ha=>wp_ret ⟨f,ha,h w hw⟩
theorem CW.exit {id : Nat} (h : At Q (.exit id) f C) : CW P n (.exit id) Q f C := fun w hw _ ha=>wp_exit ⟨f,ha,h w hw⟩
theorem CW.block {id : Nat} {c : Code} (h : CW P n c (blk id Q) f C) : CW P n (.block id c) Q f C := by
 intro w hw a ha
 refine wp_block (Code.wp_mono (fun e a' w' hq=>?_) (h w hw a ha))
 obtain ⟨f',hf',hq⟩ := hq
 cases e with
 | normal=>exact ⟨f',hf',hq⟩
 | exit j=>
  simp only [Hb.blk] at hq
  simp only [Exit.inBlock]
  by_cases hj : j = id
  ·subst hj
   simp only [show Nat.beq j j = true from Nat.beq_refl j,cond_true] at hq
   rw [if_pos rfl];exact ⟨f',hf',hq⟩
  ·have hb : Nat.beq j id = false := by
    cases hx : Nat.beq j id with
    | false=>rfl
    | true=>exact (hj (Nat.eq_of_beq_eq_true hx)).elim
   simp only [hb,cond_false] at hq
   rw [if_neg hj];exact ⟨f',hf',hq⟩
 | goto l=>exact ⟨f',hf',hq⟩
 | ret=>exact ⟨f',hf',hq⟩
 | panic ch=>exact ⟨f',hf',hq⟩
 | outgrown=>exact ⟨f',hf',hq⟩
theorem CW.cond {c : Operand} {x y : Code} {b : Bool} (hb : f.ev c = .bool b) (ht : b = true → CW P n x Q f C) (hf : b = false → CW P n y Q f C) : CW P n (.cond c x y) Q f C := by
 intro w hw a ha
 have he : a.eval c = .bool b := by rw [ha.eval];exact hb
 exact wp_cond_split he (fun h=>ht h w hw a ha) (fun h=>hf h w hw a ha)
theorem CW.cond_true {c : Operand} {x y : Code} (hb : f.ev c = .bool true) (ht : CW P n x Q f C) : CW P n (.cond c x y) Q f C :=
 CW.cond hb (fun _=>ht) (fun h=>by cases h)
theorem CW.cond_false {c : Operand} {x y : Code} (hb : f.ev c = .bool false) (hf : CW P n y Q f C) : CW P n (.cond c x y) Q f C :=
 CW.cond hb (fun h=>by cases h) (fun _=>hf)
theorem CW.region {id : Nat} {l : List Oper} (h : LW P n l l Q f C) : CW P n (.region id l.toArray false) Q f C :=
 fun w hw a ha=>wp_region_lit (h w hw a ha)
def mix (M : List Nat) (g f : Frm) : Frm := fun t=>bif M.contains t then g t else f t
def Has (f : Frm) : List (Nat × Value) → Prop
 | []=>True
 | p :: r=>f p.1 = p.2 ∧ Has f r
def updL (f : Frm) : List (Nat × Value) → Frm
 | []=>f
 | p :: r=>upd (updL f r) p.1 p.2
def Out (M : List Nat) (f g : Frm) : Prop := ∀ t,M.contains t = false → g t = f t
theorem Out.refl (M : List Nat) (f : Frm) : Out M f f := fun _ _=>rfl
theorem Out.upd {M : List Nat} {f g : Frm} {d : Nat} {v : Value} (hd : M.contains d = true) (h : Out M f g) : Out M f (upd g d v) := by
 intro t ht
 rw [upd_ne]
 ·exact h t ht
 ·intro e;subst e;rw [hd] at ht;cases ht
theorem Out.mix {M : List Nat} {f g : Frm} : Out M f (mix M g f) := by
 intro t ht;simp only [Hb.mix,ht,cond_false]
theorem Out.updL {M : List Nat} {f g : Frm} : ∀ {vs : List (Nat × Value)},(vs.all fun p=>M.contains p.1) = true → Out M f g → Out M f (updL g vs)
 | [],_,h=>h
 | p :: r,hv,h=>by
  simp only [List.all_cons,Bool.and_eq_true] at hv
  exact Out.upd hv.1 (Out.updL hv.2 h)
theorem updL_has {f g : Frm} : ∀ {vs : List (Nat × Value)},Has f vs → (∀ t,(vs.any fun p=>Nat.beq t p.1) = false → g t = f t) → updL g vs = f := by
 intro vs
 induction vs generalizing g with
 | nil=>intro _ h;funext t;exact h t rfl
 | cons p r ih=>
  intro hh hg
  funext t
  simp only [updL]
  by_cases hp : t = p.1
  ·subst hp;rw [upd_same];exact hh.1.symm
  ·rw [upd_ne _ _ _ _ hp]
   have hb : Nat.beq t p.1 = false := by
    cases hx : Nat.beq t p.1 with
    | false=>rfl
    | true=>exact (hp (Nat.eq_of_beq_eq_true hx)).elim
      -- g may part from f at p.1 alone
   have : updL (upd g p.1 (f p.1)) r = f := ih hh.2 (fun s hs=>by
    by_cases hsp : s = p.1
    ·subst hsp;rw [upd_same]
    ·rw [upd_ne _ _ _ _ hsp]
     refine hg s ?_
     have hb' : Nat.beq s p.1 = false := by
      cases hx : Nat.beq s p.1 with
      | false=>rfl
      | true=>exact (hsp (Nat.eq_of_beq_eq_true hx)).elim
     simp [List.any_cons,hb',hs])
   have h2 : ∀ (r : List (Nat × Value)) (g h : Frm),(∀ s,s ≠ p.1 → g s = h s) → ∀ s,s ≠ p.1 → updL g r s = updL h r s := by
    intro r
    induction r with
    | nil=>intro g h e;exact e
    | cons q r ih2=>
     intro g h e s hs
     simp only [updL]
     by_cases hq : s = q.1
     ·subst hq;rw [upd_same,upd_same]
     ·rw [upd_ne _ _ _ _ hq,upd_ne _ _ _ _ hq];exact ih2 g h e s hs
   rw [h2 r g (upd g p.1 (f p.1)) (fun s hs=>(upd_ne _ _ _ _ hs).symm) t hp,this]
theorem frame_form {M : List Nat} {f g : Frm} {vs : List (Nat × Value)} (ho : Out M f g) (hh : Has g vs) : g = updL (mix M g f) vs := by
 refine (updL_has hh (fun t _=>?_)).symm
 simp only [mix]
 cases hc : M.contains t with
 | true=>rfl
 | false=>exact (ho t hc).symm
def again {α : Type} (M : List Nat) (f : Frm) (I : α → Prop) (vs : α → List (Nat × Value)) (D : α → World → Prop) (μ : α → Nat) (i : α) (Q : Post) : Post
 | .normal,g,w=>∃ j,I j ∧ Out M f g ∧ Has g (vs j) ∧ D j w ∧ μ j < μ i
 | e,g,w=>Q e g w
theorem CW.loop {α : Type} (M : List Nat) (I : α → Prop) (vs : α → List (Nat × Value)) (D : α → World → Prop) (μ : α → Nat) {c : Code}
  (start : ∀ w,C w → ∃ i,I i ∧ Has f (vs i) ∧ D i w)
  (round : ∀ i g,I i → CW P n c (again M f I vs D μ i Q) (updL (mix M g f) (vs i)) (D i)) : CW P n (.loop c) Q f C := by
 intro w hw a ha b k cs
 obtain ⟨i0,hI0,hv0,hD0⟩ := start w hw
 have key : ∀ m i g a' w',I i → μ i = m → Fits n a' g → Out M f g → Has g (vs i) → D i w' →
   ∃ e a₂ w₂,lift n Q e a₂ w₂ ∧ Arrives P (lone (b.at a' (.code c :: .inLoop c :: k)) cs w') b k cs e a₂ w₂ := by
  intro m
  induction m using Nat.strongRecOn with
  | _ m ih=>
   intro i g a' w' hI hm hfit ho hh hD
   obtain ⟨e,a₁,w₁,⟨g₁,hfit₁,hq⟩,harr⟩ := round i g hI w' hD a' (by rw [← frame_form ho hh];exact hfit) b (.inLoop c :: k) cs
   cases e with
   | normal=>
    obtain ⟨j,hI₁,ho₁,hh₁,hD₁,hlt⟩ := hq
    obtain ⟨e₂,a₂,w₂,hq₂,harr₂⟩ := ih (μ j) (hm ▸ hlt) j g₁ a₁ w₁ hI₁ rfl hfit₁ ho₁ hh₁ hD₁
    exact ⟨e₂,a₂,w₂,hq₂,.of_steps (Steps.trans harr (.one step_inLoop)) harr₂⟩
   | exit id=>exact ⟨_,a₁,w₁,⟨g₁,hfit₁,hq⟩,.pass (x := .inLoop c) rfl (fun _ _=>.inl (by simp)) harr⟩
   | goto l=>exact ⟨_,a₁,w₁,⟨g₁,hfit₁,hq⟩,.pass (x := .inLoop c) rfl (fun _ _=>.inl (by simp)) harr⟩
   | ret=>exact ⟨_,a₁,w₁,⟨g₁,hfit₁,hq⟩,.pass (x := .inLoop c) rfl (fun _ _=>.inl (by simp)) harr⟩
   | panic ch=>exact ⟨_,a₁,w₁,⟨g₁,hfit₁,hq⟩,.pass (x := .inLoop c) rfl (fun _ _=>.inl (by simp)) harr⟩
   | outgrown=>exact ⟨_,a₁,w₁,⟨g₁,hfit₁,hq⟩,.pass (x := .inLoop c) rfl (fun _ _=>.inl (by simp)) harr⟩
 obtain ⟨e,a',w',hq,harr⟩ := key (μ i0) i0 f a w hI0 rfl ha (Out.refl M f) hv0 hD0
 exact ⟨e,a',w',hq,.of_steps (.one step_loop) harr⟩
end
def Ev (P : Program) (C : World → Prop) (f : Frm) (op : Op) (T : TypeId) (v : Value) : Prop :=
 ∀ w,C w → ∀ (d : Option Tmp) (p : String) (af : Array Edge) (g : Option (Nat × Bool)),(execOp f.ev ⟨d,op,T,p,af,g⟩).run P w = .ok (.value v) w
def LR (m : Bool) (P : Program) (n : Nat) (ops l : List Oper) (Q : Post) (f : Frm) (C : World → Prop) : Prop :=
 match m with
 | false=>LW P n ops l Q f C
 | true=>∀ a,Fits n a f → wpQuiet P ops.toArray C (fun a'=>∀ w',C w' → lift n Q .normal a' w') l a
theorem yielded_of {n : Nat} {a : Act} {f : Frm} (h : Fits n a f) {ops : List Oper} {j dj : Nat} (hj : (ops[j]?).bind (·.dst) = some dj) :
  yielded ops.toArray a.tmps j = (match f dj with | .bool b=>some b | _=>none) := by
 unfold yielded
 rw [List.getElem?_toArray,hj]
 simp only [Option.bind_some]
 have := h.2.2 dj
 rw [Array.getD_eq_getD_getElem?] at this
 cases hx : a.tmps[dj]? with
 | none=>rw [hx] at this;simp only [Option.getD_none] at this;rw [← this];rfl
 | some v=>rw [hx] at this;simp only [Option.getD_some] at this;rw [← this];cases v <;> rfl
section
variable {m : Bool} {P : Program} {n : Nat} {ops rest : List Oper} {Q : Post} {f : Frm} {C : World → Prop} {op : Op} {T : TypeId} {p : String} {af : Array Edge} {d : Nat} {v : Value}
theorem LR.nil (h : At Q .normal f C) : LR m P n ops [] Q f C := by
 cases m with
 | false=>exact fun w hw a ha=>wpList_nil ⟨f,ha,h w hw⟩
 | true=>exact fun a ha=>wpQuiet_nil (fun w hw=>⟨f,ha,h w hw⟩)
theorem LR.nil_thn {y : Code} (h : CW P n y Q f C) : LR m P n ops [] (thn P n y Q) f C := LR.nil (At.thn h)
theorem LR.ev (he : Ev P C f op T v) (hd : Nat.blt d n = true) (k : LR m P n ops rest Q (upd f d v) C) : LR m P n ops (⟨some d,op,T,p,af,none⟩ :: rest) Q f C := by
 cases m with
 | false=>
  intro w hw a ha
  refine wpList_plain rfl fun K hK=>?_
  have hr := he w hw (some d) p af none
  rw [← ha.eval] at hr
  simp only [Oper.wp,hr,Oper.upon_value]
  exact hK _ _ (k w hw _ (ha.put v hd))
 | true=>
  intro a ha
  refine wpQuiet_step fun K hK=>?_
  simp only [Region.wanted,if_true]
  refine ⟨v,fun w hw=>?_,hK _ (k _ (ha.put v hd))⟩
  have hr := he w hw (some d) p af none
  rw [← ha.eval] at hr
  simp only [Oper.quietAt,hr,Oper.quietUpon]
  exact ⟨trivial,trivial⟩
theorem LR.guard_yes {dst : Option Tmp} {j dj : Nat} {b : Bool} (hj : (ops[j]?).bind (·.dst) = some dj) (hb : f dj = .bool b)
  (k : LR m P n ops (⟨dst,op,T,p,af,none⟩ :: rest) Q f C) : LR m P n ops (⟨dst,op,T,p,af,some (j,b)⟩ :: rest) Q f C := by
 have hw : ∀ a,Fits n a f → Region.wanted (⟨dst,op,T,p,af,some (j,b)⟩ : Oper) (yielded ops.toArray a.tmps) = true := by
  intro a ha
  simp only [Region.wanted]
  rw [yielded_of ha hj,hb]
  simp
 cases m with
 | false=>
  intro w hC a ha
  have := k w hC a ha
  simp only [wpList] at this ⊢
  rw [if_pos (by simp [Region.wanted])] at this
  rw [if_pos (hw a ha)]
  exact this
 | true=>
  intro a ha
  have := k a ha
  simp only [wpQuiet] at this ⊢
  rw [if_pos (by simp [Region.wanted])] at this
  rw [if_pos (hw a ha)]
  exact this
theorem LR.skip_of {j dj : Nat} {b : Bool} (hj : (ops[j]?).bind (·.dst) = some dj) (hb : (match f dj with | .bool b=>some b | _=>none) ≠ some b) (hd : Nat.blt d n = true)
  (k : LR m P n ops rest Q (upd f d undef) C) : LR m P n ops (⟨some d,op,T,p,af,some (j,b)⟩ :: rest) Q f C := by
 have hw : ∀ a,Fits n a f → ¬ Region.wanted (⟨some d,op,T,p,af,some (j,b)⟩ : Oper) (yielded ops.toArray a.tmps) = true := by
  intro a ha
  simp only [Region.wanted]
  rw [yielded_of ha hj]
  simpa using hb
 cases m with
 | false=>
  intro w hC a ha
  simp only [wpList]
  rw [if_neg (hw a ha)]
  exact k w hC _ (ha.put undef hd)
 | true=>
  intro a ha
  simp only [wpQuiet]
  rw [if_neg (hw a ha)]
  exact k _ (ha.put undef hd)
theorem upd_self {f : Frm} {d : Nat} {v : Value} (h : f d = v) : upd f d v = f := by
 funext t
 by_cases ht : t = d
 ·subst ht;rw [upd_same,h]
 ·rw [upd_ne _ _ _ _ ht]
theorem LR.guard_split {op' : Op} {dst : Option Tmp} {j dj : Nat} {b c : Bool} (_hj : (ops[j]?).bind (·.dst) = some dj) (hb : f dj = .bool c)
  (yes : c = true → LR m P n ops (⟨dst,op',T,p,af,some (j,b)⟩ :: rest) Q (upd f dj (.bool true)) C)
  (no : c = false → LR m P n ops (⟨dst,op',T,p,af,some (j,b)⟩ :: rest) Q (upd f dj (.bool false)) C) :
  LR m P n ops (⟨dst,op',T,p,af,some (j,b)⟩ :: rest) Q f C := by
 cases c with
 | true=>have := yes rfl;rwa [upd_self hb] at this
 | false=>have := no rfl;rwa [upd_self hb] at this
class Own (P : Program) (g : FuncId) : Prop where
 enters : ∀ (args : Array Value) (w : World),(callFunc g args).run P w = .ok (.enter g args) w
def CallsTo (P : Program) (g : FuncId) (args : List Value) (w : World) (K : Value → World → Prop) : Prop :=
 Calls P g args.toArray w fun e w'=>∃ v,e = .returned v ∧ K v w'
theorem CallsTo.mono {g : FuncId} {args : List Value} {w : World} {K K' : Value → World → Prop} (h : CallsTo P g args w K) (hk : ∀ v w',K v w' → K' v w') : CallsTo P g args w K' :=
 Calls.mono h fun _ _ ⟨v,he,hv⟩=>⟨v,he,hk _ _ hv⟩
theorem run_call_func {g : FuncId} {xs : List Operand} {ts : Array TypeId} {dst : Option Tmp} {gd : Option (Nat × Bool)} (w : World) {x : Operand} {cap : List Value}
  (hx : f.ev x = .func (.func g) #[] cap.toArray) (own : Own P g) :
  (execOp f.ev ⟨dst,.call ⟨.value x,xs.toArray,ts⟩,T,p,af,gd⟩).run P w = .ok (.enter g (xs.map f.ev ++ cap).toArray) w := by
 have e1 : (xs.toArray.map f.ev) = (xs.map f.ev).toArray := by simp
 have e2 : (#[] ++ (xs.map f.ev).toArray : Array Value) ++ cap.toArray = (xs.map f.ev ++ cap).toArray := by simp
 simp only [execOp,resolve,hx,Deferred.ofValue,e1]
 show Sem.run P (callFunc g ((#[] ++ (xs.map f.ev).toArray : Array Value) ++ cap.toArray)) w = _
 rw [e2]
 exact own.enters _ w
theorem LR.call_val {g : FuncId} {xs : List Operand} {ts : Array TypeId} {x : Operand} {cap : List Value} (hx : f.ev x = .func (.func g) #[] cap.toArray) [own : Own P g] (hd : Nat.blt d n = true)
  (h : ∀ w,C w → CallsTo P g (xs.map f.ev ++ cap) w fun v w'=>LW P n ops rest Q (upd f d v) (fun u=>u = w')) :
  LR false P n ops (⟨some d,.call ⟨.value x,xs.toArray,ts⟩,T,p,af,none⟩ :: rest) Q f C := by
 intro w hw a ha
 refine wpList_plain rfl fun K hK=>?_
 have hr := run_call_func (T := T) (p := p) (af := af) (ts := ts) (dst := some d) (gd := none) (xs := xs) w hx own
 rw [← ha.eval] at hr
 simp only [Oper.wp,hr,Oper.upon_enter]
 rw [ha.eval]
 refine Calls.mono (h w hw) fun e w' ⟨v,he,hk⟩=>?_
 subst he
 exact hK _ _ (hk w' rfl _ (ha.put v hd))
theorem LR.qcall_val {g : FuncId} {xs : List Operand} {ts : Array TypeId} {x : Operand} {cap : List Value} (hx : f.ev x = .func (.func g) #[] cap.toArray) [own : Own P g] (hd : Nat.blt d n = true)
  (h : ∀ w,C w → CallsTo P g (xs.map f.ev ++ cap) w fun u w'=>u = v ∧ C w') (k : LR m P n ops rest Q (upd f d v) C) :
  LR m P n ops (⟨some d,.call ⟨.value x,xs.toArray,ts⟩,T,p,af,none⟩ :: rest) Q f C := by
 cases m with
 | false=>exact LR.call_val hx hd fun w hw=>(h w hw).mono fun u w' ⟨hu,hC⟩=>by subst hu;exact LW.sub k (fun _ e=>e ▸ hC)
 | true=>
  intro a ha
  refine wpQuiet_step fun K hK=>?_
  simp only [Region.wanted,if_true]
  refine ⟨v,fun w hw=>?_,hK _ (k _ (ha.put v hd))⟩
  have hr := run_call_func (T := T) (p := p) (af := af) (ts := ts) (dst := some d) (gd := none) (xs := xs) w hx own
  rw [← ha.eval] at hr
  simp only [Oper.quietAt,hr,Oper.quietUpon]
  rw [ha.eval]
  exact ⟨trivial,Calls.mono (h w hw) fun e w' ⟨u,he,hu,hC⟩=>by subst hu;exact ⟨he,hC⟩⟩
theorem LR.call {g : FuncId} {xs : List Operand} {ts : Array TypeId} [own : Own P g] (hd : Nat.blt d n = true)
  (h : ∀ w,C w → CallsTo P g (xs.map f.ev) w fun v w'=>LW P n ops rest Q (upd f d v) (fun u=>u = w')) :
  LR false P n ops (⟨some d,.call ⟨.value (.func g),xs.toArray,ts⟩,T,p,af,none⟩ :: rest) Q f C :=
 LR.call_val (cap := []) rfl hd (by simpa using h)
theorem LR.qcall {g : FuncId} {xs : List Operand} {ts : Array TypeId} [own : Own P g] (hd : Nat.blt d n = true)
  (h : ∀ w,C w → CallsTo P g (xs.map f.ev) w fun u w'=>u = v ∧ C w') (k : LR m P n ops rest Q (upd f d v) C) :
  LR m P n ops (⟨some d,.call ⟨.value (.func g),xs.toArray,ts⟩,T,p,af,none⟩ :: rest) Q f C :=
 LR.qcall_val (cap := []) rfl hd (by simpa using h) k
theorem CW.reg {id : Nat} {l : List Oper} (h : LR false P n l l Q f C) : CW P n (.region id l.toArray false) Q f C := CW.region h
class Mixed (P : Program) : Prop where
 mixed : P.follows .mixedOrders = true
class Drawn (C : World → Prop) : Prop where
 drew : ∀ w,C w → C { w with drawn := w.drawn + 1 }
theorem CW.reg_draw {id : Nat} {l : List Oper} [hm : Mixed P] [hc : Drawn C] (hB : Region.lexB .any l.toArray = true) (h : LR true P n l l Q f C) : CW P n (.region id l.toArray true) Q f C := by
 intro w hw a ha
 refine wp_region_quiet (C := C) hm.mixed hB (hc.drew w hw) ?_
 exact h a ha
def start (args : List Value) : Frm := fun t=>args.getD t undef
def fin (P : Program) (fn : Func) (n : Nat) (R : Ending → World → Prop) : Post := fun e f w=>∀ a,Fits n a f → bodyPost P fn R e a w
theorem enter {g : FuncId} {fn : Func} {c : Code} {args : List Value} {R : Ending → World → Prop} {w : World} (hf : P.funcs[g]? = some fn) (hb : fn.body = some c)
  (hn : n = args.length + (fn.ntmps - args.length)) (h : CW P n c (fin P fn n R) (start args) (fun u=>u = w)) : Calls P g args.toArray w R := by
 refine calls_of_wp hf hb ?_
 refine Code.wp_mono (fun e a w' hq=>?_) (h w rfl _ ⟨rfl,by simp [hn],fun t=>?_⟩)
 ·obtain ⟨f',hf',hq⟩ := hq
  exact hq a hf'
 ·simp only [start,Array.getD_eq_getD_getElem?,List.getD_eq_getElem?_getD]
  by_cases ht : t < args.length
  ·rw [Array.getElem?_append_left (by simpa using ht)];simp
  ·rw [Array.getElem?_append_right (by simpa using ht)]
   rw [List.getElem?_eq_none (by omega)]
   simp only [Option.getD_none,Array.getElem?_replicate]
   split <;> rfl
theorem fin_ret1 {fn : Func} {R : Ending → World → Prop} {t : Tmp} (hr : fn.results = #[.tmp t]) (h : ∀ w,C w → R (.returned (f t)) w) : At (fin P fn n R) .ret f C := by
 intro w hw a ha
 refine bodyPost_ret (results_tmp hr _ _ _) ha.1 ?_
 rw [ha.2.2];exact h w hw
theorem fin_ret2 {fn : Func} {R : Ending → World → Prop} {t u : Tmp} (hr : fn.results = #[.tmp t,.tmp u]) (h : ∀ w,C w → R (.returned (.tuple #[f t,f u])) w) : At (fin P fn n R) .ret f C := by
 intro w hw a ha
 refine bodyPost_ret (results_tmp2 hr _ _ _) ha.1 ?_
 rw [ha.2.2,ha.2.2];exact h w hw
theorem results_tmp3' {fn : Func} {t u s : Tmp} (h : fn.results = #[.tmp t,.tmp u,.tmp s]) (tmps : Array Value) (P : Program) (w : World) :
  (results fn tmps).run P w = .ok (.tuple #[tmps.getD t undef,tmps.getD u undef,tmps.getD s undef]) w := by
 simp [results,h]
theorem fin_ret3 {fn : Func} {R : Ending → World → Prop} {t u s : Tmp} (hr : fn.results = #[.tmp t,.tmp u,.tmp s]) (h : ∀ w,C w → R (.returned (.tuple #[f t,f u,f s])) w) : At (fin P fn n R) .ret f C := by
 intro w hw a ha
 refine bodyPost_ret (results_tmp3' hr _ _ _) ha.1 ?_
 rw [ha.2.2,ha.2.2,ha.2.2];exact h w hw
theorem fin_end0 {fn : Func} {R : Ending → World → Prop} (hr : fn.results = #[]) (h : ∀ w,C w → R (.returned (.tuple #[])) w) : At (fin P fn n R) .normal f C := by
 intro w hw a ha
 exact bodyPost_end (results_none hr _ _ _) ha.1 (h w hw)
theorem fin_ret0 {fn : Func} {R : Ending → World → Prop} (hr : fn.results = #[]) (h : ∀ w,C w → R (.returned (.tuple #[])) w) : At (fin P fn n R) .ret f C := by
 intro w hw a ha
 exact bodyPost_ret (results_none hr _ _ _) ha.1 (h w hw)
end
inductive Asrt
 | own (b : Nat) (o : Obj)
 | ex (B : Nat → Prop) (φ : World → Prop)
 | rd (B : Nat → Prop) (φ : World → Prop)
def Asrt.foot : Asrt → Nat → Prop
 | .own b _=>fun k=>k = b
 | .ex B _=>B
 | .rd B _=>B
def Asrt.holds : Asrt → World → Prop
 | .own b o=>fun w=>w.heap[b]? = some o
 | .ex _ φ=>φ
 | .rd _ φ=>φ
def Asrt.excl : Asrt → Bool
 | .rd _ _=>false
 | _=>true
def Asrt.dep (a : Asrt) : Prop := ∀ w w' : World,(∀ k,a.foot k → w'.heap[k]? = w.heap[k]?) → a.holds w → a.holds w'
theorem Asrt.dep_own (b : Nat) (o : Obj) : (Asrt.own b o).dep := fun w w' hk h=>by
 have := hk b rfl
 show w'.heap[b]? = some o
 rw [this];exact h
def NoF : Nat → Prop := fun _=>False
structure St (w0 : World) (F : Nat → Prop) (L : List Asrt) (w : World) : Prop where
 os : w.os = w0.os
 tape : w.tape = w0.tape
 output : w.output = w0.output
 size : w0.heap.size ≤ w.heap.size
 keep : ∀ k,k < w0.heap.size → ¬ F k → w.heap[k]? = w0.heap[k]?
 holds : ∀ a ∈ L,a.holds w
 live : ∀ a ∈ L,∀ k,a.foot k → k < w.heap.size
 mine : ∀ a ∈ L,a.excl = true → ∀ k,a.foot k → k < w0.heap.size → F k
 dis : L.Pairwise fun a b=>(a.excl || b.excl) = true → ∀ k,a.foot k → ¬ b.foot k
 dep : ∀ a ∈ L,a.dep
abbrev Keep (F : Nat → Prop) (w w' : World) : Prop := St w F [] w'
abbrev Grew (w w' : World) : Prop := St w NoF [] w'
theorem St.refl (w : World) (F : Nat → Prop) : St w F [] w :=
 ⟨rfl,rfl,rfl,Nat.le_refl _,fun _ _ _=>rfl,fun _ h=>(by cases h),fun _ h=>(by cases h),fun _ h=>(by cases h),List.Pairwise.nil,fun _ h=>(by cases h)⟩
instance (w0 : World) (F : Nat → Prop) (L : List Asrt) : Drawn (St w0 F L) where
 drew := fun w h=>⟨h.os,h.tape,h.output,h.size,h.keep,fun a ha=>h.dep a ha w _ (fun _ _=>rfl) (h.holds a ha),h.live,h.mine,h.dis,h.dep⟩
section
variable {w0 w w' : World} {F : Nat → Prop} {L L' : List Asrt}
theorem St.toKeep (h : St w0 F L w) : Keep F w0 w := ⟨h.os,h.tape,h.output,h.size,h.keep,fun _ h=>(by cases h),fun _ h=>(by cases h),fun _ h=>(by cases h),List.Pairwise.nil,fun _ h=>(by cases h)⟩
theorem St.sub (h : St w0 F L w) (hs : L'.Sublist L) : St w0 F L' w :=
 ⟨h.os,h.tape,h.output,h.size,h.keep,fun a ha=>h.holds a (hs.subset ha),fun a ha=>h.live a (hs.subset ha),fun a ha=>h.mine a (hs.subset ha),h.dis.sublist hs,fun a ha=>h.dep a (hs.subset ha)⟩
theorem St.grew (h : St w0 F L w) (hk : Grew w w') : St w0 F L w' := by
 have hs : ∀ k,k < w.heap.size → w'.heap[k]? = w.heap[k]? := fun k hk'=>hk.keep k hk' (fun x=>x)
 refine ⟨hk.os.trans h.os,hk.tape.trans h.tape,hk.output.trans h.output,Nat.le_trans h.size hk.size,fun k hk' hF=>?_,fun a ha=>?_,fun a ha k hf=>Nat.lt_of_lt_of_le (h.live a ha k hf) hk.size,h.mine,h.dis,h.dep⟩
 ·rw [hs k (Nat.lt_of_lt_of_le hk' h.size)];exact h.keep k hk' hF
 ·exact h.dep a ha w w' (fun k hf=>hs k (h.live a ha k hf)) (h.holds a ha)
theorem St.push (h : St w0 F L w) (hk : Grew w w') {a : Asrt} (ha : a.holds w') (hf : ∀ k,a.foot k → w.heap.size ≤ k ∧ k < w'.heap.size) (hd : a.dep) : St w0 F (a :: L) w' := by
 have h' := h.grew hk
 refine ⟨h'.os,h'.tape,h'.output,h'.size,h'.keep,?_,?_,?_,?_,?_⟩
 ·intro b hb;rcases List.mem_cons.1 hb with rfl | hb
  ·exact ha
  ·exact h'.holds b hb
 ·intro b hb;rcases List.mem_cons.1 hb with rfl | hb
  ·exact fun k hk=>(hf k hk).2
  ·exact h'.live b hb
 ·intro b hb;rcases List.mem_cons.1 hb with rfl | hb
  ·intro _ k hk' hlt;have := (hf k hk').1;have := h.size;omega
  ·exact h'.mine b hb
 ·refine List.pairwise_cons.2 ⟨fun b hb _ k hk1 hk2=>?_,h'.dis⟩
  have := (hf k hk1).1;have := h.live b hb k hk2;omega
 ·intro b hb;rcases List.mem_cons.1 hb with rfl | hb
  ·exact hd
  ·exact h'.dep b hb
theorem Grew.refl (w : World) : Grew w w := St.refl w NoF
theorem Grew.alloc (w : World) (o : Obj) : Grew w { w with heap := w.heap.push o } := by
 refine ⟨rfl,rfl,rfl,by simp,fun k hk _=>?_,fun _ h=>(by cases h),fun _ h=>(by cases h),fun _ h=>(by cases h),List.Pairwise.nil,fun _ h=>(by cases h)⟩
 show (w.heap.push o)[k]? = _
 rw [Array.getElem?_push,if_neg (by omega)]
theorem St.alloc (h : St w0 F L w) (o : Obj) : St w0 F (.own w.heap.size o :: L) { w with heap := w.heap.push o } := by
 refine h.push (Grew.alloc w o) ?_ ?_ (Asrt.dep_own _ _)
 ·show (w.heap.push o)[w.heap.size]? = some o
  simp
 ·intro k hk
  have hk' : k = w.heap.size := hk
  subst hk'
  simp
inductive Sel : List Asrt → Asrt → Asrt → List Asrt → Prop
 | head (a a' : Asrt) (L : List Asrt) : Sel (a :: L) a a' (a' :: L)
 | tail {L L' : List Asrt} {a a' : Asrt} (x : Asrt) (h : Sel L a a' L') : Sel (x :: L) a a' (x :: L')
theorem Sel.mem {a a' : Asrt} (h : Sel L a a' L') : a ∈ L := by
 induction h with
 | head a a' L=>exact List.mem_cons_self
 | tail x _ ih=>exact List.mem_cons_of_mem _ ih
theorem Sel.back {a a' b : Asrt} (h : Sel L a a' L') (hb : b ∈ L') : b = a' ∨ b ∈ L := by
 induction h with
 | head a a' L=>
  rcases List.mem_cons.1 hb with rfl | hb
  ·exact .inl rfl
  ·exact .inr (List.mem_cons_of_mem _ hb)
 | tail x _ ih=>
  rcases List.mem_cons.1 hb with rfl | hb
  ·exact .inr List.mem_cons_self
  ·rcases ih hb with rfl | hb
   ·exact .inl rfl
   ·exact .inr (List.mem_cons_of_mem _ hb)
theorem Sel.others {a a' : Asrt} (h : Sel L a a' L') (hd : L.Pairwise fun a b=>(a.excl || b.excl) = true → ∀ k,a.foot k → ¬ b.foot k) (ha : a.excl = true)
  (holds live mine' : Asrt → Prop) (ha' : holds a') (hrest : ∀ b ∈ L,(∀ k,a.foot k → ¬ b.foot k) → holds b) : ∀ b ∈ L',holds b := by
 induction h with
 | head a a' L=>
  intro b hb
  obtain ⟨h1,_⟩ := List.pairwise_cons.1 hd
  rcases List.mem_cons.1 hb with rfl | hb
  ·exact ha'
  ·exact hrest b (List.mem_cons_of_mem _ hb) (h1 b hb (by simp [ha]))
 | @tail L L' a a' x hs ih=>
  obtain ⟨h1,h2⟩ := List.pairwise_cons.1 hd
  intro b hb
  rcases List.mem_cons.1 hb with rfl | hb
  ·refine hrest b List.mem_cons_self (fun k hk1 hk2=>h1 a hs.mem (by simp [ha]) k hk2 hk1)
  ·exact ih h2 ha ha' (fun c hc=>hrest c (List.mem_cons_of_mem _ hc)) b hb
theorem Sel.dis {a a' : Asrt} (h : Sel L a a' L') (hd : L.Pairwise fun a b=>(a.excl || b.excl) = true → ∀ k,a.foot k → ¬ b.foot k) (ha : a.excl = true)
  {N : Nat} (hl : ∀ b ∈ L,∀ k,b.foot k → k < N) (hf : ∀ k,a'.foot k → a.foot k ∨ N ≤ k) :
  L'.Pairwise fun a b=>(a.excl || b.excl) = true → ∀ k,a.foot k → ¬ b.foot k := by
 induction h with
 | head a a' L=>
  obtain ⟨h1,h2⟩ := List.pairwise_cons.1 hd
  refine List.pairwise_cons.2 ⟨fun b hb _ k hk1 hk2=>?_,h2⟩
  rcases hf k hk1 with h | h
  ·exact h1 b hb (by simp [ha]) k h hk2
  ·have := hl b (List.mem_cons_of_mem _ hb) k hk2;omega
 | @tail L L' a a' x hs ih=>
  obtain ⟨h1,h2⟩ := List.pairwise_cons.1 hd
  refine List.pairwise_cons.2 ⟨fun b hb hx k hk1 hk2=>?_,ih h2 ha (fun b hb=>hl b (List.mem_cons_of_mem _ hb)) hf⟩
  rcases hs.back hb with rfl | hb
  ·rcases hf k hk2 with h | h
   ·exact h1 a hs.mem (by simp [ha]) k hk1 h
   ·have := hl x List.mem_cons_self k hk1;omega
  ·exact h1 b hb hx k hk1 hk2
theorem St.turn (h : St w0 F L w) {a a' : Asrt} (hs : Sel L a a' L') (he : a.excl = true) (hk : Keep a.foot w w') (ha : a'.holds w')
  (hf : ∀ k,a'.foot k → a.foot k ∨ (w.heap.size ≤ k ∧ k < w'.heap.size)) (hd : a'.dep) : St w0 F L' w' := by
 refine ⟨hk.os.trans h.os,hk.tape.trans h.tape,hk.output.trans h.output,Nat.le_trans h.size hk.size,fun k hk' hF=>?_,?_,?_,?_,?_,?_⟩
 ·rw [hk.keep k (Nat.lt_of_lt_of_le hk' h.size) (fun hx=>hF (h.mine a hs.mem he k hx hk'))];exact h.keep k hk' hF
 ·refine hs.others h.dis he (fun b=>b.holds w') (fun _=>True) (fun _=>True) ha fun b hb hap=>?_
  exact h.dep b hb w w' (fun k hf=>hk.keep k (h.live b hb k hf) (fun hx=>hap k hx hf)) (h.holds b hb)
 ·intro b hb k hfk
  rcases hs.back hb with rfl | hb
  ·rcases hf k hfk with hx | hx
   ·exact Nat.lt_of_lt_of_le (h.live a hs.mem k hx) hk.size
   ·exact hx.2
  ·exact Nat.lt_of_lt_of_le (h.live b hb k hfk) hk.size
 ·intro b hb hbe k hfk hlt
  rcases hs.back hb with rfl | hb
  ·rcases hf k hfk with hx | hx
   ·exact h.mine a hs.mem he k hx hlt
   ·have := h.size;omega
  ·exact h.mine b hb hbe k hfk hlt
 ·refine hs.dis h.dis he h.live (fun k hfk=>?_)
  rcases hf k hfk with hx | hx
  ·exact .inl hx
  ·exact .inr hx.1
 ·intro b hb
  rcases hs.back hb with rfl | hb
  ·exact hd
  ·exact h.dep b hb
theorem St.old (h : St w0 F L w) {B : Nat → Prop} {φ : World → Prop} (hφ : φ w0) (hB : ∀ k,B k → k < w0.heap.size ∧ ¬ F k) (hd : (Asrt.rd B φ).dep) : St w0 F (.rd B φ :: L) w := by
 refine ⟨h.os,h.tape,h.output,h.size,h.keep,?_,?_,?_,?_,?_⟩
 ·intro b hb;rcases List.mem_cons.1 hb with rfl | hb
  ·exact hd w0 w (fun k hk=>h.keep k (hB k hk).1 (hB k hk).2) hφ
  ·exact h.holds b hb
 ·intro b hb;rcases List.mem_cons.1 hb with rfl | hb
  ·exact fun k hk=>Nat.lt_of_lt_of_le (hB k hk).1 h.size
  ·exact h.live b hb
 ·intro b hb he;rcases List.mem_cons.1 hb with rfl | hb
  ·cases he
  ·exact h.mine b hb he
 ·refine List.pairwise_cons.2 ⟨fun b hb hx k hk1 hk2=>?_,h.dis⟩
  have hx' : b.excl = true := by simpa [Asrt.excl] using hx
  exact (hB k hk1).2 (h.mine b hb hx' k hk2 (hB k hk1).1)
 ·intro b hb;rcases List.mem_cons.1 hb with rfl | hb
  ·exact hd
  ·exact h.dep b hb
theorem St.own_at (h : St w0 F L w) {b : Nat} {o : Obj} (hm : Asrt.own b o ∈ L) : w.heap[b]? = some o := h.holds _ hm
end
class One (P : Program) (T : TypeId) : Prop where
 agg : ∀ w,(isAgg T).run P w = .ok false w
 size : ∀ w,(sizeOf T).run P w = .ok 1 w
class Agg (P : Program) (T : TypeId) (n : outParam Nat) : Prop where
 agg : ∀ w,(isAgg T).run P w = .ok true w
 size : ∀ w,(sizeOf T).run P w = .ok n w
class ZeroOf (P : Program) (T : TypeId) (cs : outParam (List Value)) : Prop where
 zero : ∃ v,(∀ w,(zeroValue T).run P w = .ok v w) ∧ v.cells = cs.toArray
class Fld (P : Program) (T : TypeId) (i : Nat) (off : outParam Nat) : Prop where
 at_ : ∀ b o w,(Instr.fieldAt T (.pointer (some ⟨b,o,none⟩)) i).run P w = .ok (.pointer (some ⟨b,o + off,none⟩)) w
class SliceOf (P : Program) (T : TypeId) (E : outParam TypeId) (sz : outParam Nat) (bytes : outParam Nat) : Prop where
 und : P.underlying T = some (.slice E)
 inf : (P.info? E).map (fun i=>(i.size,i.bytes)) = some (sz,bytes)
 pos : 0 < sz
 zero : ∃ z,(P.info? E).bind (·.zero) = some z ∧ z.cells.size = sz
class ArrOf (P : Program) (T : TypeId) (len : outParam Nat) (E : outParam TypeId) (sz : outParam Nat) : Prop where
 und : P.underlying T = some (.array len E)
 size : ∀ w,(sizeOf E).run P w = .ok sz w
class Build (P : Program) (T : TypeId) (zero : outParam (List Value)) (places : outParam (List (Nat × Nat))) : Prop where
 run : ∀ w (parts : Array (Nat × Value)) cells,Instr.fill (fun i=>places.toArray[i]?) zero.toArray parts.toList = some cells → (Instr.build T parts).run P w = .ok (.agg cells) w
class Eqs (P : Program) (T : TypeId) (n : outParam Nat) : Prop where
 eq : ∀ (x y : Operand) (xs ys : List Int) w,xs.length = n → ys.length = n →
  (do eqGuard .eql T x y (.agg (xs.map (Value.int .i64)).toArray) (.agg (ys.map (Value.int .i64)).toArray);binOp .eql T (.agg (xs.map (Value.int .i64)).toArray) (.agg (ys.map (Value.int .i64)).toArray)).run P w = .ok (.bool (decide (xs = ys))) w
 ne : ∀ (x y : Operand) (xs ys : List Int) w,xs.length = n → ys.length = n →
  (do eqGuard .neq T x y (.agg (xs.map (Value.int .i64)).toArray) (.agg (ys.map (Value.int .i64)).toArray);binOp .neq T (.agg (xs.map (Value.int .i64)).toArray) (.agg (ys.map (Value.int .i64)).toArray)).run P w = .ok (.bool (!decide (xs = ys))) w
class ToInt (P : Program) (S D : TypeId) (k : outParam IntKind) : Prop where
 src : ∃ d,P.underlying S = some d
 dst : P.underlying D = some (.int k)
class IntT (P : Program) (T : TypeId) (k : outParam IntKind) : Prop where
 und : P.underlying T = some (.int k)
instance (P : Program) (S D : TypeId) (k' k : IntKind) [a : IntT P S k'] [b : IntT P D k] : ToInt P S D k := ⟨⟨_,a.und⟩,b.und⟩
class PtrTo (P : Program) (T : TypeId) : Prop where
 und : ∃ E,P.underlying T = some (.pointer E)
section
variable {P : Program} {C : World → Prop} {f : Frm} {T T' T'' : TypeId} {x y z : Operand} {v : Value}
theorem Ev.move : Ev P C f (.move x) T (f.ev x) := fun w _ d p af g=>by simp [execOp]
theorem Ev.assign : Ev P C f (.assign x) T (f.ev x) := fun w _ d p af g=>by simp [execOp]
theorem Ev.moveV (h : f.ev x = v) : Ev P C f (.move x) T v := h ▸ Ev.move
theorem Ev.assignV (h : f.ev x = v) : Ev P C f (.assign x) T v := h ▸ Ev.assign
theorem Ev.pick_t (h : f.ev x = .bool true) : Ev P C f (.pick x y z) T (f.ev y) := fun w _ d p af g=>by simp [execOp,h,asBool]
theorem Ev.pick_f (h : f.ev x = .bool false) : Ev P C f (.pick x y z) T (f.ev z) := fun w _ d p af g=>by simp [execOp,h,asBool]
theorem Ev.nilCheck {a : Addr} (h : f.ev x = .pointer (some a)) : Ev P C f (.nilCheck x) T (.pointer (some a)) := fun w _ d p af g=>by simp [execOp,h]
theorem Ev.extract {vs : List Value} {i : Nat} (h : f.ev x = .tuple vs.toArray) (hv : vs[i]? = some v) : Ev P C f (.extract x i) T v := fun w _ d p af g=>by
 simp [execOp,h,Instr.extract,hv]
theorem Ev.not {b : Bool} (h : f.ev x = .bool b) : Ev P C f (.unOp .not T' x) T (.bool (!b)) := fun w _ d p af g=>by simp [execOp,h,Op.unary]
theorem Ev.makeFunc {fn : Fn} {xs ys : List Operand} : Ev P C f (.makeFunc fn xs.toArray ys.toArray) T (.func fn (xs.map f.ev).toArray (ys.map f.ev).toArray) := fun w _ d p af g=>by
 simp [execOp,Instr.makeFunc]
theorem Ev.eql {k : IntKind} {a b : Int} (hx : f.ev x = .int k a) (hy : f.ev y = .int k b) : Ev P C f (.binOp .eql T' x y T'') T (.bool (decide (a = b))) := fun w _ d p af g=>by
 simp [execOp,hx,hy,eqGuard,binOp,Op.intCmp];rfl
theorem Ev.neq {k : IntKind} {a b : Int} (hx : f.ev x = .int k a) (hy : f.ev y = .int k b) : Ev P C f (.binOp .neq T' x y T'') T (.bool (!decide (a = b))) := fun w _ d p af g=>by
 simp [execOp,hx,hy,eqGuard,binOp,Op.intCmp];rfl
theorem Ev.lss {k : IntKind} {a b : Int} (hx : f.ev x = .int k a) (hy : f.ev y = .int k b) : Ev P C f (.binOp .lss T' x y T'') T (.bool (decide (a < b))) := fun w _ d p af g=>by
 simp [execOp,hx,hy,eqGuard,binOp,Op.intCmp]
theorem Ev.leq {k : IntKind} {a b : Int} (hx : f.ev x = .int k a) (hy : f.ev y = .int k b) : Ev P C f (.binOp .leq T' x y T'') T (.bool (decide (a ≤ b))) := fun w _ d p af g=>by
 simp [execOp,hx,hy,eqGuard,binOp,Op.intCmp]
theorem Ev.gtr {k : IntKind} {a b : Int} (hx : f.ev x = .int k a) (hy : f.ev y = .int k b) : Ev P C f (.binOp .gtr T' x y T'') T (.bool (decide (b < a))) := fun w _ d p af g=>by
 simp [execOp,hx,hy,eqGuard,binOp,Op.intCmp]
theorem Ev.geq {k : IntKind} {a b : Int} (hx : f.ev x = .int k a) (hy : f.ev y = .int k b) : Ev P C f (.binOp .geq T' x y T'') T (.bool (decide (b ≤ a))) := fun w _ d p af g=>by
 simp [execOp,hx,hy,eqGuard,binOp,Op.intCmp]
theorem Ev.addW {k : IntKind} {a b : Int} (hx : f.ev x = .int k a) (hy : f.ev y = .int k b) : Ev P C f (.binOp .add T' x y T'') T (.int k (k.wrap (a + b))) := fun w _ d p af g=>by
 simp [execOp,hx,hy,eqGuard,binOp,Op.intArith]
theorem Ev.subW {k : IntKind} {a b : Int} (hx : f.ev x = .int k a) (hy : f.ev y = .int k b) : Ev P C f (.binOp .sub T' x y T'') T (.int k (k.wrap (a - b))) := fun w _ d p af g=>by
 simp [execOp,hx,hy,eqGuard,binOp,Op.intArith]
theorem Ev.mulW {k : IntKind} {a b : Int} (hx : f.ev x = .int k a) (hy : f.ev y = .int k b) : Ev P C f (.binOp .mul T' x y T'') T (.int k (k.wrap (a * b))) := fun w _ d p af g=>by
 simp [execOp,hx,hy,eqGuard,binOp,Op.intArith]
theorem wrap_i64 {a : Int} (h1 : -9223372036854775808 ≤ a) (h2 : a ≤ 9223372036854775807) : IntKind.i64.wrap a = a := IntWalk.i64_in _ ⟨h1,h2⟩
theorem Ev.add {a b : Int} (hx : f.ev x = .int .i64 a) (hy : f.ev y = .int .i64 b) (h1 : -9223372036854775808 ≤ a + b) (h2 : a + b ≤ 9223372036854775807) : Ev P C f (.binOp .add T' x y T'') T (.int .i64 (a + b)) := by
 have := Ev.addW (P := P) (C := C) (T := T) (T' := T') (T'' := T'') hx hy;rwa [wrap_i64 h1 h2] at this
theorem Ev.sub {a b : Int} (hx : f.ev x = .int .i64 a) (hy : f.ev y = .int .i64 b) (h1 : -9223372036854775808 ≤ a - b) (h2 : a - b ≤ 9223372036854775807) : Ev P C f (.binOp .sub T' x y T'') T (.int .i64 (a - b)) := by
 have := Ev.subW (P := P) (C := C) (T := T) (T' := T') (T'' := T'') hx hy;rwa [wrap_i64 h1 h2] at this
theorem Ev.mul {a b : Int} (hx : f.ev x = .int .i64 a) (hy : f.ev y = .int .i64 b) (h1 : -9223372036854775808 ≤ a * b) (h2 : a * b ≤ 9223372036854775807) : Ev P C f (.binOp .mul T' x y T'') T (.int .i64 (a * b)) := by
 have := Ev.mulW (P := P) (C := C) (T := T) (T' := T') (T'' := T'') hx hy;rwa [wrap_i64 h1 h2] at this
theorem Ev.rem {k : IntKind} {a b : Int} (hx : f.ev x = .int k a) (hy : f.ev y = .int k b) (h : b ≠ 0) : Ev P C f (.binOp .rem T' x y T'') T (.int k (a.tmod b)) := fun w _ d p af g=>by
 simp [execOp,hx,hy,eqGuard,binOp,Op.intDiv,h]
theorem Ev.shr {k k' : IntKind} {a b : Int} (hx : f.ev x = .int k a) (hy : f.ev y = .int k' b) (h : 0 ≤ b) : Ev P C f (.binOp .shr T' x y T'') T (.int k (a.fdiv (2 ^ (min b.toNat k.bits)))) := fun w _ d p af g=>by
 simp [execOp,hx,hy,eqGuard,binOp,Op.shift,show ¬ b < 0 by omega]
theorem Ev.shl {k k' : IntKind} {a b : Int} (hx : f.ev x = .int k a) (hy : f.ev y = .int k' b) (h : 0 ≤ b) : Ev P C f (.binOp .shl T' x y T'') T (.int k (k.wrap (a * 2 ^ (min b.toNat k.bits)))) := fun w _ d p af g=>by
 simp [execOp,hx,hy,eqGuard,binOp,Op.shift,show ¬ b < 0 by omega]
def andI (k : IntKind) (a b : Int) : Int := k.wrap ((BitVec.ofInt k.bits a &&& BitVec.ofInt k.bits b).toNat)
def orI (k : IntKind) (a b : Int) : Int := k.wrap ((BitVec.ofInt k.bits a ||| BitVec.ofInt k.bits b).toNat)
def xorI (k : IntKind) (a b : Int) : Int := k.wrap ((BitVec.ofInt k.bits a ^^^ BitVec.ofInt k.bits b).toNat)
def andNotI (k : IntKind) (a b : Int) : Int := k.wrap ((BitVec.ofInt k.bits a &&& ~~~ BitVec.ofInt k.bits b).toNat)
theorem Ev.and {k : IntKind} {a b : Int} (hx : f.ev x = .int k a) (hy : f.ev y = .int k b) : Ev P C f (.binOp .and T' x y T'') T (.int k (andI k a b)) := fun w _ d p af g=>by
 simp [execOp,hx,hy,eqGuard,binOp,Op.intBits,andI]
theorem Ev.or {k : IntKind} {a b : Int} (hx : f.ev x = .int k a) (hy : f.ev y = .int k b) : Ev P C f (.binOp .or T' x y T'') T (.int k (orI k a b)) := fun w _ d p af g=>by
 simp [execOp,hx,hy,eqGuard,binOp,Op.intBits,orI]
theorem Ev.xor {k : IntKind} {a b : Int} (hx : f.ev x = .int k a) (hy : f.ev y = .int k b) : Ev P C f (.binOp .xor T' x y T'') T (.int k (xorI k a b)) := fun w _ d p af g=>by
 simp [execOp,hx,hy,eqGuard,binOp,Op.intBits,xorI]
theorem Ev.andNot {k : IntKind} {a b : Int} (hx : f.ev x = .int k a) (hy : f.ev y = .int k b) : Ev P C f (.binOp .andNot T' x y T'') T (.int k (andNotI k a b)) := fun w _ d p af g=>by
 simp [execOp,hx,hy,eqGuard,binOp,Op.intBits,andNotI]
theorem Ev.conv {k k' : IntKind} {a : Int} [hi : ToInt P T' T'' k] (hx : f.ev x = .int k' a) : Ev P C f (.convert T' T'' x) T (.int k (k.wrap a)) := fun w _ d p af g=>by
 obtain ⟨d',hd'⟩ := hi.src
 simp [execOp,hx,convert,run_underlying hd',run_underlying hi.dst,Conv.intToInt]
theorem run_eq_of {w : World} {t : TypeId} {a b : Value} {r : Bool} (h : (Op.equalIn (9999 + 1) t a b).run P w = .ok r w) : (Op.equal t a b).run P w = .ok r w := h
theorem ev_eql_of {r : Bool} (hg : ∀ w,(eqGuard .eql T' x y (f.ev x) (f.ev y)).run P w = .ok () w) (hb : binOp .eql T' (f.ev x) (f.ev y) = (do pure (.bool (← Op.equal T' (f.ev x) (f.ev y)))))
  (h : ∀ w,(Op.equalIn (9999 + 1) T' (f.ev x) (f.ev y)).run P w = .ok r w) : Ev P C f (.binOp .eql T' x y T'') T (.bool r) := fun w _ d p af g=>by
 have := run_eq_of (h w)
 simp only [execOp,hb,Sem.run_bind,hg,Result.andThen_ok,this,Sem.run_pure]
theorem ev_neq_of {r : Bool} (hg : ∀ w,(eqGuard .neq T' x y (f.ev x) (f.ev y)).run P w = .ok () w) (hb : binOp .neq T' (f.ev x) (f.ev y) = (do pure (.bool (!(← Op.equal T' (f.ev x) (f.ev y))))))
  (h : ∀ w,(Op.equalIn (9999 + 1) T' (f.ev x) (f.ev y)).run P w = .ok r w) : Ev P C f (.binOp .neq T' x y T'') T (.bool (!r)) := fun w _ d p af g=>by
 have := run_eq_of (h w)
 simp only [execOp,hb,Sem.run_bind,hg,Result.andThen_ok,this,Sem.run_pure]
theorem run_equalIn_ptr {E : TypeId} {t : TypeId} (w : World) (d : Nat) (a : Option Addr) (h : P.underlying t = some (.pointer E)) : (Op.equalIn (d + 1) t (.pointer a) (.pointer none)).run P w = .ok a.isNone w := by
 cases a <;> simp [Op.equalIn,run_underlying h]
theorem run_equalIn_slc {E : TypeId} {t : TypeId} (w : World) (d : Nat) (a : Option Addr) (l c : Nat) (h : P.underlying t = some (.slice E)) : (Op.equalIn (d + 1) t (.slice a l c) (.slice none 0 0)).run P w = .ok a.isNone w := by
 cases a <;> simp [Op.equalIn,run_underlying h]
theorem Ev.ptr_nil [h : PtrTo P T'] {a : Option Addr} (hx : f.ev x = .pointer a) (hy : f.ev y = .pointer none) : Ev P C f (.binOp .eql T' x y T'') T (.bool a.isNone) := by
 obtain ⟨E,hE⟩ := h.und
 exact ev_eql_of (fun w=>by rw [hx,hy];rfl) (by rw [hx,hy];rfl) (fun w=>by rw [hx,hy];exact run_equalIn_ptr w _ a hE)
theorem Ev.ptr_not_nil [h : PtrTo P T'] {a : Option Addr} (hx : f.ev x = .pointer a) (hy : f.ev y = .pointer none) : Ev P C f (.binOp .neq T' x y T'') T (.bool (!a.isNone)) := by
 obtain ⟨E,hE⟩ := h.und
 exact ev_neq_of (fun w=>by rw [hx,hy];rfl) (by rw [hx,hy];rfl) (fun w=>by rw [hx,hy];exact run_equalIn_ptr w _ a hE)
theorem Ev.slice_nil {E : TypeId} {sz by_ : Nat} [h : SliceOf P T' E sz by_] {a : Option Addr} {l c : Nat} (hx : f.ev x = .slice a l c) (hy : f.ev y = .slice none 0 0) : Ev P C f (.binOp .eql T' x y T'') T (.bool a.isNone) :=
 ev_eql_of (fun w=>by rw [hx,hy];rfl) (by rw [hx,hy];rfl) (fun w=>by rw [hx,hy];exact run_equalIn_slc w _ a l c h.und)
theorem Ev.structs {n : Nat} [h : Eqs P T' n] {xs ys : List Int} (hx : f.ev x = .agg (xs.map (Value.int .i64)).toArray) (hy : f.ev y = .agg (ys.map (Value.int .i64)).toArray) (h1 : xs.length = n) (h2 : ys.length = n) :
  Ev P C f (.binOp .eql T' x y T'') T (.bool (decide (xs = ys))) := fun w _ d p af g=>by
 have := h.eq x y xs ys w h1 h2
 simp only [execOp,hx,hy]
 rw [Sem.run_bind,this]
 rfl
theorem Ev.structs_ne {n : Nat} [h : Eqs P T' n] {xs ys : List Int} (hx : f.ev x = .agg (xs.map (Value.int .i64)).toArray) (hy : f.ev y = .agg (ys.map (Value.int .i64)).toArray) (h1 : xs.length = n) (h2 : ys.length = n) :
  Ev P C f (.binOp .neq T' x y T'') T (.bool (!decide (xs = ys))) := fun w _ d p af g=>by
 have := h.ne x y xs ys w h1 h2
 simp only [execOp,hx,hy]
 rw [Sem.run_bind,this]
 rfl
theorem Ev.eq2 [h : Eqs P T' 2] {a b a' b' : Int} (hx : f.ev x = .agg [.int .i64 a,.int .i64 b].toArray) (hy : f.ev y = .agg [.int .i64 a',.int .i64 b'].toArray) : Ev P C f (.binOp .eql T' x y T'') T (.bool (decide ([a,b] = [a',b']))) :=
 Ev.structs (xs := [a,b]) (ys := [a',b']) hx hy rfl rfl
theorem Ev.ne2 [h : Eqs P T' 2] {a b a' b' : Int} (hx : f.ev x = .agg [.int .i64 a,.int .i64 b].toArray) (hy : f.ev y = .agg [.int .i64 a',.int .i64 b'].toArray) : Ev P C f (.binOp .neq T' x y T'') T (.bool (!decide ([a,b] = [a',b']))) :=
 Ev.structs_ne (xs := [a,b]) (ys := [a',b']) hx hy rfl rfl
theorem Ev.eq4 [h : Eqs P T' 4] {a b c d a' b' c' d' : Int} (hx : f.ev x = .agg [.int .i64 a,.int .i64 b,.int .i64 c,.int .i64 d].toArray) (hy : f.ev y = .agg [.int .i64 a',.int .i64 b',.int .i64 c',.int .i64 d'].toArray) : Ev P C f (.binOp .eql T' x y T'') T (.bool (decide ([a,b,c,d] = [a',b',c',d']))) :=
 Ev.structs (xs := [a,b,c,d]) (ys := [a',b',c',d']) hx hy rfl rfl
theorem Ev.ne4 [h : Eqs P T' 4] {a b c d a' b' c' d' : Int} (hx : f.ev x = .agg [.int .i64 a,.int .i64 b,.int .i64 c,.int .i64 d].toArray) (hy : f.ev y = .agg [.int .i64 a',.int .i64 b',.int .i64 c',.int .i64 d'].toArray) : Ev P C f (.binOp .neq T' x y T'') T (.bool (!decide ([a,b,c,d] = [a',b',c',d']))) :=
 Ev.structs_ne (xs := [a,b,c,d]) (ys := [a',b',c',d']) hx hy rfl rfl
theorem Ev.fieldAddr {i off b o : Nat} [h : Fld P T' i off] (hx : f.ev x = .pointer (some ⟨b,o,none⟩)) : Ev P C f (.fieldAddr T' x i) T (.pointer (some ⟨b,o + off,none⟩)) := fun w _ d p af g=>by
 simp only [execOp,hx]
 rw [Sem.run_bind,h.at_]
 rfl
theorem addr_add (b o n : Nat) : (⟨b,o,none⟩ : Addr).add n = ⟨b,o + n,none⟩ := by
 unfold Addr.add;split
 ·rename_i h;subst h;rfl
 ·rfl
theorem Ev.indexAddr {E : TypeId} {sz by_ b o l c : Nat} {k : IntKind} {i : Int} [h : SliceOf P T' E sz by_] (hx : f.ev x = .slice (some ⟨b,o,none⟩) l c) (hy : f.ev y = .int k i) (h0 : 0 ≤ i) (h1 : i < l) :
  Ev P C f (.indexAddr T' x y) T (.pointer (some ⟨b,o + i.toNat * sz,none⟩)) := fun w _ d p af g=>by
 have hinf := h.inf
 cases hi : P.info? E with
 | none=>simp [hi] at hinf
 | some inf=>
  simp only [hi,Option.map_some,Option.some.injEq,Prod.mk.injEq] at hinf
  simp [execOp,hx,hy,Instr.indexAt,asIntOf,run_underlying h.und,h0,h1,sizeOf,typeInfo,hi,hinf.1,addr_add]
theorem Ev.indexArr {E : TypeId} {len sz b o : Nat} {k : IntKind} {i : Int} [h : ArrOf P T' len E sz] (hx : f.ev x = .pointer (some ⟨b,o,none⟩)) (hy : f.ev y = .int k i) (h0 : 0 ≤ i) (h1 : i < len) :
  Ev P C f (.indexAddr T' x y) T (.pointer (some ⟨b,o + i.toNat * sz,none⟩)) := fun w _ d p af g=>by
 simp [execOp,hx,hy,Instr.indexAt,asIntOf,run_underlying h.und,h0,h1,h.size,Instr.sureAddr,addr_add]
theorem Ev.len {E : TypeId} {sz by_ l c : Nat} {a : Option Addr} [h : SliceOf P T' E sz by_] (hx : f.ev x = .slice a l c) : Ev P C f (.call ⟨.builtin .len,[x].toArray,[T'].toArray⟩) T (.int .i64 l) := fun w _ d p af g=>by
 simp [execOp,resolve,invoke,builtin,Builtin.len_,hx,run_underlying h.und,goInt]
end
theorem fold_set (off : Nat) : ∀ (vc : List Value) (j : Nat) (cs : Array Value),off + j + vc.length ≤ cs.size →
  ((vc.zipIdx j).foldl (fun cs (q : Value × Nat)=>cs.setIfInBounds (off + q.2) q.1) cs).toList = cs.toList.take (off + j) ++ vc ++ cs.toList.drop (off + j + vc.length)
 | [],j,cs,_=>by simp
 | v :: r,j,cs,h=>by
  simp only [List.length_cons] at h
  simp only [List.zipIdx_cons,List.foldl_cons]
  rw [fold_set off r (j + 1) _ (by simp;omega)]
  simp only [Array.toList_setIfInBounds,List.length_cons]
  apply List.ext_getElem?
  intro i
  simp only [List.getElem?_append,List.length_append,List.length_take,List.length_set,Array.length_toList,List.getElem?_take,List.getElem?_set,List.getElem?_drop]
  by_cases h1 : i < off + j
  ·have e1 : i < min (off + (j + 1)) cs.size := by omega
   have e2 : i < min (off + j) cs.size := by omega
   have e3 : ¬ off + j = i := by omega
   simp [e1,e2,e3,show i < off + (j + 1) by omega,h1,show i < min (off + (j + 1)) cs.size + r.length by omega,show i < min (off + j) cs.size + (r.length + 1) by omega]
  ·by_cases h2 : i = off + j
   ·subst h2
    have e1 : off + j < min (off + (j + 1)) cs.size := by omega
    have e2 : ¬ off + j < min (off + j) cs.size := by omega
    have e3 : off + j - min (off + j) cs.size = 0 := by omega
    simp [e1,e2,e3,show off + j < off + (j + 1) by omega,show off + j < min (off + (j + 1)) cs.size + r.length by omega,show off + j < min (off + j) cs.size + (r.length + 1) by omega,show off + j < cs.size by omega]
   ·have e1 : ¬ i < min (off + (j + 1)) cs.size := by omega
    have e2 : ¬ i < min (off + j) cs.size := by omega
    by_cases h3 : i < off + j + 1 + r.length
    ·have e3 : i < min (off + (j + 1)) cs.size + r.length := by omega
     have e4 : i < min (off + j) cs.size + (r.length + 1) := by omega
     have e5 : i - min (off + j) cs.size = (i - min (off + (j + 1)) cs.size) + 1 := by omega
     simp [e1,e2,e3,e4,e5]
    ·have e3 : ¬ i < min (off + (j + 1)) cs.size + r.length := by omega
     have e4 : ¬ i < min (off + j) cs.size + (r.length + 1) := by omega
     have e5 : ¬ off + j = off + (j + 1) + r.length + (i - (min (off + (j + 1)) cs.size + r.length)) := by omega
     have e6 : off + (j + 1) + r.length + (i - (min (off + (j + 1)) cs.size + r.length)) = off + j + (r.length + 1) + (i - (min (off + j) cs.size + (r.length + 1))) := by omega
     simp only [e3,if_false,e6,List.length_cons]
     rw [if_neg (by omega),if_neg e4]
theorem fill_full (sz : Nat) : ∀ (vs : List Value) (k : Nat) (cells : Array Value),cells.size = (k + vs.length) * sz → (∀ v ∈ vs,v.cells.size = sz) →
  Instr.fill (fun i=>some (i * sz,sz)) cells ((vs.zipIdx k).map fun q=>(q.2,q.1)) = some (cells.toList.take (k * sz) ++ vs.flatMap fun v=>v.cells.toList).toArray
 | [],k,cells,h,_=>by
  have h' : cells.toList.length ≤ k * sz := by simp at h;simp [h]
  simp [Instr.fill,List.take_of_length_le h']
 | v :: r,k,cells,h,hv=>by
  have hs := hv v List.mem_cons_self
  simp only [List.zipIdx_cons,List.map_cons,Instr.fill]
  have hle : k * sz + sz ≤ cells.size := by
   rw [h,List.length_cons,show k + (r.length + 1) = (k + 1) + r.length by omega,Nat.add_mul,Nat.add_mul];omega
  have hno : ¬ ((v.cells.size ≠ sz || k * sz + v.cells.size > cells.size) = true) := by simp [hs];omega
  rw [if_neg hno]
  have hf := fold_set (k * sz) v.cells.toList 0 cells (by simp [hs];omega)
  have hsz : v.cells.toList.length = sz := by simpa using hs
  have ef : Array.foldl (fun cs (x : Value × Nat)=>match x with | (c,j)=>cs.setIfInBounds (k * sz + j) c) cells v.cells.zipIdx = (v.cells.toList.zipIdx.foldl (fun cs (q : Value × Nat)=>cs.setIfInBounds (k * sz + q.2) q.1) cells) := by
   rw [← Array.foldl_toList,Array.toList_zipIdx]
  rw [ef]
  have hsize : (v.cells.toList.zipIdx.foldl (fun cs (q : Value × Nat)=>cs.setIfInBounds (k * sz + q.2) q.1) cells).size = cells.size := by
   rw [← Array.length_toList,hf];simp;omega
  rw [fill_full sz r (k + 1) _ (by rw [hsize,h,List.length_cons];congr 1;omega) (fun u hu=>hv u (List.mem_cons_of_mem _ hu)),hf]
  congr 2
  simp only [Nat.add_zero,List.flatMap_cons]
  rw [show (k + 1) * sz = k * sz + sz by rw [Nat.add_mul];omega]
  have h1 : (cells.toList.take (k * sz)).length = k * sz := by simp;omega
  have h2 : (cells.toList.take (k * sz) ++ v.cells.toList).length = k * sz + sz := by rw [List.length_append,h1,hsz]
  rw [List.take_append_of_le_length (by omega),List.take_of_length_le (by omega),List.append_assoc]
theorem run_load_one {P : Program} {T : TypeId} (h : One P T) {w : World} {a : Addr} {v : Value} (hc : w.cell? a = some v) : (loadVar T a).run P w = .ok v w := by
 simp only [loadVar,Sem.run_bind,h.agg,Result.andThen_ok]
 simp [load,Sem.run,hc]
theorem run_load_agg {P : Program} {T : TypeId} {n : Nat} (h : Agg P T n) {w : World} {a : Addr} {cs : List Value} (hl : cs.length = n) (hc : ∀ j v,cs[j]? = some v → w.cell? (a.add j) = some v) : (loadVar T a).run P w = .ok (.agg cs.toArray) w := by
 subst hl
 simp only [loadVar,Sem.run_bind,h.agg,Result.andThen_ok]
 simp [h.size,run_loadCells_list w a cs hc]
def fillL (places : List (Nat × Nat)) (zero : List Value) : List (Nat × Value) → List Value
 | []=>zero
 | q :: r=>fillL places (zero.take (places.getD q.1 (0,0)).1 ++ q.2.cells.toList ++ zero.drop ((places.getD q.1 (0,0)).1 + q.2.cells.toList.length)) r
def wfParts (places : List (Nat × Nat)) (len : Nat) : List (Nat × Value) → Bool
 | []=>true
 | q :: r=>Nat.blt q.1 places.length && Nat.beq q.2.cells.toList.length (places.getD q.1 (0,0)).2 && Nat.ble ((places.getD q.1 (0,0)).1 + q.2.cells.toList.length) len && wfParts places len r
theorem fill_struct (places : List (Nat × Nat)) : ∀ (parts : List (Nat × Value)) (zero : List Value),wfParts places zero.length parts = true →
  Instr.fill (fun i=>places.toArray[i]?) zero.toArray parts = some (fillL places zero parts).toArray
 | [],zero,_=>rfl
 | q :: r,zero,h=>by
  obtain ⟨i,v⟩ := q
  simp only [wfParts,Bool.and_eq_true] at h
  obtain ⟨⟨⟨h1,h2⟩,h3⟩,h4⟩ := h
  have h1' : i < places.length := Nat.le_of_ble_eq_true h1
  have h2' := Nat.eq_of_beq_eq_true h2
  have h3' := Nat.le_of_ble_eq_true h3
  have hp : places.toArray[i]? = some (places.getD i (0,0)) := by simp [List.getD_eq_getElem?_getD,h1']
  generalize hq : places.getD i (0,0) = pl at *
  obtain ⟨off,size⟩ := pl
  simp only at h2' h3'
  simp only [Instr.fill,hp]
  have hs : v.cells.size = size := by simpa using h2'
  have hno : ¬ ((v.cells.size ≠ size || off + v.cells.size > zero.toArray.size) = true) := by simp at h3' ⊢;omega
  rw [if_neg hno]
  have hf := fold_set off v.cells.toList 0 zero.toArray (by simpa using h3')
  have ef : Array.foldl (fun cs (x : Value × Nat)=>match x with | (c,j)=>cs.setIfInBounds (off + j) c) zero.toArray v.cells.zipIdx = (v.cells.toList.zipIdx.foldl (fun cs (q : Value × Nat)=>cs.setIfInBounds (off + q.2) q.1) zero.toArray) := by
   rw [← Array.foldl_toList,Array.toList_zipIdx]
  rw [ef]
  have e2 : (v.cells.toList.zipIdx.foldl (fun cs (q : Value × Nat)=>cs.setIfInBounds (off + q.2) q.1) zero.toArray) = (zero.take off ++ v.cells.toList ++ zero.drop (off + v.cells.toList.length)).toArray := by
   apply Array.ext'
   rw [hf];simp
  rw [e2,fill_struct places r]
  ·simp only [fillL,hq]
  ·have : (zero.take off ++ v.cells.toList ++ zero.drop (off + v.cells.toList.length)).length = zero.length := by simp at h3' ⊢;omega
   rw [this];exact h4
theorem Ev.build {P : Program} {C : World → Prop} {f : Frm} {T T' : TypeId} {parts : List (Nat × Operand)} {zero : List Value} {places : List (Nat × Nat)} [h : Build P T' zero places]
  (hw : wfParts places zero.length (parts.map fun q=>(q.1,f.ev q.2)) = true) : Ev P C f (.build T' parts.toArray) T (.agg (fillL places zero (parts.map fun q=>(q.1,f.ev q.2))).toArray) := fun w _ d p af g=>by
 have e : (parts.toArray.map fun (i,x)=>(i,f.ev x)) = (parts.map fun q=>(q.1,f.ev q.2)).toArray := by simp
 have := h.run w (parts.map fun q=>(q.1,f.ev q.2)).toArray _ (fill_struct places _ zero hw)
 simp only [execOp,e]
 rw [Sem.run_bind,this]
 rfl
section
variable {P : Program} {f : Frm} {T T' : TypeId} {x y : Operand} {v : Value} {w0 : World} {F : Nat → Prop} {L L' : List Asrt} {C : World → Prop}
theorem Ev.load {a : Addr} [h : One P T] (hx : f.ev x = .pointer (some a)) (hc : ∀ w,C w → w.cell? a = some v) : Ev P C f (.load T x) T' v := fun w hw d p af g=>by
 simp only [execOp,hx,Instr.loadAt,Instr.sureAddr,Sem.run_bind,Sem.run_pure,Result.andThen_ok,run_load_one h (hc w hw)]
theorem cell_own {w : World} {b o : Nat} {c : Array Value} {E : TypeId} {fr : Nat × Nat} (h : w.heap[b]? = some (.cells c E fr)) : w.cell? ⟨b,o,none⟩ = c[o]? := by
 simp [World.cell?,h]
theorem Ev.load_own {b o : Nat} {cs : List Value} {E : TypeId} {fr : Nat × Nat} [h : One P T] (hx : f.ev x = .pointer (some ⟨b,o,none⟩)) (hm : Asrt.own b (.cells cs.toArray E fr) ∈ L) (hc : cs[o]? = some v) :
  Ev P (St w0 F L) f (.load T x) T' v := Ev.load hx fun w hw=>by rw [cell_own (hw.own_at hm)];simpa using hc
theorem Ev.load_agg {b o n : Nat} {cs : List Value} {E : TypeId} {fr : Nat × Nat} [h : Agg P T n] (hx : f.ev x = .pointer (some ⟨b,o,none⟩)) (hm : Asrt.own b (.cells cs.toArray E fr) ∈ L) (hl : Nat.ble (o + n) cs.length = true) :
  Ev P (St w0 F L) f (.load T x) T' (.agg ((cs.drop o).take n).toArray) := fun w hw d p af g=>by
 have hl' := Nat.le_of_ble_eq_true hl
 have hr := run_load_agg (P := P) h (w := w) (a := ⟨b,o,none⟩) (cs := (cs.drop o).take n) (by simp;omega) (fun j v hj=>by
  rw [addr_add,cell_own (hw.own_at hm)]
  rw [List.getElem?_take] at hj
  split at hj
  ·rw [List.getElem?_drop] at hj;simpa using hj
  ·cases hj)
 simp only [execOp,hx,Instr.loadAt,Instr.sureAddr,Sem.run_bind,Sem.run_pure,Result.andThen_ok,hr]
theorem Ev.load_agg_at {a : Addr} {n : Nat} {cs : List Value} [h : Agg P T n] (hx : f.ev x = .pointer (some a)) (hl : cs.length = n) (hc : ∀ w,C w → ∀ j v,cs[j]? = some v → w.cell? (a.add j) = some v) :
  Ev P C f (.load T x) T' (.agg cs.toArray) := fun w hw d p af g=>by
 simp only [execOp,hx,Instr.loadAt,Instr.sureAddr,Sem.run_bind,Sem.run_pure,Result.andThen_ok,run_load_agg h hl (hc w hw)]
variable {n : Nat} {ops rest : List Oper} {Q : Post} {p : String} {af : Array Edge} {d : Nat}
theorem LR.box {cs : List Value} (hv : (f.ev x).cells = cs.toArray) (hd : Nat.blt d n = true)
  (k : ∀ b,LR false P n ops rest Q (upd f d (.pointer (some ⟨b,0,none⟩))) (St w0 F (.own b (.cells cs.toArray T (0,0)) :: L))) :
  LR false P n ops (⟨some d,.box T x,T',p,af,none⟩ :: rest) Q f (St w0 F L) := by
 intro w hw a ha
 refine wpList_plain rfl fun K hK=>?_
 have hr : (execOp a.eval ⟨some d,.box T x,T',p,af,none⟩).run P w = .ok (.value (.pointer (some ⟨w.heap.size,0,none⟩))) { w with heap := w.heap.push (.cells cs.toArray T (0,0)) } := by
  rw [ha.eval]
  simp [execOp,Instr.box,newVar,newRow,newObj,Sem.run,hv]
 simp only [Oper.wp,hr,Oper.upon_value]
 exact hK _ _ (k w.heap.size _ (hw.alloc _) _ (ha.put _ hd))
theorem LR.alloc {cs : List Value} [h : ZeroOf P T cs] (hd : Nat.blt d n = true)
  (k : ∀ b,LR false P n ops rest Q (upd f d (.pointer (some ⟨b,0,none⟩))) (St w0 F (.own b (.cells cs.toArray T (0,0)) :: L))) :
  LR false P n ops (⟨some d,.alloc T,T',p,af,none⟩ :: rest) Q f (St w0 F L) := by
 intro w hw a ha
 obtain ⟨z,hz,hc⟩ := h.zero
 refine wpList_plain rfl fun K hK=>?_
 have hr : (execOp a.eval ⟨some d,.alloc T,T',p,af,none⟩).run P w = .ok (.value (.pointer (some ⟨w.heap.size,0,none⟩))) { w with heap := w.heap.push (.cells cs.toArray T (0,0)) } := by
  simp [execOp,Instr.alloc,hz,newVar,newRow,newObj,Sem.run,hc]
 simp only [Oper.wp,hr,Oper.upon_value]
 exact hK _ _ (k w.heap.size _ (hw.alloc _) _ (ha.put _ hd))
theorem LR.buildSlice {E : TypeId} {sz by_ len : Nat} [h : SliceOf P T E sz by_] {parts : List (Nat × Operand)} (hd : Nat.blt d n = true) (hlen : Nat.ble (len * sz) 100000 = true)
  (hp : parts.map (·.1) = List.range len) (hs : (parts.all fun q=>Nat.beq (f.ev q.2).cells.size sz) = true)
  (k : ∀ b,LR false P n ops rest Q (upd f d (.slice (some ⟨b,0,none⟩) len len)) (St w0 F (.own b (.cells (parts.flatMap fun q=>(f.ev q.2).cells.toList).toArray E (0,0)) :: L))) :
  LR false P n ops (⟨some d,.buildSlice T len parts.toArray,T',p,af,none⟩ :: rest) Q f (St w0 F L) := by
 intro w hw a ha
 refine wpList_plain rfl fun K hK=>?_
 have hinf := h.inf
 obtain ⟨z,hz,hzs⟩ := h.zero
 have hl := Nat.le_of_ble_eq_true hlen
 have e : (parts.toArray.map fun (i,x)=>(i,f.ev x)) = (parts.map fun q=>(q.1,f.ev q.2)).toArray := by simp
 generalize hcs : (parts.flatMap fun q=>(f.ev q.2).cells.toList) = cs at k
 have hf : ∀ c0 : Array Value,c0.size = len * sz → Instr.fill (fun i=>some (i * sz,sz)) c0 (parts.map fun q=>(q.1,f.ev q.2)) = some cs.toArray := by
  intro c0 h0
  have hlen' : len = parts.length := by have := congrArg List.length hp;simpa using this.symm
  have := fill_full sz (parts.map fun q=>f.ev q.2) 0 c0 (by rw [h0,hlen'];simp) (by
   intro v hv
   obtain ⟨q,hq,rfl⟩ := List.mem_map.1 hv
   exact Nat.eq_of_beq_eq_true (List.all_eq_true.1 hs q hq))
  have e2 : ((parts.map fun q=>f.ev q.2).zipIdx 0).map (fun q=>(q.2,q.1)) = parts.map fun q=>(q.1,f.ev q.2) := by
   apply List.ext_getElem
   ·simp
   ·intro i h1 h2
    simp only [List.getElem_map,List.getElem_zipIdx,Nat.zero_add]
    have h3 : (parts.map (·.1))[i]'(by simpa using h2) = i := by simp only [hp,List.getElem_range]
    simp only [List.getElem_map] at h3
    rw [h3]
  rw [e2] at this
  rw [this,← hcs]
  simp [List.flatMap_map]
 have hr : (execOp a.eval ⟨some d,.buildSlice T len parts.toArray,T',p,af,none⟩).run P w = .ok (.value (.slice (some ⟨w.heap.size,0,none⟩) len len)) { w with heap := w.heap.push (.cells cs.toArray E (0,0)) } := by
  rw [ha.eval]
  cases hi : P.info? E with
  | none=>simp [hi] at hinf
  | some inf=>
   simp only [hi,Option.map_some,Option.some.injEq,Prod.mk.injEq] at hinf
   simp only [hi,Option.bind_some] at hz
   have hs : sz > 0 := h.pos
   have hno : ¬ (len * sz > 2 ^ 24) := by omega
   simp only [execOp,e,Instr.buildSlice,run_underlying h.und,sizeOf,typeInfo,hi,Sem.run_bind,Sem.run_pure,Result.andThen_ok,program,Sem.run,hinf.1,hno,if_false]
   by_cases h0 : len * sz = 0
   ·simp only [h0,if_true,Sem.run_bind,Sem.run_pure,Result.andThen_ok]
    rw [hf _ (by simp [h0])]
    simp [newRow,newObj,Sem.run]
   ·simp only [h0,if_false,zeroValue,typeInfo,hi,hz,program,Sem.run_bind,Sem.run_pure,Result.andThen_ok,Sem.run]
    rw [hf _ (by simp)]
    simp [newRow,newObj,Sem.run]
 simp only [Oper.wp,hr,Oper.upon_value]
 exact hK _ _ (k w.heap.size _ (hw.alloc _) _ (ha.put _ hd))
inductive BS (f : Frm) : Nat → List (Nat × Operand) → List Value → Prop
 | nil (sz : Nat) : BS f sz [] []
 | cons {sz i : Nat} {x : Operand} {ps : List (Nat × Operand)} {vs cs : List Value} (h : (f.ev x).cells = vs.toArray) (hs : vs.length = sz) (r : BS f sz ps cs) : BS f sz ((i,x) :: ps) (vs ++ cs)
theorem BS.int {i : Nat} {x : Operand} {ps : List (Nat × Operand)} {cs : List Value} {k : IntKind} {a : Int} (h : f.ev x = .int k a) (r : BS f 1 ps cs) : BS f 1 ((i,x) :: ps) (.int k a :: cs) := BS.cons (vs := [.int k a]) (by rw [h];rfl) rfl r
theorem BS.ptr {i : Nat} {x : Operand} {ps : List (Nat × Operand)} {cs : List Value} {a : Option Addr} (h : f.ev x = .pointer a) (r : BS f 1 ps cs) : BS f 1 ((i,x) :: ps) (.pointer a :: cs) := BS.cons (vs := [.pointer a]) (by rw [h];rfl) rfl r
theorem BS.slice {i : Nat} {x : Operand} {ps : List (Nat × Operand)} {cs : List Value} {a : Option Addr} {l c : Nat} (h : f.ev x = .slice a l c) (r : BS f 1 ps cs) : BS f 1 ((i,x) :: ps) (.slice a l c :: cs) := BS.cons (vs := [.slice a l c]) (by rw [h];rfl) rfl r
theorem BS.agg {sz i : Nat} {x : Operand} {ps : List (Nat × Operand)} {vs cs : List Value} (h : f.ev x = .agg vs.toArray) (hs : vs.length = sz) (r : BS f sz ps cs) : BS f sz ((i,x) :: ps) (vs ++ cs) := BS.cons (vs := vs) (by rw [h];rfl) hs r
theorem BS.out {sz : Nat} {ps : List (Nat × Operand)} {cs : List Value} (h : BS f sz ps cs) : ps.flatMap (fun q=>(f.ev q.2).cells.toList) = cs ∧ (ps.all fun q=>Nat.beq (f.ev q.2).cells.size sz) = true := by
 induction h with
 | nil=>exact ⟨rfl,rfl⟩
 | cons h hs r ih=>
  refine ⟨by rw [List.flatMap_cons,ih.1,h],?_⟩
  rw [List.all_cons,ih.2,h]
  simp [hs]
theorem LR.buildSliceB {E : TypeId} {sz by_ len : Nat} [h : SliceOf P T E sz by_] {parts : List (Nat × Operand)} {cs : List Value} (hd : Nat.blt d n = true) (hlen : Nat.ble (len * sz) 100000 = true)
  (hp : parts.map (·.1) = List.range len) (hb : BS f sz parts cs)
  (k : ∀ b,LR false P n ops rest Q (upd f d (.slice (some ⟨b,0,none⟩) len len)) (St w0 F (.own b (.cells cs.toArray E (0,0)) :: L))) :
  LR false P n ops (⟨some d,.buildSlice T len parts.toArray,T',p,af,none⟩ :: rest) Q f (St w0 F L) := by
 obtain ⟨h1,h2⟩ := hb.out
 exact LR.buildSlice hd hlen hp h2 (by rw [h1];exact k)
end
def finK (P : Program) (fn : Func) (n : Nat) (K : Value → World → Prop) : Post := fin P fn n fun e w'=>∃ v,e = .returned v ∧ K v w'
theorem go_in {P : Program} {n : Nat} {g : FuncId} {fn : Func} {c : Code} {args : List Value} {K : Value → World → Prop} {w : World} {F : Nat → Prop} {L : List Asrt} (hS : St w F L w)
  (hf : P.funcs[g]? = some fn) (hb : fn.body = some c) (hn : n = args.length + (fn.ntmps - args.length)) (h : CW P n c (finK P fn n K) (start args) (St w F L)) : CallsTo P g args w K :=
 enter hf hb hn (h.sub fun _ e=>e ▸ hS)
section
variable {P : Program} {n : Nat} {f : Frm} {C : World → Prop} {fn : Func} {K : Value → World → Prop}
theorem ret1 {t : Tmp} (hr : fn.results = #[.tmp t]) (h : ∀ w,C w → K (f t) w) : At (finK P fn n K) .ret f C := fin_ret1 hr fun w hw=>⟨_,rfl,h w hw⟩
theorem ret2 {t u : Tmp} (hr : fn.results = #[.tmp t,.tmp u]) (h : ∀ w,C w → K (.tuple [f t,f u].toArray) w) : At (finK P fn n K) .ret f C := fin_ret2 hr fun w hw=>⟨_,rfl,h w hw⟩
theorem ret3 {t u s : Tmp} (hr : fn.results = #[.tmp t,.tmp u,.tmp s]) (h : ∀ w,C w → K (.tuple [f t,f u,f s].toArray) w) : At (finK P fn n K) .ret f C := fin_ret3 hr fun w hw=>⟨_,rfl,h w hw⟩
theorem ret0 (hr : fn.results = #[]) (h : ∀ w,C w → K (.tuple #[]) w) : At (finK P fn n K) .ret f C := fin_ret0 hr fun w hw=>⟨_,rfl,h w hw⟩
theorem end0 (hr : fn.results = #[]) (h : ∀ w,C w → K (.tuple #[]) w) : At (finK P fn n K) .normal f C := fin_end0 hr fun w hw=>⟨_,rfl,h w hw⟩
end
theorem CallsTo.q {P : Program} {g : FuncId} {args : List Value} {w w0 : World} {F : Nat → Prop} {L : List Asrt} {u : Value} (h : CallsTo P g args w fun v w'=>v = u ∧ Grew w w') (h1 : St w0 F L w) :
  CallsTo P g args w fun v w'=>v = u ∧ St w0 F L w' := h.mono fun _ _ ⟨a,b⟩=>⟨a,h1.grew b⟩
def noG (Q : Post) : Post
 | .goto _,_,_=>False
 | e,f,w=>Q e f w
section
variable {P : Program} {n : Nat} {Q : Post} {f : Frm} {C : World → Prop}
theorem CW.scope {c : Code} (h : CW P n c (noG Q) f C) : CW P n (.scope c) Q f C := by
 intro w hw a ha
 refine wp_scope_straight (Code.wp_mono (fun e a' w' hq=>?_) (h w hw a ha))
 obtain ⟨f',hf',hq⟩ := hq
 cases e with
 | normal=>exact ⟨f',hf',hq⟩
 | exit id=>exact ⟨f',hf',hq⟩
 | goto l=>exact hq.elim
 | ret=>exact ⟨f',hf',hq⟩
 | panic ch=>exact ⟨f',hf',hq⟩
 | outgrown=>exact ⟨f',hf',hq⟩
theorem CW.label {l : Nat} (h : At Q .normal f C) : CW P n (.label l) Q f C := fun w hw _ ha=>wp_label ⟨f,ha,h w hw⟩
end
class Sz (P : Program) (T : TypeId) (n : outParam Nat) : Prop where
 size : ∀ w,(sizeOf T).run P w = .ok n w
instance (P : Program) (T : TypeId) [h : One P T] : Sz P T 1 := ⟨h.size⟩
instance (P : Program) (T : TypeId) (n : Nat) [h : Agg P T n] : Sz P T n := ⟨h.size⟩
def splice (cs : List Value) (o : Nat) (vs : List Value) : List Value := cs.take o ++ vs ++ cs.drop (o + vs.length)
theorem Keep.setRow (w : World) (g : Nat) (cur cs : Array Value) (e : TypeId) (hg : w.heap[g]? = some (.cells cur e (0,0))) {F : Nat → Prop} (hF : F g) : Keep F w (w.setRow g cs) :=
 ⟨rfl,rfl,rfl,by simp,fun k _ hk=>setRow_other w g k cs (fun e=>hk (e ▸ hF)),fun _ h=>(by cases h),fun _ h=>(by cases h),fun _ h=>(by cases h),List.Pairwise.nil,fun _ h=>(by cases h)⟩
theorem run_storeVar {P : Program} {T : TypeId} {m : Nat} (h : Sz P T m) (w : World) (g o : Nat) (v : Value) (vs cs : List Value) (e : TypeId) (hv : v.cells = vs.toArray) (hm : vs.length = m)
  (hg : w.heap[g]? = some (.cells cs.toArray e (0,0))) (hb : o + vs.length ≤ cs.length) (h1 : vs.all Value.oneCell' = true) : (storeVar T ⟨g,o,none⟩ v).run P w = .ok () (w.setRow g (splice cs o vs).toArray) := by
 have hst := run_storeCells_at P g o e vs 0 cs.toArray w hg (by simpa using hb) (fun u hu=>List.all_eq_true.1 h1 u hu)
 simp only [storeVar,Sem.run_bind,h.size,Result.andThen_ok,hv,List.size_toArray,hm]
 rw [if_neg (by simp)]
 simpa [splice] using hst
section
variable {P : Program} {f : Frm} {T T' : TypeId} {x y : Operand} {v : Value} {w0 : World} {F : Nat → Prop} {L L' : List Asrt} {C : World → Prop}
variable {n : Nat} {ops rest : List Oper} {Q : Post} {p : String} {af : Array Edge} {d : Nat}
theorem LR.store {b o m : Nat} {cs vs : List Value} {E : TypeId} [h : Sz P T m] (hx : f.ev x = .pointer (some ⟨b,o,none⟩)) (hv : (f.ev y).cells = vs.toArray)
  (hs : Sel L (.own b (.cells cs.toArray E (0,0))) (.own b (.cells (splice cs o vs).toArray E (0,0))) L')
  (h1 : vs.all Value.oneCell' = true) (hm : Nat.beq vs.length m = true) (hb : Nat.ble (o + vs.length) cs.length = true)
  (k : LR false P n ops rest Q f (St w0 F L')) : LR false P n ops (⟨none,.store T x y,T',p,af,none⟩ :: rest) Q f (St w0 F L) := by
 intro w hw a ha
 refine wpList_plain rfl fun K hK=>?_
 have hg := hw.own_at hs.mem
 have hr : (execOp a.eval ⟨none,.store T x y,T',p,af,none⟩).run P w = .ok .skip (w.setRow b (splice cs o vs).toArray) := by
  have := run_storeVar h w b o (f.ev y) vs cs E hv (Nat.eq_of_beq_eq_true hm) hg (Nat.le_of_ble_eq_true hb) h1
  rw [ha.eval]
  simp only [execOp,hx,Instr.storeAt,Instr.sureAddr,Sem.run_bind,Sem.run_pure,Result.andThen_ok,this]
 simp only [Oper.wp,hr,Oper.upon_skip]
 refine hK _ _ (k _ ?_ _ (ha.put_none undef))
 exact hw.turn hs rfl (Keep.setRow w b _ _ E hg rfl) (setRow_heap w b _ _ E (0,0) hg) (fun k hk=>.inl hk) (Asrt.dep_own _ _)
def Rd (w : World) (a : Option Addr) (xs : List Value) : Prop := ∀ j v,xs[j]? = some v → ∃ ad,a = some ad ∧ w.cell? (ad.add j) = some v
def rdFoot (a : Option Addr) (xs : List Value) : Nat → Prop := fun k=>xs ≠ [] ∧ ∃ ad,a = some ad ∧ k = ad.block
def rdA (a : Option Addr) (xs : List Value) : Asrt := .rd (rdFoot a xs) (fun w=>Rd w a xs)
def osl (v : Value) (E : TypeId) (sz n : Nat) (xs : List Value) : Asrt := .ex (fun k=>v.ownBlock = some k) (fun w=>w.ownsRow 0 E sz v n xs)
theorem addr_add_block (ad : Addr) (j : Nat) : (ad.add j).block = ad.block := by unfold Addr.add;split <;> rfl
theorem Rd.dep (a : Option Addr) (xs : List Value) : (rdA a xs).dep := by
 intro w w' hk h j v hj
 obtain ⟨ad,ha,hc⟩ := h j v hj
 refine ⟨ad,ha,?_⟩
 have hb := hk ad.block ⟨by intro e;rw [e] at hj;simp at hj,ad,ha,rfl⟩
 simp only [World.cell?,addr_add_block] at hc ⊢
 rw [hb];exact hc
theorem Rd.live {w : World} {a : Option Addr} {xs : List Value} (h : Rd w a xs) : ∀ k,rdFoot a xs k → k < w.heap.size := by
 rintro k ⟨hne,ad,ha,rfl⟩
 cases xs with
 | nil=>exact (hne rfl).elim
 | cons v r=>
  obtain ⟨ad',ha',hc⟩ := h 0 v rfl
  rw [ha] at ha';cases ha'
  have := World.block_lt_of_cell? w _ hc
  rwa [addr_add_block] at this
theorem Rd.nil (w : World) (a : Option Addr) : Rd w a [] := fun j v h=>by simp at h
theorem osl.dep (v : Value) (E : TypeId) (sz n : Nat) (xs : List Value) : (osl v E sz n xs).dep := by
 intro w w' hk h
 refine ⟨h.1,?_⟩
 rcases h.2 with hn | ⟨g,cap,cur,rfl,hb,hg,r⟩
 ·exact .inl hn
 ·refine .inr ⟨g,cap,cur,rfl,hb,?_,r⟩
  rw [hk g rfl];exact hg
theorem ownsRow_base {w : World} {base base' : Nat} {E : TypeId} {sz n : Nat} {v : Value} {xs : List Value} (h : w.ownsRow base E sz v n xs) (hb : ∀ k,v.ownBlock = some k → base' ≤ k) : w.ownsRow base' E sz v n xs := by
 refine ⟨h.1,?_⟩
 rcases h.2 with hn | ⟨g,cap,cur,rfl,hb',r⟩
 ·exact .inl hn
 ·exact .inr ⟨g,cap,cur,rfl,hb g rfl,r⟩
theorem ownsRow_zero {w : World} {base : Nat} {E : TypeId} {sz n : Nat} {v : Value} {xs : List Value} (h : w.ownsRow base E sz v n xs) : w.ownsRow 0 E sz v n xs := ownsRow_base h (fun _ _=>Nat.zero_le _)
theorem ownsRow_rd {w : World} {base : Nat} {E : TypeId} {sz n c : Nat} {a : Option Addr} {xs : List Value} (h : w.ownsRow base E sz (.slice a n c) n xs) : Rd w a xs := by
 intro j v hj
 rcases h.2 with ⟨he,hn⟩ | ⟨g,cap,cur,he,_⟩
 ·subst hn
  have := h.1
  simp only [Nat.zero_mul] at this
  rw [List.eq_nil_of_length_eq_zero this] at hj;simp at hj
 ·simp only [Value.slice.injEq] at he
  obtain ⟨rfl,_,rfl⟩ := he
  exact ⟨_,rfl,World.ownsRow.cells h (g := g) rfl j v hj⟩
structure NewSl (w w' : World) (v : Value) (E : TypeId) (sz n : Nat) (xs : List Value) : Prop where
 grew : Grew w w'
 own : w'.ownsRow w.heap.size E sz v n xs
theorem St.newSl {w w' : World} {n : Nat} {E : TypeId} {sz : Nat} {xs : List Value} (h : St w0 F L w) (hn : NewSl w w' v E sz n xs) : St w0 F (osl v E sz n xs :: L) w' :=
 h.push hn.grew (ownsRow_zero hn.own) (fun k hk=>hn.own.lt k hk) (osl.dep _ _ _ _ _)
theorem St.rd_of_own {w : World} {n : Nat} {E : TypeId} {sz c : Nat} {a : Option Addr} {xs : List Value} (h : St w0 F L w) (hm : osl (.slice a n c) E sz n xs ∈ L) : Rd w a xs := ownsRow_rd (h.holds _ hm)
theorem St.rd_of {w : World} {a : Option Addr} {xs : List Value} (h : St w0 F L w) (hm : rdA a xs ∈ L) : Rd w a xs := h.holds _ hm
theorem St.rd_of_blk {w : World} {b : Nat} {cs : List Value} {E : TypeId} {fr : Nat × Nat} (h : St w0 F L w) (hm : Asrt.own b (.cells cs.toArray E fr) ∈ L) : Rd w (some ⟨b,0,none⟩) cs := fun j v hj=>
 ⟨_,rfl,by rw [addr_add,cell_own (h.own_at hm)];simpa using hj⟩
theorem keep_of_grown {w w' : World} {row : Option Nat} (h : w.grownBy w' row) {F : Nat → Prop} (hF : ∀ k,row = some k → F k) : Keep F w w' :=
 ⟨h.os,h.tape,h.output,h.size,fun k hk hn=>h.block k hk (fun e=>hn (hF k e.symm)),fun _ h=>(by cases h),fun _ h=>(by cases h),fun _ h=>(by cases h),List.Pairwise.nil,fun _ h=>(by cases h)⟩
theorem slice_form {w : World} {base : Nat} {E : TypeId} {sz n : Nat} {xs : List Value} (h : w.ownsRow base E sz v n xs) : ∃ a c,v = .slice a n c := by
 rcases h.2 with ⟨rfl,rfl⟩ | ⟨g,cap,cur,rfl,_⟩
 ·exact ⟨_,_,rfl⟩
 ·exact ⟨_,_,rfl⟩
theorem run_append_any {E : TypeId} {sz by_ : Nat} (h : SliceOf P T E sz by_) (w : World) (ty : TypeId) {n m cx : Nat} {ax : Option Addr} {xs news : List Value} (hown : w.ownsRow 0 E sz v n xs)
  (hrd : Rd w ax news) (hnone : ax = none → m = 0 ∧ cx = 0) (hl : news.length = m * sz) (h1 : news.all Value.oneCell' = true) (hbytes : (n + m) * by_ ≤ 140737488355328) (hmax : n + m ≤ maxLen) :
  ∃ v' w',(Builtin.append_ #[T,T] ty #[v,.slice ax m cx]).run P w = .ok v' w' ∧ w'.ownsRow 0 E sz v' (n + m) (xs ++ news) ∧ w.grownBy w' v.ownBlock ∧ (v' = .slice none 0 0 ↔ v = .slice none 0 0 ∧ m = 0) ∧
   (∀ k,v'.ownBlock = some k → v.ownBlock = some k ∨ (w.heap.size ≤ k ∧ k < w'.heap.size)) := by
 have hinf := h.inf
 obtain ⟨z,hz,hzs⟩ := h.zero
 cases hi : P.info? E with
 | none=>simp [hi] at hinf
 | some inf=>
  simp only [hi,Option.map_some,Option.some.injEq,Prod.mk.injEq] at hinf
  simp only [hi,Option.bind_some] at hz
  cases ax with
  | none=>
   obtain ⟨rfl,rfl⟩ := hnone rfl
   have hn : news = [] := List.eq_nil_of_length_eq_zero (by simpa using hl)
   subst hn
   have hr := run_append_owned_none (P := P) w 0 T ty E inf sz h.und hi v n xs hown
   exact ⟨v,w,hr,by simpa using hown,⟨rfl,rfl,rfl,Nat.le_refl _,fun _ _ _=>rfl⟩,by simp,fun k hk=>.inl hk⟩
  | some ad=>
   have hnews : ∀ j u,news[j]? = some u → w.cell? (ad.add j) = some u := fun j u hj=>by
    obtain ⟨ad',ha',hc⟩ := hrd j u hj
    cases ha';exact hc
   obtain ⟨rfl,rfl⟩ := hinf
   have h63 : n + m ≤ 9223372036854775807 := by simp only [maxLen] at hmax;omega
   have hlen : (xs ++ news).length = (n + m) * inf.size := by rw [List.length_append,hown.1,hl,Nat.add_mul]
   have grown : ∀ (old : Nat),old < n + m → ∀ (row : Option Nat),
     (w.drew.alloc (.cells (xs.toArray ++ news.toArray ++ Builtin.zeroCells z.cells (grownCap w (n + m) old E - (n + m))) E)).ownsRow 0 E inf.size
      (.slice (some ⟨w.heap.size,0,none⟩) (n + m) (grownCap w (n + m) old E)) (n + m) (xs ++ news) ∧
     w.grownBy (w.drew.alloc (.cells (xs.toArray ++ news.toArray ++ Builtin.zeroCells z.cells (grownCap w (n + m) old E - (n + m))) E)) row := by
    intro old ho row
    have hge := grownCap_ge w (n + m) old E
    have hcm : grownCap w (n + m) old E ≤ maxLen := grownCap_le_maxLen w (n + m) old E hmax
    refine ⟨⟨hlen,.inr ⟨w.heap.size,_,_,rfl,Nat.zero_le _,heap_alloc_new w.drew _,hge,hcm,?_,?_⟩⟩,⟨rfl,rfl,rfl,by simp,fun k hk _=>by first | exact heap_alloc_old w.drew _ hk | exact heap_alloc_old w.drew _ k hk⟩⟩
    ·simp only [Array.size_append,List.size_toArray,size_zeroCells,hzs,hown.1,hl,← Nat.add_mul]
     congr 1
     omega
    ·simp only [Array.toList_append,List.append_assoc]
     rw [← List.append_assoc,← hlen]
     exact List.take_left
   have fresh : ∀ (o : Obj) (c : Nat) (k : Nat),(Value.slice (some ⟨w.heap.size,0,none⟩) (n + m) c).ownBlock = some k → v.ownBlock = some k ∨ (w.heap.size ≤ k ∧ k < (w.drew.alloc o).heap.size) := by
    intro o c k hk
    simp only [Value.ownBlock,Option.some.injEq] at hk
    subst hk
    exact .inr ⟨Nat.le_refl _,by simp⟩
   have h1' : ∀ u ∈ news,u.oneCell' = true := fun u hu=>List.all_eq_true.1 h1 u hu
   rcases hown.2 with ⟨rfl,rfl⟩ | ⟨g,cap,cur,rfl,hbg,hg,hnc,hcm,hcs,htake⟩
   ·have hx : xs = [] := List.eq_nil_of_length_eq_zero (by simpa using hown.1)
    subst hx
    by_cases hm : m = 0
    ·subst hm
     have hn : news = [] := List.eq_nil_of_length_eq_zero (by simpa using hl)
     subst hn
     refine ⟨.slice none 0 0,w,?_,World.ownsRow_nil w 0 E inf.size,⟨rfl,rfl,rfl,Nat.le_refl _,fun _ _ _=>rfl⟩,by simp,fun k hk=>by simp [Value.ownBlock] at hk⟩
     simp [Builtin.append_,run_underlying h.und,sizeOf,typeInfo,hi,Builtin.lenOf,Builtin.firstCells,loadCells,loadCellsFrom]
    ·have hr := run_append_nil (P := P) w T ty E inf z h.und hi hz ad m cx news hl hnews (by omega) (by omega) (by have hb := hbytes;simp only [Nat.zero_add] at hb;omega)
     have hgr := grown 0 (by omega) (Value.ownBlock (.slice none 0 0))
     have hfr := fresh (.cells (#[] ++ news.toArray ++ Builtin.zeroCells z.cells (grownCap w (0 + m) 0 E - (0 + m))) E) (grownCap w (0 + m) 0 E)
     simp only [Nat.zero_add,List.nil_append,Array.empty_append] at hgr hfr ⊢
     exact ⟨_,_,hr,hgr.1,hgr.2,by simp [hm],hfr⟩
   ·by_cases hroom : n + m ≤ cap
    ·have hfit : n * inf.size + news.length ≤ cur.size := by rw [hl,hcs,← Nat.add_mul];exact Nat.mul_le_mul_right _ hroom
     have hr := run_append_room (P := P) w T ty E inf h.und hi g n cap cur hg ad m cx news hl hnews h1' hroom hfit
     refine ⟨_,_,hr,⟨hlen,.inr ⟨g,cap,_,rfl,hbg,setRow_heap w g cur _ E _ hg,hroom,hcm,?_,?_⟩⟩,⟨rfl,rfl,rfl,by simp,fun k _ hk=>setRow_other w g k _ (fun e=>hk (by simp [Value.ownBlock,e]))⟩,by simp,fun k hk=>.inl hk⟩
     ·simp only [List.size_toArray,List.length_append,List.length_take,List.length_drop,Array.length_toList]
      omega
     ·rw [htake,← hlen]
      exact List.take_left
    ·have holds : ∀ j u,xs[j]? = some u → w.cell? ((⟨g,0,none⟩ : Addr).add j) = some u := hown.cells (g := g) rfl
     have hr := run_append_grow (P := P) w T ty E inf z h.und hi hz ⟨g,0,none⟩ n cap xs hown.1 holds ad m cx news hl hnews (by omega) (by omega) (growslice_fits (by omega) hbytes)
     have hgr := grown cap (by omega) (Value.ownBlock (.slice (some ⟨g,0,none⟩) n cap))
     exact ⟨_,_,hr,hgr.1,hgr.2,by simp,fresh _ _⟩
end
theorem run_builtin_append {P : Program} {f : Frm} {T T' : TypeId} {s x : Operand} {dst : Option Tmp} {p : String} {af : Array Edge} {g : Option (Nat × Bool)} {v v' : Value} {w w' : World} (hs : f.ev s = v) {u : Value} (hx : f.ev x = u)
  (h : (Builtin.append_ #[T,T] T' #[v,u]).run P w = .ok v' w') : (execOp f.ev ⟨dst,.call ⟨.builtin .append,[s,x].toArray,[T,T].toArray⟩,T',p,af,g⟩).run P w = .ok (.value v') w' := by
 simp only [execOp,resolve,invoke,builtin,Sem.run_bind,Sem.run_pure,Result.andThen_ok,List.map_toArray,List.map_cons,List.map_nil,hs,hx,h]
section
variable {P : Program} {f : Frm} {T T' : TypeId} {s x y : Operand} {v : Value} {w0 : World} {F : Nat → Prop} {L : List Asrt} {C : World → Prop}
variable {n : Nat} {ops rest : List Oper} {Q : Post} {p : String} {af : Array Edge} {d : Nat}
theorem LR.append {E : TypeId} {sz by_ k c m cx : Nat} {a ax : Option Addr} {xs news : List Value} {L' : Option Addr → Nat → List Asrt} [h : SliceOf P T E sz by_]
  (hs : f.ev s = .slice a k c) (hx : f.ev x = .slice ax m cx) (hsel : ∀ a' c',Sel L (osl (.slice a k c) E sz k xs) (osl (.slice a' (k + m) c') E sz (k + m) (xs ++ news)) (L' a' c'))
  (hrd : ∀ w,St w0 F L w → Rd w ax news) (hnone : ax = none → m = 0 ∧ cx = 0) (hl : news.length = m * sz) (h1 : news.all Value.oneCell' = true) (hbytes : (k + m) * by_ ≤ 140737488355328) (hmax : k + m ≤ maxLen) (hd : Nat.blt d n = true)
  (kk : ∀ a' c',LR false P n ops rest Q (upd f d (.slice a' (k + m) c')) (St w0 F (L' a' c'))) :
  LR false P n ops (⟨some d,.call ⟨.builtin .append,[s,x].toArray,[T,T].toArray⟩,T',p,af,none⟩ :: rest) Q f (St w0 F L) := by
 intro w hw b hb
 refine wpList_plain rfl fun K hK=>?_
 have hown : w.ownsRow 0 E sz (.slice a k c) k xs := hw.holds _ (hsel none 0).mem
 obtain ⟨v',w',hr,ho,hg,_,hblk⟩ := run_append_any (P := P) h w T' hown (hrd w hw) hnone hl h1 hbytes hmax
 obtain ⟨a',c',rfl⟩ := slice_form ho
 have hr' := run_builtin_append (P := P) (T' := T') (dst := some d) (p := p) (af := af) (g := none) hs hx hr
 rw [← hb.eval] at hr'
 simp only [Oper.wp,hr',Oper.upon_value]
 refine hK _ _ (kk a' c' w' ?_ _ (hb.put _ hd))
 exact hw.turn (hsel a' c') rfl (keep_of_grown hg fun k hk=>hk) ho (fun k hk=>hblk k hk) (osl.dep _ _ _ _ _)
theorem St.own_osl {w : World} {b k sz : Nat} {cs : List Value} {E : TypeId} {L' : List Asrt} (h : St w0 F L w) (hs : Sel L (.own b (.cells cs.toArray E (0,0))) (osl (.slice (some ⟨b,0,none⟩) k k) E sz k cs) L')
  (hl : cs.length = k * sz) (hk : k ≤ maxLen) : St w0 F L' w := by
 refine h.turn hs rfl (St.refl w _) ?_ (fun j hj=>?_) (osl.dep _ _ _ _ _)
 ·exact ⟨hl,.inr ⟨b,k,cs.toArray,rfl,Nat.zero_le _,h.own_at hs.mem,Nat.le_refl _,hk,by simpa using hl,by simp [List.take_of_length_le (Nat.le_of_eq hl)]⟩⟩
 ·simp only [osl,Asrt.foot,Value.ownBlock,Option.some.injEq] at hj
  exact .inl hj.symm
theorem LR.own_osl {b k sz : Nat} {cs : List Value} {E : TypeId} {L' : List Asrt} {l : List Oper} (hs : Sel L (.own b (.cells cs.toArray E (0,0))) (osl (.slice (some ⟨b,0,none⟩) k k) E sz k cs) L')
  (hl : cs.length = k * sz) (hk : k ≤ maxLen) (kk : LR false P n ops l Q f (St w0 F L')) : LR false P n ops l Q f (St w0 F L) := LW.sub kk fun w hw=>St.own_osl hw hs hl hk
def subA (a : Option Addr) (c l sz : Nat) : Option Addr := if c = l then a else a.map (·.add (l * sz))
theorem Rd.spot {w : World} {ad : Addr} {xs : List Value} (h : Rd w (some ad) xs) (hne : xs ≠ []) : ad.spot = none := by
 cases xs with
 | nil=>exact (hne rfl).elim
 | cons v r=>
  obtain ⟨ad',he,hc⟩ := h 0 v rfl
  cases he
  have e : ad.add 0 = ad := by simp [Addr.add]
  rw [e] at hc
  cases hs : ad.spot with
  | none=>rfl
  | some q=>simp [World.cell?,hs] at hc;split at hc <;> cases hc
theorem Rd.form {w : World} {a : Option Addr} {xs : List Value} (h : Rd w a xs) (hne : xs ≠ []) : ∃ b o,a = some ⟨b,o,none⟩ := by
 cases a with
 | none=>
  cases xs with
  | nil=>exact (hne rfl).elim
  | cons v r=>obtain ⟨ad',he,_⟩ := h 0 v rfl;cases he
 | some ad=>
  have hs := h.spot hne
  obtain ⟨b,o,sp⟩ := ad
  simp only at hs
  subst hs
  exact ⟨b,o,rfl⟩
theorem Rd.cell {w : World} {b o : Nat} {xs : List Value} (h : Rd w (some ⟨b,o,none⟩) xs) {j : Nat} {v : Value} (hj : xs[j]? = some v) : w.cell? ⟨b,o + j,none⟩ = some v := by
 obtain ⟨ad,he,hc⟩ := h j v hj
 cases he
 rwa [addr_add] at hc
theorem Rd.drop {w : World} {a : Option Addr} {xs : List Value} {c l sz : Nat} (h : Rd w a xs) (hc : c = l → xs.length ≤ l * sz) : Rd w (subA a c l sz) (xs.drop (l * sz)) := by
 by_cases hne : xs = []
 ·subst hne;simpa using Rd.nil w _
 ·obtain ⟨b,o,rfl⟩ := h.form hne
  intro j v hj
  rw [List.getElem?_drop] at hj
  have hcell := h.cell hj
  unfold subA
  by_cases hcl : c = l
  ·have := hc hcl
   have hlt := (List.getElem?_eq_some_iff.1 hj).1
   omega
  ·rw [if_neg hcl]
   refine ⟨_,rfl,?_⟩
   show w.cell? (((⟨b,o,none⟩ : Addr).add (l * sz)).add j) = some v
   rw [addr_add,addr_add,Nat.add_assoc]
   exact hcell
theorem Rd.take {w : World} {a : Option Addr} {xs : List Value} (k : Nat) (h : Rd w a xs) : Rd w a (xs.take k) := by
 intro j v hj
 rw [List.getElem?_take] at hj
 split at hj
 ·exact h j v hj
 ·cases hj
theorem size_of_slice {E : TypeId} {sz by_ : Nat} (h : SliceOf P T E sz by_) (w : World) : (sizeOf E).run P w = .ok sz w := by
 have hinf := h.inf
 cases hi : P.info? E with
 | none=>simp [hi] at hinf
 | some inf=>
  simp only [hi,Option.map_some,Option.some.injEq,Prod.mk.injEq] at hinf
  simp [sizeOf,typeInfo,hi,hinf.1]
theorem Ev.slice_lo {E : TypeId} {sz by_ k c : Nat} {q : IntKind} {a : Option Addr} {i : Int} [h : SliceOf P T E sz by_] (hx : f.ev x = .slice a k c) (hy : f.ev y = .int q i) (h0 : 0 ≤ i) (h1 : i ≤ k) :
  Ev P C f (.slice T x (some y) none none) T' (.slice (subA a c i.toNat sz) (k - i.toNat) (c - i.toNat)) := fun w _ d p af g=>by
 simp [execOp,hx,hy,Instr.sliceAt,Instr.slice,Instr.sliceBounds,Instr.sliceBound,asIntOf,run_underlying h.und,size_of_slice h,h0,h1,subA]
theorem Ev.slice_hi {E : TypeId} {sz by_ k c : Nat} {q : IntKind} {a : Option Addr} {j : Int} [h : SliceOf P T E sz by_] (hx : f.ev x = .slice a k c) (hy : f.ev y = .int q j) (h0 : 0 ≤ j) (h1 : j ≤ c) :
  Ev P C f (.slice T x none (some y) none) T' (.slice (subA a c 0 sz) j.toNat c) := fun w _ d p af g=>by
 simp [execOp,hx,hy,Instr.sliceAt,Instr.slice,Instr.sliceBounds,Instr.sliceBound,asIntOf,run_underlying h.und,size_of_slice h,h0,h1,subA]
theorem Ev.slice_lohi {E : TypeId} {sz by_ k c : Nat} {q q' : IntKind} {a : Option Addr} {i j : Int} {z : Operand} [h : SliceOf P T E sz by_] (hx : f.ev x = .slice a k c) (hy : f.ev y = .int q i) (hz : f.ev z = .int q' j) (h0 : 0 ≤ i) (h1 : i ≤ j) (h2 : j ≤ c) :
  Ev P C f (.slice T x (some y) (some z) none) T' (.slice (subA a c i.toNat sz) (j.toNat - i.toNat) (c - i.toNat)) := fun w _ d p af g=>by
 have h3 : i ≤ (j.toNat : Int) := by omega
 simp [execOp,hx,hy,hz,Instr.sliceAt,Instr.slice,Instr.sliceBounds,Instr.sliceBound,asIntOf,run_underlying h.und,size_of_slice h,h0,h2,show 0 ≤ j by omega,subA,show i ≤ max j 0 by omega]
end
section
variable {α : Type} {M : List Nat} {f g : Frm} {I : α → Prop} {vs : α → List (Nat × Value)} {D : α → World → Prop} {μ : α → Nat} {i : α} {Q : Post} {C : World → Prop}
theorem At.again (j : α) (hi : I j) (ho : Out M f g) (hh : Has g (vs j)) (hd : ∀ w,C w → D j w) (hm : μ j < μ i) : At (again M f I vs D μ i Q) .normal g C := fun w hw=>⟨j,hi,ho,hh,hd w hw,hm⟩
end
theorem St.addRd {w0 w : World} {F : Nat → Prop} {L : List Asrt} (h : St w0 F L w) {a : Option Addr} {xs : List Value} (hr : Rd w0 a xs) (hF : ∀ k,rdFoot a xs k → ¬ F k) : St w0 F (rdA a xs :: L) w :=
 h.old hr (fun k hk=>⟨hr.live k hk,hF k hk⟩) (Rd.dep a xs)
theorem St.rd1 {w : World} {a : Option Addr} {xs : List Value} (hr : Rd w a xs) : St w NoF [rdA a xs] w := (St.refl w NoF).addRd hr (fun _ _ h=>h)
theorem St.rd2 {w : World} {a b : Option Addr} {xs ys : List Value} (hr : Rd w a xs) (hs : Rd w b ys) : St w NoF [rdA a xs,rdA b ys] w := ((St.refl w NoF).addRd hs (fun _ _ h=>h)).addRd hr (fun _ _ h=>h)
def bv (l : List Int) : List Value := l.map (Value.int .u8)
@[simp] theorem bv_length (l : List Int) : (bv l).length = l.length := by simp [bv]
theorem bv_get {l : List Int} {i : Nat} (h : i < l.length) : (bv l)[i]? = some (.int .u8 l[i]) := by simp [bv,h]
@[simp] theorem bv_take (l : List Int) (k : Nat) : bv (l.take k) = (bv l).take k := by simp [bv,List.map_take]
@[simp] theorem bv_drop (l : List Int) (k : Nat) : bv (l.drop k) = (bv l).drop k := by simp [bv,List.map_drop]
theorem bv_at {l : List Int} {q i : Nat} (hq : q = i) (h : i < l.length) : (bv l)[q]? = some (.int .u8 (l[i]'h)) := by subst hq;exact bv_get h
theorem bv_one (l : List Int) : (bv l).all Value.oneCell' = true := by simp [bv,List.all_map,Function.comp_def,Value.oneCell']
def iv (l : List Int) : List Value := l.map (Value.int .i64)
@[simp] theorem iv_length (l : List Int) : (iv l).length = l.length := by simp [iv]
theorem iv_get {l : List Int} {i : Nat} (h : i < l.length) : (iv l)[i]? = some (.int .i64 l[i]) := by simp [iv,h]
section
variable {P : Program} {f : Frm} {T T' : TypeId} {x : Operand} {v : Value} {w0 : World} {F : Nat → Prop} {L : List Asrt}
theorem Ev.load_rd {b o q : Nat} {xs : List Value} [h : One P T] (hx : f.ev x = .pointer (some ⟨b,o + q,none⟩)) (hm : rdA (some ⟨b,o,none⟩) xs ∈ L) (hc : xs[q]? = some v) : Ev P (St w0 F L) f (.load T x) T' v :=
 Ev.load hx fun w hw=>(hw.rd_of hm).cell hc
theorem Ev.load_osl {b o q k c sz : Nat} {E : TypeId} {xs : List Value} [h : One P T] (hx : f.ev x = .pointer (some ⟨b,o + q,none⟩)) (hm : osl (.slice (some ⟨b,o,none⟩) k c) E sz k xs ∈ L) (hc : xs[q]? = some v) : Ev P (St w0 F L) f (.load T x) T' v :=
 Ev.load hx fun w hw=>(hw.rd_of_own hm).cell hc
end
section
variable {w0 w w' : World} {F : Nat → Prop} {R : List Asrt} {x y z : Asrt}
theorem St.merge (h : St w0 F (x :: y :: R) w) (hx : x.excl = true) (hy : y.excl = true) (hz : z.holds w) (hf : ∀ k,z.foot k → x.foot k ∨ y.foot k) (hd : z.dep) : St w0 F (z :: R) w := by
 obtain ⟨d1,d2⟩ := List.pairwise_cons.1 h.dis
 obtain ⟨d3,d4⟩ := List.pairwise_cons.1 d2
 refine ⟨h.os,h.tape,h.output,h.size,h.keep,?_,?_,?_,?_,?_⟩
 ·intro b hb;rcases List.mem_cons.1 hb with rfl | hb
  ·exact hz
  ·exact h.holds b (by simp [hb])
 ·intro b hb;rcases List.mem_cons.1 hb with rfl | hb
  ·intro k hk;rcases hf k hk with hk | hk
   ·exact h.live x (by simp) k hk
   ·exact h.live y (by simp) k hk
  ·exact h.live b (by simp [hb])
 ·intro b hb;rcases List.mem_cons.1 hb with rfl | hb
  ·intro _ k hk hlt;rcases hf k hk with hk | hk
   ·exact h.mine x (by simp) hx k hk hlt
   ·exact h.mine y (by simp) hy k hk hlt
  ·exact h.mine b (by simp [hb])
 ·refine List.pairwise_cons.2 ⟨fun b hb _ k hk hk2=>?_,d4⟩
  rcases hf k hk with hk | hk
  ·exact d1 b (by simp [hb]) (by simp [hx]) k hk hk2
  ·exact d3 b hb (by simp [hy]) k hk hk2
 ·intro b hb;rcases List.mem_cons.1 hb with rfl | hb
  ·exact hd
  ·exact h.dep b (by simp [hb])
theorem St.split (h : St w0 F (z :: R) w) (hz : z.excl = true) (hx : x.holds w) (hy : y.holds w) (hfx : ∀ k,x.foot k → z.foot k) (hfy : ∀ k,y.foot k → z.foot k) (hdis : ∀ k,x.foot k → ¬ y.foot k) (dx : x.dep) (dy : y.dep) : St w0 F (x :: y :: R) w := by
 obtain ⟨d1,d2⟩ := List.pairwise_cons.1 h.dis
 refine ⟨h.os,h.tape,h.output,h.size,h.keep,?_,?_,?_,?_,?_⟩
 ·intro b hb;rcases List.mem_cons.1 hb with rfl | hb
  ·exact hx
  ·rcases List.mem_cons.1 hb with rfl | hb
   ·exact hy
   ·exact h.holds b (by simp [hb])
 ·intro b hb;rcases List.mem_cons.1 hb with rfl | hb
  ·exact fun k hk=>h.live z (by simp) k (hfx k hk)
  ·rcases List.mem_cons.1 hb with rfl | hb
   ·exact fun k hk=>h.live z (by simp) k (hfy k hk)
   ·exact h.live b (by simp [hb])
 ·intro b hb;rcases List.mem_cons.1 hb with rfl | hb
  ·exact fun _ k hk hlt=>h.mine z (by simp) hz k (hfx k hk) hlt
  ·rcases List.mem_cons.1 hb with rfl | hb
   ·exact fun _ k hk hlt=>h.mine z (by simp) hz k (hfy k hk) hlt
   ·exact h.mine b (by simp [hb])
 ·refine List.pairwise_cons.2 ⟨fun b hb _ k hk hk2=>?_,List.pairwise_cons.2 ⟨fun b hb _ k hk hk2=>?_,d2⟩⟩
  ·rcases List.mem_cons.1 hb with rfl | hb
   ·exact hdis k hk hk2
   ·exact d1 b hb (by simp [hz]) k (hfx k hk) hk2
  ·exact d1 b hb (by simp [hz]) k (hfy k hk) hk2
 ·intro b hb;rcases List.mem_cons.1 hb with rfl | hb
  ·exact dx
  ·rcases List.mem_cons.1 hb with rfl | hb
   ·exact dy
   ·exact h.dep b (by simp [hb])
structure Step (a a' : Asrt) (w w' : World) : Prop where
 keep : Keep a.foot w w'
 holds : a'.holds w'
 foot : ∀ k,a'.foot k → a.foot k ∨ (w.heap.size ≤ k ∧ k < w'.heap.size)
theorem St.one {a : Asrt} (hh : a.holds w) (hl : ∀ k,a.foot k → k < w.heap.size) (hd : a.dep) : St w a.foot [a] w :=
 ⟨rfl,rfl,rfl,Nat.le_refl _,fun _ _ _=>rfl,fun b hb=>by simp at hb;subst hb;exact hh,fun b hb=>by simp at hb;subst hb;exact hl,fun b hb _ k hk _=>by simp at hb;subst hb;exact hk,List.pairwise_singleton _ _,fun b hb=>by simp at hb;subst hb;exact hd⟩
theorem St.step {a a' : Asrt} (h : St w a.foot (a' :: R) w') (he : a'.excl = true) : Step a a' w w' :=
 ⟨h.toKeep,h.holds a' (by simp),fun k hk=>by
  by_cases hlt : k < w.heap.size
  ·exact .inl (h.mine a' (by simp) he k hk hlt)
  ·exact .inr ⟨by omega,h.live a' (by simp) k hk⟩⟩
theorem St.did {L L' : List Asrt} {a a' : Asrt} (h : St w0 F L w) (hs : Sel L a a' L') (he : a.excl = true) (st : Step a a' w w') (hd : a'.dep) : St w0 F L' w' := h.turn hs he st.keep st.holds st.foot hd
end
theorem LR.sub {P : Program} {n : Nat} {ops l : List Oper} {Q : Post} {f : Frm} {C D : World → Prop} (hs : ∀ w,C w → D w) (h : LR false P n ops l Q f D) : LR false P n ops l Q f C := LW.sub h hs
theorem LR.back {P : Program} {n : Nat} {ops l : List Oper} {Q : Post} {f : Frm} {C : World → Prop} {w : World} (hw : C w) (h : LR false P n ops l Q f C) : LW P n ops l Q f (fun u=>u = w) := LW.sub h (fun _ e=>e ▸ hw)
theorem St.toNew {w w' : World} {L : List Asrt} {v : Value} {E : TypeId} {sz n : Nat} {xs : List Value} (h : St w NoF L w') (hm : osl v E sz n xs ∈ L) : NewSl w w' v E sz n xs :=
 ⟨h.toKeep,ownsRow_base (h.holds _ hm) (fun k hk=>Nat.le_of_not_lt fun hlt=>h.mine _ hm rfl k hk hlt)⟩
theorem Rd.none_nil {w : World} {xs : List Value} (h : Rd w none xs) : xs = [] := by
 cases xs with
 | nil=>rfl
 | cons v r=>obtain ⟨ad,he,_⟩ := h 0 v rfl;cases he
theorem bv_eq_nil {l : List Int} (h : bv l = []) : l = [] := by cases l with | nil=>rfl | cons b r=>simp [bv] at h
theorem Rd.none_len {w : World} {a : Option Addr} {l : List Int} (h : Rd w a (bv l)) (ha : a = none) : l.length = 0 := by subst ha;rw [bv_eq_nil h.none_nil];rfl
theorem NewSl.some_of {w w' : World} {a : Option Addr} {c n E sz : Nat} {xs : List Value} (h : NewSl w w' (.slice a n c) E sz n xs) : a = none → n = 0 ∧ c = 0 := by
 intro ha;subst ha
 rcases h.own.2 with ⟨he,hn⟩ | ⟨g,cap,cur,he,_⟩
 ·simp only [Value.slice.injEq] at he;exact ⟨hn,he.2.2⟩
 ·simp at he
theorem ownsRow_some {w : World} {base : Nat} {a : Option Addr} {c n E sz : Nat} {xs : List Value} (h : w.ownsRow base E sz (.slice a n c) n xs) : a = none → n = 0 ∧ c = 0 := by
 intro ha;subst ha
 rcases h.2 with ⟨he,hn⟩ | ⟨g,cap,cur,he,_⟩
 ·simp only [Value.slice.injEq] at he;exact ⟨hn,he.2.2⟩
 ·simp at he
theorem ownsRow_cap {w : World} {base : Nat} {a : Option Addr} {c n E sz : Nat} {xs : List Value} (h : w.ownsRow base E sz (.slice a n c) n xs) : n ≤ c := by
 rcases h.2 with ⟨he,hn⟩ | ⟨g,cap,cur,he,_,_,hnc,_⟩
 ·omega
 ·simp only [Value.slice.injEq] at he;omega
theorem St.cast {w0 w : World} {F : Nat → Prop} {L L' : List Asrt} (h : St w0 F L w) (e : L = L') : St w0 F L' w := e ▸ h
theorem St.tail1 {w0 w : World} {F : Nat → Prop} {L : List Asrt} {x : Asrt} (h : St w0 F (x :: L) w) : St w0 F L w := h.sub (List.sublist_cons_self x L)
theorem St.swap {w0 w : World} {F : Nat → Prop} {L : List Asrt} {x y : Asrt} (h : St w0 F (x :: y :: L) w) : St w0 F (y :: x :: L) w := by
 obtain ⟨d1,d2⟩ := List.pairwise_cons.1 h.dis
 obtain ⟨d3,d4⟩ := List.pairwise_cons.1 d2
 have hm : ∀ b,b ∈ y :: x :: L → b ∈ x :: y :: L := fun b hb=>by simp at hb ⊢;rcases hb with h | h | h <;> simp [h]
 refine ⟨h.os,h.tape,h.output,h.size,h.keep,fun b hb=>h.holds b (hm b hb),fun b hb=>h.live b (hm b hb),fun b hb=>h.mine b (hm b hb),?_,fun b hb=>h.dep b (hm b hb)⟩
 refine List.pairwise_cons.2 ⟨fun b hb hx k hk hk2=>?_,List.pairwise_cons.2 ⟨fun b hb=>d1 b (by simp [hb]),d4⟩⟩
 rcases List.mem_cons.1 hb with rfl | hb
 ·exact d1 y (by simp) (by simpa [Bool.or_comm] using hx) k hk2 hk
 ·exact d3 b hb hx k hk hk2
structure New1 (a : Asrt) (w w' : World) : Prop where
 grew : Grew w w'
 holds : a.holds w'
 foot : ∀ k,a.foot k → w.heap.size ≤ k ∧ k < w'.heap.size
theorem St.new1 {w w' : World} {R : List Asrt} {a : Asrt} (h : St w NoF (a :: R) w') (he : a.excl = true) : New1 a w w' :=
 ⟨h.toKeep,h.holds a (List.Mem.head _),fun k hk=>⟨Nat.le_of_not_lt fun hlt=>h.mine a (List.Mem.head _) he k hk hlt,h.live a (List.Mem.head _) k hk⟩⟩
theorem St.got {w0 w w' : World} {F : Nat → Prop} {L : List Asrt} {a : Asrt} (h : St w0 F L w) (hn : New1 a w w') (hd : a.dep) : St w0 F (a :: L) w' := h.push hn.grew hn.holds hn.foot hd
theorem Out.mixs {M M2 : List Nat} {f f2 g : Frm} (hs : (M2.all fun t=>M.contains t) = true) (h : Out M f f2) : Out M f (Hb.mix M2 g f2) := by
 intro t ht
 have : M2.contains t = false := by
  cases hx : M2.contains t with
  | false=>rfl
  | true=>
   have := List.all_eq_true.1 hs t (by simpa using hx)
   rw [ht] at this;cases this
 simp only [Hb.mix,this,cond_false]
 exact h t ht
theorem St.did1 {w0 w w' : World} {F : Nat → Prop} {L L' R : List Asrt} {a a' b : Asrt} (h : St w0 F L w) (hs : Sel L a a' L') (he : a.excl = true) (he' : a'.excl = true) (hb : b.excl = true) (st : St w a.foot (a' :: b :: R) w') : St w0 F (b :: L') w' := by
 have hbm : b ∈ a' :: b :: R := List.Mem.tail _ (List.Mem.head _)
 have h' := h.did hs he (st.step he') (st.dep a' (List.Mem.head _))
 refine ⟨h'.os,h'.tape,h'.output,h'.size,h'.keep,?_,?_,?_,?_,?_⟩
 ·intro x hx;rcases List.mem_cons.1 hx with rfl | hx
  ·exact st.holds _ hbm
  ·exact h'.holds x hx
 ·intro x hx;rcases List.mem_cons.1 hx with rfl | hx
  ·exact st.live _ hbm
  ·exact h'.live x hx
 ·intro x hx;rcases List.mem_cons.1 hx with rfl | hx
  ·intro _ k hk hlt
   exact h.mine a hs.mem he k (st.mine _ hbm hb k hk (Nat.lt_of_lt_of_le hlt h.size)) hlt
  ·exact h'.mine x hx
 ·refine List.pairwise_cons.2 ⟨fun x hx _=>?_,h'.dis⟩
  refine hs.others h.dis he (fun x=>∀ k,b.foot k → ¬ x.foot k) (fun _=>True) (fun _=>True) ?_ ?_ x hx
  ·obtain ⟨d1,_⟩ := List.pairwise_cons.1 st.dis
   exact fun k hk hk2=>d1 b (by simp) (by simp [he']) k hk2 hk
  ·intro y hy hap k hk hk2
   by_cases hlt : k < w.heap.size
   ·exact hap k (st.mine _ hbm hb k hk hlt) hk2
   ·exact hlt (h.live y hy k hk2)
 ·intro x hx;rcases List.mem_cons.1 hx with rfl | hx
  ·exact st.dep _ hbm
  ·exact h'.dep x hx
theorem St.osl_foot {a : Option Addr} {n c : Nat} {E sz : Nat} {xs : List Value} {k : Nat} (h : rdFoot a xs k) : (osl (.slice a n c) E sz n xs).foot k := by
 obtain ⟨_,ad,rfl,rfl⟩ := h;rfl
theorem St.perm {w0 w : World} {F : Nat → Prop} {L L' : List Asrt} (h : St w0 F L w) (hp : L.Perm L') : St w0 F L' w :=
 ⟨h.os,h.tape,h.output,h.size,h.keep,fun b hb=>h.holds b (hp.mem_iff.2 hb),fun b hb=>h.live b (hp.mem_iff.2 hb),fun b hb=>h.mine b (hp.mem_iff.2 hb),
  (hp.pairwise_iff (fun {x y} hxy hx k hk hk2=>hxy (by simpa [Bool.or_comm] using hx) k hk2 hk)).1 h.dis,fun b hb=>h.dep b (hp.mem_iff.2 hb)⟩
theorem St.rot {w0 w : World} {F : Nat → Prop} {x y z : Asrt} (h : St w0 F [x,y,z] w) : St w0 F [y,z,x] w := h.perm ((List.Perm.swap y x [z]).trans ((List.Perm.swap z x []).cons y))
theorem St.apart {w0 w : World} {F : Nat → Prop} {R : List Asrt} {x y : Asrt} (h : St w0 F (x :: R) w) (hy : y ∈ R) (he : (x.excl || y.excl) = true) : ∀ k,x.foot k → ¬ y.foot k :=
 (List.pairwise_cons.1 h.dis).1 y hy he
theorem LR.qcall_fn {P : Program} {m : Bool} {n : Nat} {ops rest : List Oper} {Q : Post} {f : Frm} {C : World → Prop} {T : TypeId} {p : String} {af : Array Edge} {d : Nat} {v : Value} {g : FuncId} {xs : List Operand} {ts : Array TypeId} {x : Operand}
  (hx : f.ev x = .func (.func g) #[] #[]) [own : Own P g] (hd : Nat.blt d n = true)
  (h : ∀ w,C w → CallsTo P g (xs.map f.ev) w fun u w'=>u = v ∧ C w') (k : LR m P n ops rest Q (upd f d v) C) :
  LR m P n ops (⟨some d,.call ⟨.value x,xs.toArray,ts⟩,T,p,af,none⟩ :: rest) Q f C :=
 LR.qcall_val (cap := []) hx hd (by simpa using h) k
def only (K : Frm → World → Prop) : Post := fun e f w=>e = .normal ∧ K f w
def lst (ops : List Oper) (done : List Nat) : Array Bool := done.foldl (fun l i=>l.setIfInBounds i true) (Array.replicate ops.length false)
theorem lst_snoc (ops : List Oper) (done : List Nat) (i : Nat) : lst ops (done ++ [i]) = (lst ops done).setIfInBounds i true := by simp [lst]
section
variable {P : Program} {n : Nat} {ops : List Oper} {Q : Post} {f : Frm} {C S : World → Prop}
theorem wpAnyH_sub {md : Region.Mode} {opsA : Array Oper} {Q : Exit → Act → World → Prop} {S S' : World → Prop} (hs : ∀ w,S' w → S w) :
  ∀ (fuel : Nat) (listed : Array Bool) (a : Act) (w : World),wpAnyH P md opsA Q S' fuel listed a w → wpAnyH P md opsA Q S fuel listed a w
 | 0,_,_,_,h=>h
 | fuel + 1,_,_,_,h=>⟨h.1,fun i hi=>wpOp_mono (fun a' w' h'=>⟨hs _ h'.1,wpAnyH_sub hs fuel _ a' w' h'.2⟩) (h.2 i hi)⟩
def DW (P : Program) (n : Nat) (ops : List Oper) (Q : Post) (done : List Nat) (S : World → Prop) (f : Frm) (C : World → Prop) : Prop :=
 ∀ w,C w → ∀ a,Fits n a f → wpAnyH P .any ops.toArray (lift n (only fun f w=>Q .normal f w)) S (ops.length - done.length) (lst ops done) a w
theorem CW.reg_held {id : Nat} (S : World → Prop) [hm : Mixed P] [hc : Drawn C] (h : DW P n ops Q [] S f C) : CW P n (.region id ops.toArray true) Q f C := by
 intro w hw a ha
 have h1 := h _ (hc.drew w hw) a ha
 have h2 := wp_region_held (id := id) hm.mixed (ops := ops.toArray) (by simpa [lst] using h1)
 refine Code.wp_mono (fun e a' w' hq=>?_) h2
 obtain ⟨f',hf',he,hq⟩ := hq
 subst he
 exact ⟨f',hf',hq⟩
theorem CW.reg_heldC {id : Nat} [hm : Mixed P] [hc : Drawn C] (h : DW P n ops Q [] C f C) : CW P n (.region id ops.toArray true) Q f C := CW.reg_held C h
def updO (f : Frm) (dst : Option Tmp) (v : Value) : Frm := match dst with | some d=>upd f d v | none=>f
def QL (P : Program) (n : Nat) (ops : List Oper) (S : World → Prop) (K : Frm → Prop) : List Nat → Frm → Prop
 | [],f=>K f
 | i :: r,f=>∃ o v,ops[i]? = some o ∧ (∀ d,o.dst = some d → d < n) ∧ (∀ a,Fits n a f → YieldsIf P ops.toArray S o v a) ∧ QL P n ops S K r (updO f o.dst v)
theorem blt_lt {a b : Nat} (h : Nat.blt a b = true) : a < b := by simpa using h
def headB (ops : Array Oper) : Array Bool → List Nat → Bool
 | _,[]=>true
 | l,i :: r=>(Region.ready .any ops l).contains i && Region.free .any ops l i && headB ops (l.setIfInBounds i true) r
theorem Fits.putO {a : Act} {f : Frm} (h : Fits n a f) (dst : Option Tmp) (v : Value) (hd : ∀ d,dst = some d → d < n) : Fits n (a.put dst v) (updO f dst v) := by
 cases dst with
 | none=>exact h
 | some d=>exact h.put v (by have := hd d rfl;simpa using this)
theorem DW.quiet_aux : ∀ (H : List Nat) (done : List Nat) (f : Frm) (C : World → Prop),headB ops.toArray (lst ops done) H = true → Region.noSelect ops.toArray = true → done.length + H.length ≤ ops.length → (∀ w,C w → S w) →
  QL P n ops S (fun f'=>DW P n ops Q (done ++ H) S f' C) H f → DW P n ops Q done S f C
 | [],done,f,C,_,_,_,_,h=>by simpa [QL] using h
 | i :: r,done,f,C,hB,hs,hl,hS,h=>by
  simp only [headB,Bool.and_eq_true] at hB
  obtain ⟨⟨h1,h2⟩,h3⟩ := hB
  obtain ⟨o,v,ho,hd,hy,hk⟩ := h
  have ih := DW.quiet_aux r (done ++ [i]) _ C (by rw [lst_snoc];exact h3) hs (by simp only [List.length_append,List.length_cons,List.length_nil] at hl ⊢;omega) hS (by simpa using hk)
  intro w hw a ha
  have ih' := ih w hw _ (ha.putO o.dst v hd)
  have e : ops.length - done.length = (ops.length - (done ++ [i]).length) + 1 := by simp only [List.length_append,List.length_cons,List.length_nil] at hl ⊢;omega
  rw [e]
  rw [lst_snoc] at ih'
  exact wpAnyH_take (by simpa using ho) hs h2 h1 (fun c a w hq=>by obtain ⟨_,_,he,_⟩ := hq;cases he) (hy a ha) (hS w hw) ih'
theorem DW.quiet (H : List Nat) {done : List Nat} (hB : (headB ops.toArray (lst ops done) H && Region.noSelect ops.toArray && Nat.ble (done.length + H.length) ops.length) = true) (hS : ∀ w,C w → S w)
  (h : QL P n ops S (fun f'=>DW P n ops Q (done ++ H) S f' C) H f) : DW P n ops Q done S f C := by
 simp only [Bool.and_eq_true] at hB
 exact DW.quiet_aux H done f C hB.1.1 hB.1.2 (Nat.le_of_ble_eq_true hB.2) hS h
section
variable {K : Frm → Prop} {r : List Nat} {i j dj d : Nat} {op : Op} {T : TypeId} {p : String} {af : Array Edge} {v : Value} {b c : Bool}
theorem QL.nil (h : K f) : QL P n ops S K [] f := h
theorem QL.ev (hi : ops[i]? = some ⟨some d,op,T,p,af,none⟩) (he : Ev P S f op T v) (hd : Nat.blt d n = true) (k : QL P n ops S K r (upd f d v)) : QL P n ops S K (i :: r) f :=
 ⟨_,v,hi,fun d' e=>by cases e;exact blt_lt hd,fun a ha=>.inl ⟨rfl,fun w hw=>by rw [ha.eval];exact he w hw _ _ _ _⟩,k⟩
theorem QL.evg (hi : ops[i]? = some ⟨some d,op,T,p,af,some (j,b)⟩) (hj : (ops[j]?).bind (·.dst) = some dj) (hb : f dj = .bool b) (he : Ev P S f op T v) (hd : Nat.blt d n = true) (k : QL P n ops S K r (upd f d v)) : QL P n ops S K (i :: r) f :=
 ⟨_,v,hi,fun d' e=>by cases e;exact blt_lt hd,fun a ha=>.inl ⟨by simp only [Region.wanted];rw [yielded_of ha hj,hb];simp,fun w hw=>by rw [ha.eval];exact he w hw _ _ _ _⟩,k⟩
theorem QL.skip_of (hi : ops[i]? = some ⟨some d,op,T,p,af,some (j,b)⟩) (hj : (ops[j]?).bind (·.dst) = some dj) (hb : ∀ b',f dj = .bool b' → b' ≠ b) (hd : Nat.blt d n = true) (k : QL P n ops S K r (upd f d undef)) : QL P n ops S K (i :: r) f :=
 ⟨_,undef,hi,fun d' e=>by cases e;exact blt_lt hd,fun a ha=>.inr ⟨by refine Bool.eq_false_iff.2 ?_;simp only [Region.wanted];rw [yielded_of ha hj];intro he;have he := eq_of_beq he;split at he;(·rename_i b' hf;cases he;exact hb _ hf rfl);(·cases he),rfl⟩,k⟩
theorem QL.split (hi : ops[i]? = some ⟨some d,op,T,p,af,some (j,b)⟩) (_hj : (ops[j]?).bind (·.dst) = some dj) (hb : f dj = .bool c)
  (yes : c = true → QL P n ops S K (i :: r) (upd f dj (.bool true))) (no : c = false → QL P n ops S K (i :: r) (upd f dj (.bool false))) : QL P n ops S K (i :: r) f := by
 cases c with
 | true=>have := yes rfl;rwa [upd_self hb] at this
 | false=>have := no rfl;rwa [upd_self hb] at this
end
def dnext (P : Program) (n : Nat) (ops : List Oper) (Q : Post) (done : List Nat) (S : World → Prop) : Post :=
 only fun f' w'=>∃ S' C' : World → Prop,C' w' ∧ (∀ w,C' w → S' w) ∧ (∀ w,S' w → S w) ∧ DW P n ops Q done S' f' C'
theorem DW.loud (i : Nat) {done : List Nat} {o : Oper} (hi : ops[i]? = some o) (hr : ((match Region.ready .any ops.toArray (lst ops done) with | [j]=>Nat.beq j i | _=>false) && Nat.blt done.length ops.length) = true)
  (h : LR false P n ops [o] (dnext P n ops Q (done ++ [i]) S) f C) : DW P n ops Q done S f C := by
 simp only [Bool.and_eq_true] at hr
 have hl : done.length < ops.length := blt_lt hr.2
 have hr1 : Region.ready .any ops.toArray (lst ops done) = [i] := by
  have := hr.1
  split at this
  ·rename_i j he;rw [he,Nat.eq_of_beq_eq_true this]
  ·cases this
 intro w hw a ha
 have e : ops.length - done.length = (ops.length - (done ++ [i]).length) + 1 := by simp only [List.length_append,List.length_cons,List.length_nil];omega
 rw [e]
 refine wpAnyH_all hr1 (by simp) fun k hk=>?_
 have hk : k = i := by simpa using hk
 subst hk
 have h1 := h w hw a ha
 have ho : ops.toArray[k]? = some o := by simpa using hi
 unfold wpOp
 simp only [ho]
 simp only [wpList] at h1
 have conv : ∀ a' w',lift n (dnext P n ops Q (done ++ [k]) S) .normal a' w' → S w' ∧ wpAnyH P .any ops.toArray (lift n (only fun f w=>Q .normal f w)) S (ops.length - (done ++ [k]).length) ((lst ops done).setIfInBounds k true) a' w' := by
  intro a' w' hq
  obtain ⟨f',hf',_,S',C',hC',hS',hSS,hD⟩ := hq
  refine ⟨hSS _ (hS' _ hC'),?_⟩
  have := hD w' hC' a' hf'
  rw [lst_snoc] at this
  exact wpAnyH_sub hSS _ _ _ _ this
 split
 ·rename_i hwn
  rw [if_pos hwn] at h1
  rcases h1 with h1 | ⟨_,a',w',f',hf',he,_⟩
  ·refine .inl ?_
   have h2 := Oper.wp_mono conv h1
   unfold Oper.wp at h2 ⊢
   generalize (execOp a.eval o).run P w = r at *
   cases r with
   | ok nx w'=>
    cases nx <;> simp only [Oper.upon] at h2 ⊢
    case value=>exact h2
    case skip=>exact h2
    case defer=>exact h2
    case enter g args=>
     refine Calls.mono h2 fun e w'' he=>?_
     cases e with
     | returned u=>exact he
     | panicked c=>obtain ⟨_,_,he,_⟩ := he;cases he
     | outgrown=>obtain ⟨_,_,_,_,he,_⟩ := he;cases he
    case row=>exact h2
   | halt x w'=>
    cases x <;> simp only [Oper.upon] at h2 ⊢
    case panic=>obtain ⟨_,_,he,_⟩ := h2;cases he
  ·cases he
 ·rename_i hwn
  rw [if_neg hwn] at h1
  exact conv _ _ h1
theorem At.stage {done : List Nat} {S S' : World → Prop} (hs : ∀ w,S' w → S w) (hc : ∀ w,C w → S' w) (h : DW P n ops Q done S' f C) : At (dnext P n ops Q done S) .normal f C := fun w hw=>⟨rfl,S',C,hw,hc,hs,h⟩
theorem At.stage_same {done : List Nat} {S : World → Prop} (hc : ∀ w,C w → S w) (h : DW P n ops Q done S f C) : At (dnext P n ops Q done S) .normal f C := At.stage (fun _ h=>h) hc h
theorem At.stage_any {done : List Nat} (h : DW P n ops Q done (fun _=>True) f C) : At (dnext P n ops Q done (fun _=>True)) .normal f C := At.stage_same (fun _ _=>trivial) h
theorem DW.done {done : List Nat} (hr : (Region.ready .any ops.toArray (lst ops done)).isEmpty = true) (h : At Q .normal f C) : DW P n ops Q done S f C :=
 fun w hw a ha=>wpAnyH_done (List.isEmpty_iff.1 hr) ⟨f,ha,rfl,h w hw⟩ _
theorem DW.done_thn {y : Code} {done : List Nat} (hr : (Region.ready .any ops.toArray (lst ops done)).isEmpty = true) (h : CW P n y Q f C) : DW P n ops (thn P n y Q) done S f C := DW.done hr (At.thn h)
end
end Go.Hb
