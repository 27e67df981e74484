import PyProof.Rows.All
import Wide.All
import OpenK.AllK
import Wide.FinOn
import PyProof.EqAt
import PyProof.EqKinds
import PyProof.TupleCall
import HandS.ForMost
import HandS.ForExc
import HandS.TryMany
import HandS.IsInst
import HandS.Flow
import HandS.Small
import HandS.CallSlots
import HandS.ExcIs
import HandS.Defaults
import HandS.Head0
import HandS.Head1
import HandS.Head2
import HandS.HeadEnd
import HandS.HeadHook1
import HandS.HeadHook2
import Lean
import PySem.Challenge.RW_tongues_k72_versions
set_option Elab.async false
set_option linter.all false
set_option maxRecDepth 100000
section
set_option maxHeartbeats 4000000
namespace Co
open PySem PySem.Spec PyProof.Rows L2
section
variable {X : Cx} {a b : Expr} {ta tb : TE} {pos : Pos}
theorem PE.imp {e : Expr} {t t' : TE} (h : PE X e t) (i : ∀ σ H Q, t' σ H Q → t σ H Q) : PE X e t' := ⟨fun pins s σ H Q I q => h.run pins s σ H Q I (i σ H Q q)⟩
theorem PT.imp {e : Expr} {t t' : TT} (h : PT X e t) (i : ∀ σ H Q, t' σ H Q → t σ H Q) : PT X e t' := ⟨fun pins s σ H Q I q => h.run pins s σ H Q I (i σ H Q q)⟩
theorem PW.imp {e : Expr} {t t' : TT} (h : PW X e t) (i : ∀ σ H Q, t' σ H Q → t σ H Q) : PW X e t' := ⟨fun wh pins s σ H Q I q => h.run wh pins s σ H Q I (i σ H Q q)⟩
theorem PS.imp {st : Stmt} {t t' : TS} (h : PS X st t) (i : ∀ D σ H, t' D σ H → t D σ H) : PS X st t' := ⟨fun pins s σ H D I q => h.run pins s σ H D I (i D σ H q)⟩
def tV (i : Nat) : TE := fun σ H Q => match σ[i]? with
  | some (some v) => Q v H
  | _ => False
theorem v_of {i : Nat} {σ : L2.St} {H : Hp} {Q : VK} (h : tV i σ H Q) : tVar i σ H Q := by
  unfold tV at h
  split at h
  · exact ⟨_, by assumption, h⟩
  · exact h.elim
theorem va (i : Nat) {x : Str} {pos : Pos} (hN : X.N[i]? = some x := by rfl) (hv : Vis X.env.scope x := by first | exact Or.inl rfl | exact Or.inr (Or.inl rfl) | exact Or.inr (Or.inr rfl)) (hd : (x == ("__debug__" : Str)) = false := by decide)
    (hcd : (x == ("__classdict__" : Str)) = false := by decide) : PE X (.Name x pos) (tV i) := PE.imp (pe_var hN hv hd hcd) fun _ _ _ => v_of
theorem OpR.imp {f : Value → Value → Sem Value} {r r' : R2} (h : OpR X f r) (i : ∀ x y H Q, r' x y H Q → r x y H Q) : OpR X f r' := fun pins s σ H x y v u Q I rx ry q => h pins s σ H x y v u Q I rx ry (i _ _ _ _ q)
theorem CallR.imp {f : Value} {r r' : List V → Hp → VK → Prop} (h : CallR X f r) (i : ∀ xs H Q, r' xs H Q → r xs H Q) : CallR X f r' := fun pins s σ H xs us Q I rx q => h pins s σ H xs us Q I rx (i _ _ _ q)
def fII (g : Int → Int → V) : R2 := fun x y H Q => match x, y with
  | .int i, .int j => Q (g i j) H
  | _, _ => False
theorem fII_of {g : Int → Int → V} {x y : V} {H : Hp} {Q : VK} (h : fII g x y H Q) : rI0 g x y H Q := by
  unfold fII at h
  split at h
  · exact ⟨_, _, rfl, rfl, h⟩
  · exact h.elim
def fIC (C : Int → Int → Prop) (g : Int → Int → V) : R2 := fun x y H Q => match x, y with
  | .int i, .int j => C i j ∧ Q (g i j) H
  | _, _ => False
theorem fIC_of {C : Int → Int → Prop} {g : Int → Int → V} {x y : V} {H : Hp} {Q : VK} (h : fIC C g x y H Q) : rI C g x y H Q := by
  unfold fIC at h
  split at h
  · exact ⟨_, _, rfl, rfl, h.1, h.2⟩
  · exact h.elim
def fAdd : R2 := fII fun i j => .int (i + j)
def fSub : R2 := fII fun i j => .int (i - j)
def fMul : R2 := fIC CMul fun i j => .int (i * j)
def fMod : R2 := fIC (fun _ j => 0 < j) fun i j => .int (i % j)
def fDiv : R2 := fIC CDiv fun i j => .int (i / j)
def fPow : R2 := fIC CPow fun i j => .int (i ^ j.toNat)
theorem o_add : OpR X (binaryOp .Add) fAdd := OpR.imp op_add fun _ _ _ _ => fII_of
theorem o_sub : OpR X (binaryOp .Sub) fSub := OpR.imp op_sub fun _ _ _ _ => fII_of
theorem o_mul : OpR X (binaryOp .Mult) fMul := OpR.imp op_mul fun _ _ _ _ => fIC_of
theorem o_mod : OpR X (binaryOp .Mod) fMod := OpR.imp op_mod fun _ _ _ _ => fIC_of
theorem o_div : OpR X (binaryOp .FloorDiv) fDiv := OpR.imp op_fdiv fun _ _ _ _ => fIC_of
theorem o_pow : OpR X (binaryOp .Pow) fPow := OpR.imp op_pow fun _ _ _ _ => fIC_of
def fLt : R2 := fII fun i j => .bl (decide (i < j))
def fLe : R2 := fII fun i j => .bl (decide (i ≤ j))
def fGt : R2 := fII fun i j => .bl (decide (j < i))
def fGe : R2 := fII fun i j => .bl (decide (j ≤ i))
theorem o_lt : OpR X (compareOp .Lt) fLt := OpR.imp op_lt fun _ _ _ _ => fII_of
theorem o_le : OpR X (compareOp .LtE) fLe := OpR.imp op_le fun _ _ _ _ => fII_of
theorem o_gt : OpR X (compareOp .Gt) fGt := OpR.imp op_gt fun _ _ _ _ => fII_of
theorem o_ge : OpR X (compareOp .GtE) fGe := OpR.imp op_ge fun _ _ _ _ => fII_of
def fAddS : R2 := fun x y H Q => match x, y with
  | .str i, .str j => i.length + j.length ≤ sizeLine ∧ Q (.str (i ++ j)) H
  | _, _ => False
theorem o_addS : OpR X (binaryOp .Add) fAddS := OpR.imp op_add_str fun x y H Q h => by
  unfold fAddS at h
  split at h
  · exact ⟨_, _, rfl, rfl, h.1, h.2⟩
  · exact h.elim
def eqS : V → V → Option Bool
  | .non, .non => some true | .non, .int _ => some false | .int _, .non => some false | .non, .bl _ => some false | .bl _, .non => some false | .non, .str _ => some false | .str _, .non => some false
  | .int i, .int j => some (decide (i = j)) | .bl i, .bl j => some (decide (i = j)) | .str i, .str j => some (decide (i = j))
  | .int _, .str _ => some false | .str _, .int _ => some false | .bl _, .str _ => some false | .str _, .bl _ => some false
  | _, _ => none
theorem eqS_of {x y : V} {b : Bool} (h : eqS x y = some b) : scal x y = true ∧ decide (x = y) = b := by
  cases x <;> cases y <;> simp only [eqS, Option.some.injEq, reduceCtorEq] at h <;> subst h <;> simp [scal]
def fEq : R2 := fun x y H Q => match eqS x y with
  | some b => Q (.bl b) H
  | none => False
def fNe : R2 := fun x y H Q => match eqS x y with
  | some b => Q (.bl (!b)) H
  | none => False
theorem o_eq : OpR X (compareOp .Eq) fEq := OpR.imp op_eq fun x y H Q h => by
  unfold fEq at h
  split at h
  · rename_i b e
    obtain ⟨h1, h2⟩ := eqS_of e
    exact ⟨h1, by rw [h2]; exact h⟩
  · exact h.elim
theorem o_ne : OpR X (compareOp .NotEq) fNe := OpR.imp op_ne fun x y H Q h => by
  unfold fNe at h
  split at h
  · rename_i b e
    obtain ⟨h1, h2⟩ := eqS_of e
    exact ⟨h1, by rw [h2]; exact h⟩
  · exact h.elim
def fNeg : V → Hp → VK → Prop := fun x H Q => match x with
  | .int i => Q (.int (-i)) H
  | _ => False
theorem u_neg : UnR X (unaryOp .USub) fNeg := fun pins s σ H x v Q I r h => by
  unfold fNeg at h
  split at h
  · exact un_neg pins s σ H _ v Q I r ⟨_, rfl, h⟩
  · exact h.elim
def fIsN : V → V := fun x => match x with
  | .non => .bl true
  | _ => .bl false
theorem fIsN_eq (x : V) : fIsN x = .bl (decide (x = .non)) := by cases x <;> simp [fIsN]
def tIs (ta : TE) : TE := fun σ H Q => ta σ H fun x H1 => Q (fIsN x) H1
def fNotN : V → V := fun x => match x with
  | .non => .bl false
  | _ => .bl true
theorem fNotN_eq (x : V) : fNotN x = .bl (!decide (x = .non)) := by cases x <;> simp [fNotN]
def tNt (ta : TE) : TE := fun σ H Q => ta σ H fun x H1 => Q (fNotN x) H1
theorem e_isN {j pos' pos} (ha : PE X a ta) : PE X (.Compare a [.Is] [.Constant .none j pos'] pos) (tIs ta) := PE.imp (pe_cmp (pc_isN ha)) fun σ H Q h => by
  unfold tIs at h
  simp only [fIsN_eq] at h
  exact h
theorem e_notN {j pos' pos} (ha : PE X a ta) : PE X (.Compare a [.IsNot] [.Constant .none j pos'] pos) (tNt ta) := PE.imp (pe_cmp (pc_notN ha)) fun σ H Q h => by
  unfold tNt at h
  simp only [fNotN_eq] at h
  exact h
def tBo (t : TE) : TT := fun σ H Q => t σ H fun x H1 => match x with
  | .bl c => Q c H1
  | _ => False
theorem bl_fun {Q : Bool → Hp → Prop} : (fun (x : V) (H1 : Hp) => ∃ c, x = .bl c ∧ Q c H1) = fun x H1 => match x with
  | .bl c => Q c H1
  | _ => False := by
  funext x H1
  cases x <;> simp
theorem t_val {e : Expr} {t : TE} (h : PE X e t) (he : ∀ whole, isTrue e X.env whole = (do let v ← whole; standAt e.pos; holding [v] (truthy v)) := by intro _; rfl) : PT X e (tBo t) := PT.imp (pt_val h he) fun σ H Q h => by
  unfold tB
  rw [bl_fun]
  exact h
theorem t_cmp {op : CmpOp} {r : R2} (ho : OpR X (compareOp op) r) (ha : PE X a ta) (hb : PE X b tb) (hm : behindInMarks op b = false) : PT X (.Compare a [op] [b] pos) (tBo (tOp r ta tb)) := PT.imp (pt_cmpR ho ha hb hm) fun σ H Q h => by
  unfold tTest
  rw [bl_fun]
  exact h
def two (c : Bool) (p q : Prop) : Prop := (c = true → p) ∧ (c = false → q)
theorem two_eq {c : Bool} {p q : Prop} : (if c = true then p else q) = two c p q := by
  cases c <;> simp [two]
theorem twoT {p q : Prop} (h : p) : two true p q := ⟨fun _ => h, fun e => nomatch e⟩
theorem twoF {p q : Prop} (h : q) : two false p q := ⟨fun e => (nomatch e), fun _ => h⟩
theorem two_of {c : Bool} {p q : Prop} (h1 : c = true → p) (h2 : c = false → q) : two c p q := ⟨h1, h2⟩
def uAnd (t u : TT) : TT := fun σ H Q => t σ H fun c H1 => two c (u σ H1 Q) (Q false H1)
def uOr (t u : TT) : TT := fun σ H Q => t σ H fun c H1 => two c (Q true H1) (u σ H1 Q)
theorem w_and {tA tB' : TT} {rest : List Expr} (ha : PT X a tA) (hb : PW X (.BoolOp .And (b :: rest) pos) tB') : PW X (.BoolOp .And (a :: b :: rest) pos) (uAnd tA tB') := PW.imp (pw_and ha hb) fun σ H Q h => by
  unfold tAnd
  simp only [two_eq]
  exact h
theorem w_or {tA tB' : TT} {rest : List Expr} (ha : PT X a tA) (hb : PW X (.BoolOp .Or (b :: rest) pos) tB') : PW X (.BoolOp .Or (a :: b :: rest) pos) (uOr tA tB') := PW.imp (pw_or ha hb) fun σ H Q h => by
  unfold tOr
  simp only [two_eq]
  exact h
def bv (x : V) (k : Bool → Prop) : Prop := match x with
  | .bl c => k c
  | _ => False
theorem bv_eq {x : V} {k : Bool → Prop} : (∃ c, x = .bl c ∧ k c) = bv x k := by cases x <;> simp [bv]
def uAndV (ta tb : TE) : TE := fun σ H Q => ta σ H fun x H1 => bv x fun c => two c (tb σ H1 Q) (Q (.bl false) H1)
def uOrV (ta tb : TE) : TE := fun σ H Q => ta σ H fun x H1 => bv x fun c => two c (Q (.bl true) H1) (tb σ H1 Q)
def uNotV (ta : TE) : TE := fun σ H Q => ta σ H fun x H1 => bv x fun c => Q (.bl (!c)) H1
theorem e_and {rest : List Expr} (ha : PE X a ta) (hb : PE X (.BoolOp .And (b :: rest) pos) tb) : PE X (.BoolOp .And (a :: b :: rest) pos) (uAndV ta tb) := PE.imp (pe_and ha hb) fun σ H Q h => by
  unfold tAndV
  simp only [bv_eq, two_eq]
  exact h
theorem e_or {rest : List Expr} (ha : PE X a ta) (hb : PE X (.BoolOp .Or (b :: rest) pos) tb) : PE X (.BoolOp .Or (a :: b :: rest) pos) (uOrV ta tb) := PE.imp (pe_or ha hb) fun σ H Q h => by
  unfold tOrV
  simp only [bv_eq, two_eq]
  exact h
theorem e_not (ha : PE X a ta) : PE X (.UnaryOp .Not a pos) (uNotV ta) := PE.imp (pe_not ha) fun σ H Q h => by
  unfold tNotV
  simp only [bv_eq]
  exact h
def uIf (t : TT) (ta tb : TE) : TE := fun σ H Q => t σ H fun c H1 => two c (ta σ H1 Q) (tb σ H1 Q)
theorem e_if {c : Expr} {tA : TT} (hc : PT X c tA) (ha : PE X a ta) (hb : PE X b tb) : PE X (.IfExp c a b pos) (uIf tA ta tb) := PE.imp (pe_ifExp hc ha hb) fun σ H Q h => by
  unfold tIf
  simp only [two_eq]
  exact h
def uIfS (c : TT) (t u : TS) : TS := fun D σ H => c σ H fun b H1 => two b (t D σ H1) (u D σ H1)
theorem s_if {c : Expr} {p q : List Stmt} {tc : TT} {t u : TS} (hc : PT X c tc) (ha : PSs X p t) (hb : PSs X q u) : PS X (.If c p q pos) (uIfS tc t u) := PS.imp (ps_if hc ha hb) fun D σ H h => by
  unfold tIfS
  simp only [two_eq]
  exact h
def uChain (r r' : R2) (ta tb tc : TE) : TE := fun σ H Q => ta σ H fun x H1 => tb σ H1 fun y H2 => r x y H2 fun z H3 => bv z fun k => two k (tc σ H3 fun w' H4 => r' y w' H4 Q) (Q (.bl false) H3)
theorem e_chain {op op' : CmpOp} {r r' : R2} {c : Expr} {tc : TE} (ho : OpR X (compareOp op) r) (ho' : OpR X (compareOp op') r') (ha : PE X a ta) (hb : PE X b tb) (hc : PE X c tc)
    (hm : lastMarks [op, op'] [b, c] = false := by with_unfolding_all rfl) : PE X (.Compare a [op, op'] [b, c] pos) (uChain r r' ta tb tc) := PE.imp (pe_chain ho ho' ha hb hc hm) fun σ H Q h => by
  unfold tChain
  simp only [bv_eq, two_eq]
  exact h
theorem t_chain {op op' : CmpOp} {r r' : R2} {c : Expr} {tc : TE} (ho : OpR X (compareOp op) r) (ho' : OpR X (compareOp op') r') (ha : PE X a ta) (hb : PE X b tb) (hc : PE X c tc)
    (hm : lastMarks [op, op'] [b, c] = false := by with_unfolding_all rfl) : PT X (.Compare a [op, op'] [b, c] pos) (tBo (uChain r r' ta tb tc)) := PT.imp (pt_chain ho ho' ha hb hc hm) fun σ H Q h => by
  unfold tTest tChain
  simp only [bl_fun, bv_eq, two_eq]
  exact h
def cInt : List V → Hp → VK → Prop := fun xs H Q => match xs with
  | [.int i] => Q (.int i) H
  | [.bl k] => Q (.int (if k then 1 else 0)) H
  | _ => False
theorem c_int : CallR X (.type "int") cInt := CallR.imp call_int1 fun xs H Q h => by
  unfold cInt at h
  split at h
  · exact .inl ⟨_, rfl, h⟩
  · exact .inr ⟨_, rfl, h⟩
  · exact h.elim
end
structure Def (P : Program) (w : World) (K : PySem.W.Frag) (mg : Str → Option Value) (base : Heap) (k : Nat) (f : Addr) (ps : List Str) (sp : Sp) : Prop where
  ex : ∃ fd, FnOk P w K mg base (L2.CX P w) k f fd ps sp ∧ Binds K fd ps []
  kp : PySem.W.keepIn K (.ref f) = true
section
variable {P : Program} {w : World} {K : PySem.W.Frag} {mg : Str → Option Value} {base : Heap} {k : Nat} {f : Addr} {ps : List Str} {sp : Sp}
theorem Def.mono {j : Nat} (d : Def P w K mg base j f ps sp) (h : j ≤ k) : Def P w K mg base k f ps sp := ⟨let ⟨fd, F, b⟩ := d.ex; ⟨fd, F.mono h, b⟩, d.kp⟩
theorem Def.imp {sp' : Sp} (d : Def P w K mg base k f ps sp) (h : ∀ vs H Q E, sp' vs H Q E → sp vs H Q E) : Def P w K mg base k f ps sp' := ⟨let ⟨fd, F, b⟩ := d.ex; ⟨fd, F.imp h, b⟩, d.kp⟩
theorem Def.of {x qual : Str} {params : Arguments} {body : List Stmt} {scope : Scope} {fd : FuncData} {N : List Str} (F : FunD K x qual params body scope [] [] f fd) (S : FnScope N ps scope)
    (hb : ∀ (kV doc pm : Value) (an : Option Addr) (cdv ct : Value) (us : List Value), us.length = ps.length → bindArgs (PySem.W.fnOf x qual params body scope .none kV doc pm an cdv ct) ⟨us, []⟩ = pure (ps.zip us))
    (len : ∀ vs H Q E, sp vs H Q E → vs.length = ps.length)
    (hbody : ∀ (cdv : Value) (A : Around) (outer : List Env) (s : Shared) (H : Hp) (vs : List V) (Q : VK) (E : XK), Room k (A.deeper (envOfC qual scope s.heap.objs.size f cdv)) → sp vs H Q E →
      ∃ t, PSs (cxOf (L2.CX P w) P w K mg base N qual scope f cdv A outer s H E) body t ∧ t { nx := fun _ H' => Q .non H', rt := Q } (start N vs) H) : Def P w K mg base (k + 1) f ps sp :=
  ⟨⟨fd, F.ok S len hbody, FunD.bindsN F hb⟩, F.kp⟩
theorem Def.zero {x qual : Str} {params : Arguments} {body : List Stmt} {scope : Scope} {fd : FuncData} (F : FunD K x qual params body scope [] [] f fd)
    (hb : ∀ (kV doc pm : Value) (an : Option Addr) (cdv ct : Value) (us : List Value), us.length = ps.length → bindArgs (PySem.W.fnOf x qual params body scope .none kV doc pm an cdv ct) ⟨us, []⟩ = pure (ps.zip us)) : Def P w K mg base 0 f ps (fun _ _ _ _ => False) :=
  ⟨⟨fd, ⟨fun _ _ _ _ h => h.elim, fun _ _ _ _ _ _ _ _ _ _ _ _ _ h => h.elim⟩, FunD.bindsN F hb⟩, F.kp⟩
end
section
variable {X : Cx} {k : Nat} {f C : Addr} {ps : List Str} {sp : Sp} {E : XK} {x m : Str} {p pos apos : Pos} {e o : Expr} {es : List Expr} {ta : TE} {t : TA}
def uCall (sp : Sp) (E : XK) (t : TA) : TE := fun σ H Q => t σ H fun vs H1 => sp vs H1 Q E
theorem e_call (d : Def X.prog X.w X.K X.mg X.base k f ps sp) (hr : Room k X.A) (hg : Gl X x) (hm : X.mg x = some (.ref f)) (hx : Passes (L2.CX X.prog X.w) X E)
    (ha : PA X (e :: es) t) (hdb : (x == ("__debug__" : Str)) = false := by decide) (he : starEach (e :: es) X.env = (false, eval e X.env) :: starEach es X.env := by rfl) (hpl : (backTo pos (starEach es X.env)).any (·.1) = false := by rfl) :
    PE X (.Call (.Name x p) (e :: es) [] pos) (uCall sp E t) := by
  obtain ⟨fd, F, b⟩ := d.ex
  refine PE.imp (pe_call (pos := pos) (p := p) F hr hg hm d.kp b .nil hx ha hdb he hpl) fun σ H Q h => ?_
  unfold tCall
  simp only [List.append_nil]
  exact h
theorem e_call0 (d : Def X.prog X.w X.K X.mg X.base k f ps sp) (hr : Room k X.A) (hg : Gl X x) (hm : X.mg x = some (.ref f)) (hx : Passes (L2.CX X.prog X.w) X E)
    (hdb : (x == ("__debug__" : Str)) = false := by decide) : PE X (.Call (.Name x p) [] [] pos) (uCall sp E tNil) := by
  obtain ⟨fd, F, b⟩ := d.ex
  exact PE.imp (pe_call0 F hr hg hm d.kp b .nil hx hdb) fun σ H Q h => h
def uCallS (sp : Sp) (E : L2.St → XK) (t : TA) : TE := fun σ H Q => t σ H fun vs H1 => sp vs H1 Q (E σ)
theorem e_callS {E : L2.St → XK} (d : Def X.prog X.w X.K X.mg X.base k f ps sp) (hr : Room k X.A) (hg : Gl X x) (hm : X.mg x = some (.ref f)) (hx : ∀ σ, PassesAt (L2.CX X.prog X.w) X σ (E σ))
    (ha : PA X (e :: es) t) (hdb : (x == ("__debug__" : Str)) = false := by decide) (he : starEach (e :: es) X.env = (false, eval e X.env) :: starEach es X.env := by rfl) (hpl : (backTo pos (starEach es X.env)).any (·.1) = false := by rfl) :
    PE X (.Call (.Name x p) (e :: es) [] pos) (uCallS sp E t) := by
  obtain ⟨fd, F, b⟩ := d.ex
  exact pe_callS F hr hg hm d.kp b hx ha hdb he hpl
def uMeth (C : Addr) (m : Str) (sp : Sp) (E : L2.St → XK) (ta : TE) (t : TA) : TE := fun σ H Q => ta σ H fun x H1 => ∃ a dx fs, x = .ref a ∧ H1 a = some (.ins C dx fs) ∧ fs.lookup m = none ∧ t σ H1 fun vs H2 => sp (x :: vs) H2 Q (E σ)
theorem e_meth {pl : Sem Bool} {E : L2.St → XK} (he : PE X o ta) (c : Cls X.K C) (hm : Meth X.K C m f) (d : Def X.prog X.w X.K X.mg X.base k f ps sp) (hr : Room k X.A) (hx : ∀ σ, PassesAt (L2.CX X.prog X.w) X σ (E σ)) (ha : PA X (e :: es) t)
    (hst : starEach (e :: es) X.env = (false, eval e X.env) :: starEach es X.env := by rfl) (hpl : (backTo pos (starEach es X.env)).any (·.1) = false := by rfl)
    (ht : eval (.Call (.Attribute o m apos) (e :: es) [] pos) X.env = (do
      let ov ← eval o X.env
      standAt apos.atName
      let (f, first) ← holding [ov] (getMethod ov m pl)
      callWith pos f first (backTo pos (starEach (e :: es) X.env)) (backToKw pos (keywordEach [] X.env))) := by rfl) :
    PE X (.Call (.Attribute o m apos) (e :: es) [] pos) (uMeth C m sp E ta t) := by
  obtain ⟨fd, F, b⟩ := d.ex
  refine ⟨fun pins s σ H Q I h => ?_⟩
  refine PySem.W.methodCall_KW (pl := pl) (thn (he.run pins s σ H _ I h) fun u s1 ⟨x, H1, I1, rx, a, dx, fs, ex, ea, l, q⟩ => ?_) ht
  subst ex
  obtain rfl : u = Value.ref a := rx
  refine getmeth_ok I1 ea c hm l ?_
  refine PySem.W.callWith_K (first := [.ref a]) (h₀ := X.base) I.ok.mod.kin hm.kp (thn (ha.run pos pins s1 σ H1 _ I1 q) fun us s2 ⟨vs, H2, I2, r, q2⟩ => ⟨I2.kIn, ?_⟩) hst hpl
  exact run_fnS (us := .ref a :: us) (vs := .ref a :: vs) F hr b (hx σ) I2 (.cons rfl r) q2
theorem e_meth0 {pl : Sem Bool} {E : L2.St → XK} (he : PE X o ta) (c : Cls X.K C) (hm : Meth X.K C m f) (d : Def X.prog X.w X.K X.mg X.base k f ps sp) (hr : Room k X.A) (hx : ∀ σ, PassesAt (L2.CX X.prog X.w) X σ (E σ))
    (ht : eval (.Call (.Attribute o m apos) [] [] pos) X.env = (do
      let ov ← eval o X.env
      standAt apos.atName
      let (f, first) ← holding [ov] (getMethod ov m pl)
      callWith pos f first (backTo pos (starEach [] X.env)) (backToKw pos (keywordEach [] X.env))) := by rfl) :
    PE X (.Call (.Attribute o m apos) [] [] pos) (uMeth C m sp E ta tNil) := by
  obtain ⟨fd, F, b⟩ := d.ex
  refine ⟨fun pins s σ H Q I h => ?_⟩
  refine PySem.W.methodCall_KW (pl := pl) (thn (he.run pins s σ H _ I h) fun u s1 ⟨x, H1, I1, rx, a, dx, fs, ex, ea, l, q⟩ => ?_) ht
  subst ex
  obtain rfl : u = Value.ref a := rx
  refine getmeth_ok I1 ea c hm l ?_
  exact PySem.W.callWith_K0 (first := [.ref a]) I1.kIn hm.kp (run_fnS (us := [.ref a]) (vs := [.ref a]) F hr b (hx σ) I1 (.cons rfl .nil) q)
theorem pass_none {σ : L2.St} {W : L2.St → XK} (h : ∀ σ c d H, ¬ W σ c d H) : PassesAt (L2.CX X.prog X.w) X σ (W σ) := fun _ _ _ _ _ _ c => by
  obtain ⟨_, _, _, _, _, _, _, _, _, _, _, _, z⟩ := c
  exact (h _ _ _ _ z).elim
theorem mk_own0 {bmB : List Value} {B newId initId : String} (F : ExcBaseFacts B newId initId bmB) (q : PySem.W.excIn X.K C bmB newId = true) (gC : X.mg x = some (.ref C)) (kC : PySem.W.keepIn X.K (.ref C) = true) (r : Raises X (.ref C)) (hg : Gl X x)
    (hdb : (x == ("__debug__" : Str)) = false := by decide) : PMk X (.Call (.Name x p) [] [] pos) (fun _ H Q => Q (.ref C) none H) := by
  intro pins s σ H Q I h
  refine wpAny_Call_Name_kw (ld_glob I hg gC ?_ hdb)
  refine PySem.W.callWith_K0 I.kIn kC ?_
  show wpAny _ _ (call (.ref C) []) _ _ _
  obtain ⟨bm, N, nm, qn, bs, hdct, sn, sub, ab, col, dd, k0, k1, k2, k3, k5, mN, hC, hN, hni, T⟩ := exc_obj I.kIn q
  refine wpAny_call_exc_subT F T hC hN hni (fun h' e hm => ?_) (by show 0 ≤ sizeLine; rw [sizeLine_eq]; omega)
  exact mk_of I hm r h (I.hok.gone hm.new)
end
end Co
end

section
set_option maxHeartbeats 4000000
namespace Co
open PySem PySem.Spec PyProof.Rows L2
abbrev St := L2.St
section
variable {X : Cx} {a b : Expr} {ta tb : TE} {pos : Pos}
theorem t_pc {op : CmpOp} {t : TE} (h : PC X op a b t) (h1 : behindInMarks op b = false := by first | exact nobehind _ (by decide) (by decide) | rfl) : PT X (.Compare a [op] [b] pos) (tBo t) := PT.imp (pt_cmp h h1) fun σ H Q h => by
  unfold tB
  rw [bl_fun]
  exact h
theorem t_isN {j pos' pos} (ha : PE X a ta) : PT X (.Compare a [.Is] [.Constant .none j pos'] pos) (tBo (tIs ta)) := PT.imp (pt_cmp (pc_isN ha)) fun σ H Q h => by
  unfold tB
  rw [bl_fun]
  unfold tBo tIs at h
  simp only [fIsN_eq] at h
  exact h
theorem t_notN {j pos' pos} (ha : PE X a ta) : PT X (.Compare a [.IsNot] [.Constant .none j pos'] pos) (tBo (tNt ta)) := PT.imp (pt_cmp (pc_notN ha)) fun σ H Q h => by
  unfold tB
  rw [bl_fun]
  unfold tBo tNt at h
  simp only [fNotN_eq] at h
  exact h
def tTru (K : PySem.W.Frag) (ta : TE) : TT := fun σ H Q => ta σ H fun x H' => ∃ k, TruV K x H' k ∧ Q k H'
def sRaise (W : WX) (c : Value) : TS := fun _ σ H => W c none σ H
def uMake (C : Addr) (sp : Sp) (E : XK) (t : TA) : TE := fun σ H Q => t σ H fun vs H1 => ∀ x dx, H1 x = none → H1 dx = none → dx ≠ x →
  sp (.ref x :: vs) (upd (upd H1 dx (.own x)) x (.ins C dx [])) (fun v H2 => v = .non ∧ Q (.ref x) H2) E
theorem e_make {k : Nat} {f C : Addr} {ps : List Str} {sp : Sp} {E : XK} {x : Str} {p pos : Pos} {e : Expr} {es : List Expr} {t : TA} (M : Mk X.K C f) (d : Def X.prog X.w X.K X.mg X.base k f ps sp) (hr : Room (k + 1) X.A) (hg : Gl X x) (hm : X.mg x = some (.ref C)) (hx : Passes (L2.CX X.prog X.w) X E)
    (ha : PA X (e :: es) t) (hdb : (x == ("__debug__" : Str)) = false := by decide) (he : starEach (e :: es) X.env = (false, eval e X.env) :: starEach es X.env := by rfl) (hpl : (backTo pos (starEach es X.env)).any (·.1) = false := by rfl) :
    PE X (.Call (.Name x p) (e :: es) [] pos) (uMake C sp E t) := by
  obtain ⟨fd, F, b⟩ := d.ex
  refine PE.imp (pe_make (pos := pos) (p := p) M F hr hg hm b .nil hx ha hdb he hpl) fun σ H Q h => ?_
  unfold tMake
  simp only [List.append_nil]
  exact h
theorem e_make0 {k : Nat} {f C : Addr} {ps : List Str} {sp : Sp} {E : XK} {x : Str} {p pos : Pos} (M : Mk X.K C f) (d : Def X.prog X.w X.K X.mg X.base k f ps sp) (hr : Room (k + 1) X.A) (hg : Gl X x) (hm : X.mg x = some (.ref C)) (hx : Passes (L2.CX X.prog X.w) X E)
    (hdb : (x == ("__debug__" : Str)) = false := by decide) : PE X (.Call (.Name x p) [] [] pos) (uMake C sp E tNil) := by
  obtain ⟨fd, F, b⟩ := d.ex
  refine PE.imp (pe_make0 (pos := pos) (p := p) M F hr hg hm b .nil hx hdb) fun σ H Q h => ?_
  exact h
def cMin2 : List V → Hp → VK → Prop := fun xs H Q => match xs with
  | [.int i, .int j] => Q (.int (if j < i then j else i)) H
  | _ => False
theorem c_min2 (hc : X.calm = true) : CallR X (.builtin "min") cMin2 := CallR.imp (call_min2 hc) fun xs H Q h => by
  unfold cMin2 at h
  split at h
  · exact ⟨_, _, rfl, h⟩
  · exact h.elim
def cMax2 : List V → Hp → VK → Prop := fun xs H Q => match xs with
  | [.int i, .int j] => Q (.int (if j > i then j else i)) H
  | _ => False
theorem c_max2 (hc : X.calm = true) : CallR X (.builtin "max") cMax2 := CallR.imp (call_max2 hc) fun xs H Q h => by
  unfold cMax2 at h
  split at h
  · exact ⟨_, _, rfl, h⟩
  · exact h.elim
def cLenS : List V → Hp → VK → Prop := fun xs H Q => match xs with
  | [.str z] => z.length ≤ sizeLine ∧ Q (.int z.length) H
  | _ => False
theorem c_lenS : CallR X (.builtin "len") cLenS := CallR.imp call_len_str fun xs H Q h => by
  unfold cLenS at h
  split at h
  · exact ⟨_, rfl, h.1, h.2⟩
  · exact h.elim
def rLenQ (K : PySem.W.Frag) : List V → Hp → VK → Prop := fun xs H Q => ∃ p ys, xs = [.ref p] ∧ (SqL K H p ys ∨ SqT K H p ys) ∧ Q (.int ys.length) H
def rLenD : List V → Hp → VK → Prop := fun xs H Q => ∃ a kvs, xs = [V.ref a] ∧ H a = some (.dK kvs) ∧ Q (.int kvs.length) H
def rTupOf (K : PySem.W.Frag) : List V → Hp → VK → Prop := fun xs H Q => ∃ p ys, xs = [.ref p] ∧ ((SqL K H p ys ∧ ∀ l, H l = none → Q (.ref l) (upd H l (.tup ys))) ∨ (SqT K H p ys ∧ Q (.ref p) H))
def rListOf (K : PySem.W.Frag) : List V → Hp → VK → Prop := fun xs H Q => ∃ p ys, xs = [.ref p] ∧ (SqL K H p ys ∨ SqT K H p ys) ∧ ∀ l, H l = none → Q (.ref l) (upd H l (.lst ys))
def tJoin (K : PySem.W.Frag) (ts tl : TE) : TE := fun σ H Q => ts σ H fun x H1 => (∃ z, x = .str z) ∧ tl σ H1 fun y H2 => ∃ (a : Str) (p : Addr) (ys : List Str), x = .str a ∧ y = .ref p ∧ (SqL K H2 p (ys.map V.str) ∨ SqT K H2 p (ys.map V.str)) ∧ True ∧ Q (.str (Txt.join a ys)) H2
def isiS : V → String → Option Bool
  | .non, c => if c = "tuple" ∨ c = "list" ∨ c = "dict" ∨ c = "int" ∨ c = "str" ∨ c = "bool" then some false else none
  | .bl _, c => if c = "bool" ∨ c = "int" then some true else if c = "tuple" ∨ c = "list" ∨ c = "dict" ∨ c = "str" then some false else none
  | .int _, c => if c = "int" then some true else if c = "tuple" ∨ c = "list" ∨ c = "dict" ∨ c = "str" ∨ c = "bool" then some false else none
  | .str _, c => if c = "str" then some true else if c = "tuple" ∨ c = "list" ∨ c = "dict" ∨ c = "int" ∨ c = "bool" then some false else none
  | _, _ => none
def isiR (t c : String) : Prop := (t = "list" ∨ t = "tuple" ∨ t = "dict") ∧ (c = "tuple" ∨ c = "list" ∨ c = "dict" ∨ c = "int" ∨ c = "str" ∨ c = "bool")
def cIsi (K : PySem.W.Frag) : List V → Hp → VK → Prop := fun xs H Q => match xs with
  | [.ref p, .ty c] => ∃ t, TyX K H (.ref p) (.type t) ∧ isiR t c ∧ Q (.bl (decide (t = c))) H
  | [x, .ty c] => (match isiS x c with
    | some b => Q (.bl b) H
    | none => False)
  | _ => False
theorem isi_kit {K : PySem.W.Frag} {t c : String} (h : isiR t c) : PySem.W.kitOne K (.type t) (.type c) = some (decide (t = c)) := by
  obtain ⟨h1, h2⟩ := h
  rcases h1 with rfl | rfl | rfl <;> rcases h2 with rfl | rfl | rfl | rfl | rfl | rfl <;> exact kit_ty (by decide +kernel)
theorem isiS_ok {K : PySem.W.Frag} {H : Hp} {x : V} {c : String} {b : Bool} (h : isiS x c = some b) : ∃ t, TyX K H x (.type t) ∧ PySem.W.kitOne K (.type t) (.type c) = some b := by
  cases x <;> simp only [isiS] at h
  case non =>
    split at h
    · rename_i q
      cases h
      rcases q with rfl | rfl | rfl | rfl | rfl | rfl <;> exact ⟨"NoneType", .base .non, kit_ty (by decide +kernel)⟩
    · cases h
  case bl v =>
    split at h
    · rename_i q
      cases h
      rcases q with rfl | rfl <;> exact ⟨"bool", .base (.bl v), kit_ty (by decide +kernel)⟩
    · split at h
      · rename_i q
        cases h
        rcases q with rfl | rfl | rfl | rfl <;> exact ⟨"bool", .base (.bl v), kit_ty (by decide +kernel)⟩
      · cases h
  case int v =>
    split at h
    · rename_i q
      cases h
      subst q
      exact ⟨"int", .base (.int v), kit_ty (by decide +kernel)⟩
    · split at h
      · rename_i q
        cases h
        rcases q with rfl | rfl | rfl | rfl | rfl <;> exact ⟨"int", .base (.int v), kit_ty (by decide +kernel)⟩
      · cases h
  case str v =>
    split at h
    · rename_i q
      cases h
      subst q
      exact ⟨"str", .base (.str v), kit_ty (by decide +kernel)⟩
    · split at h
      · rename_i q
        cases h
        rcases q with rfl | rfl | rfl | rfl | rfl <;> exact ⟨"str", .base (.str v), kit_ty (by decide +kernel)⟩
      · cases h
  all_goals cases h
theorem c_isi : CallR X (.builtin "isinstance") (cIsi X.K) := CallR.imp call_isi fun xs H Q h => by
  unfold cIsi at h
  split at h
  · obtain ⟨t, ty, r, q⟩ := h
    exact ⟨_, _, _, _, _, rfl, .ty _, ty, isi_kit r, q⟩
  · split at h
    · rename_i b e
      obtain ⟨t, ty, k⟩ := isiS_ok (K := X.K) (H := H) e
      exact ⟨_, _, _, _, _, rfl, .ty _, ty, k, h⟩
    · exact h.elim
  · exact h.elim
theorem tyx_l {K : PySem.W.Frag} {H : Hp} {p : Addr} {xs : List V} (h : SqL K H p xs) : TyX K H (.ref p) (.type "list") := by
  rcases h with (h | ⟨o, h⟩) | ⟨o, its, n, h, c, _⟩
  · exact .base (.lst h)
  · exact .base (.frz h)
  · exact .kList h c
theorem tyx_t {K : PySem.W.Frag} {H : Hp} {p : Addr} {xs : List V} (h : SqT K H p xs) : TyX K H (.ref p) (.type "tuple") := by
  rcases h with (h | ⟨o, h⟩) | ⟨o, its, n, h, c, _⟩
  · exact .base (.tup h)
  · exact .fTuple h
  · exact .kTuple h c
def SqA (K : PySem.W.Frag) (H : Hp) (a : Addr) (xs : List V) : Prop := SqL K H a xs ∨ SqT K H a xs
def iSeq (K : PySem.W.Frag) (tl : TE) : TI := fun σ H R => tl σ H fun x H1 => ∃ a, x = .ref a ∧ (((∃ xs, SqL K H1 a xs) ∧ R (Itl K a) H1) ∨ ((∃ xs, SqT K H1 a xs) ∧ R (Itt K a) H1))
theorem pi_seq {tg l : Expr} {tl : TE} (hl : PE X l tl) : PI X tg l (iSeq X.K tl) := by
  refine ⟨fun pins s σ H R I h => ?_⟩
  refine thn (hl.run pins s σ H _ I h) fun v s1 ⟨x, H1, I1, r1, q1⟩ => ?_
  obtain ⟨a, e, q⟩ := q1
  subst e
  cases r1
  rcases q with ⟨⟨xs, hq⟩, q⟩ | ⟨⟨xs, hq⟩, q⟩
  · obtain ⟨its, rv, p, hz⟩ := I1.list hq
    refine wpAny_pyIter_list p.isList ?_
    refine ⟨s1.heap.objs.size, [s1.heap.objs.size], _, _, H1, rfl, I1.kept (t' := s1.toks) fun b o e => Heap.get?_push_of_some _ e, turn_list a _, ⟨_, Heap.get?_push_size _ rfl, rfl, rfl⟩, fun b hb => ?_, q⟩
    have e : b = s1.heap.objs.size := by simpa using hb
    subst e
    exact I1.fpOk (Nat.le_refl _) (I1.hok.fresh (Nat.le_refl _))
  · obtain ⟨its, rv, p, hz⟩ := I1.tuple hq
    refine wpAny_pyIter_tuple (show s1.heap.IsTuple a its.toArray from p) ?_
    refine ⟨s1.heap.objs.size, [s1.heap.objs.size], _, _, H1, rfl, I1.kept (t' := s1.toks) fun b o e => Heap.get?_push_of_some _ e, turn_tuple a _, ⟨_, Heap.get?_push_size _ rfl, rfl, rfl⟩, fun b hb => ?_, q⟩
    have e : b = s1.heap.objs.size := by simpa using hb
    subst e
    exact I1.fpOk (Nat.le_refl _) (I1.hok.fresh (Nat.le_refl _))
end
structure Fx (fa : List He.Fa) (fn : List He.DefD) (K : PySem.W.Frag) (mg : Str → Option Value) : Prop where
  ex : ∃ h : Heap, K.In h ∧ h.Ns mainGlobals mg
  c : He.SaysD fa fn K
section
variable {fa : List He.Fa} {fn : List He.DefD} {K : PySem.W.Frag} {mg : Str → Option Value}
theorem Fx.glo (T : Fx fa fn K mg) (i : Nat) {x : Str} (h : fa[i]? = some (.glo x) := by rfl) : mg x = some (.ref (He.ga K x)) := let ⟨_, KX, G⟩ := T.ex; He.glo_ok KX G (T.c.fact i h)
theorem Fx.free (T : Fx fa fn K mg) (i : Nat) {x : Str} (h : fa[i]? = some (.free x) := by rfl) : mg x = none := let ⟨_, KX, G⟩ := T.ex; He.free_ok KX G (T.c.fact i h)
theorem Fx.cls (T : Fx fa fn K mg) (i : Nat) {x : Str} (h : fa[i]? = some (.cls x) := by rfl) : Cls K (He.ga K x) := He.cls_ok (T.c.fact i h)
end
end Co
end

section
set_option maxHeartbeats 4000000
namespace Co
open PySem PySem.Spec PyProof.Rows L2
section
variable {fa : List He.Fa} {fn : List He.DefD} {K : PySem.W.Frag} {mg : Str → Option Value}
theorem Fx.noat (T : Fx fa fn K mg) (i : Nat) {x f : Str} (h : fa[i]? = some (.noat x f) := by rfl) : NoAttr K (He.ga K x) f := He.noat_ok (T.c.fact i h)
theorem Fx.meth (T : Fx fa fn K mg) (i : Nat) {x m : Str} (h : fa[i]? = some (.meth x m) := by rfl) : Meth K (He.ga K x) m (He.ma K (He.ga K x) m) := He.meth_ok (T.c.fact i h)
theorem Fx.mkr (T : Fx fa fn K mg) (i : Nat) {x : Str} (h : fa[i]? = some (.mkr x) := by rfl) : Mk K (He.ga K x) (He.ma K (He.ga K x) "__init__") := He.mkr_ok (T.c.fact i h)
theorem Fx.exm (T : Fx fa fn K mg) (i : Nat) {x y : Str} {b : Bool} (h : fa[i]? = some (.exm x y b) := by rfl) : PySem.W.exmOne K (.ref (He.ga K x)) (.ref (He.ga K y)) = some b := He.exm_ok (T.c.fact i h)
theorem Fx.mk0 (T : Fx fa fn K mg) (i : Nat) {X : Cx} {x : Str} {p pos : Pos} (gC : X.mg x = some (.ref (He.ga X.K x))) (e1 : X.K = K := by rfl) (hg : Gl X x := by rfl) (h : fa[i]? = some (.exc x) := by rfl)
    (hdb : (x == ("__debug__" : Str)) = false := by decide) : PMk X (.Call (.Name x p) [] [] pos) (fun _ H Q => Q (.ref (He.ga K x)) none H) := by
  subst e1
  obtain ⟨q1, q2, q3, q4⟩ := He.exc_ok (T.c.fact i h)
  exact mk_own0 PySem.F.excBase_ValueError q1 gC q2 (raises_own q3 q4) hg hdb
end
def uLc (wi : TI) (g : TG) (tt : TT) (te : TE) (vs : List Nat) : TE := fun σ H Q => wi σ H fun J H1 => ∀ D, H1 D = none → ∃ W : Nat → Nat → Hp → Prop, (∃ m, W 0 m (upd H1 D (.lst []))) ∧ ∀ i m H, W i m H →
  (J.stop i H ∧ Q (.ref D) H) ∨ (J.go i H ∧ ∃ Nx : Hp → Prop, (∀ H', Nx H' → ∃ m', m' < m ∧ W (i + 1) m' H') ∧ ∀ x H', J.yld i H x H' → g x (wipe σ vs) H' fun σ2 H2 => wipe σ2 vs = wipe σ vs ∧ tt σ2 H2 fun b H3 =>
    two b (te σ2 H3 fun y H4 => ∃ acc, H4 D = some (.lst acc) ∧ acc.length < sizeLine ∧ Nx (upd H4 D (.lst (acc ++ [y])))) (Nx H3))
theorem lc_eq {wi : TI} {g : TG} {tt : TT} {te : TE} {vs : List Nat} : tLc wi g tt te vs = uLc wi g tt te vs := by
  unfold tLc uLc
  simp only [two_eq]
section
variable {X : Cx}
theorem e_lc {elt tg iter : Expr} {ifs : List Expr} {scope : Scope} {own : List (Str × Nat)} {pos : Pos} {wi : TI} {g : TG} {tt : TT} {te : TE} (hc : X.calm = true) (hN : X.N.Nodup) (hi : PI X tg iter wi) (ok : BlkOk X.N X.env.scope scope own)
    (hg : ∀ (s : Shared) (H : Hp) (C : Addr) (cl : List (Str × Addr)) (fp : List Addr), PG (X.blk s H scope (compEnvC scope cl C X.env) fp) tg g) (ht : ∀ (s : Shared) (H : Hp) (C : Addr) (cl : List (Str × Addr)) (fp : List Addr), PTs (X.blk s H scope (compEnvC scope cl C X.env) fp) ifs tt)
    (he : ∀ (s : Shared) (H : Hp) (C : Addr) (cl : List (Str × Addr)) (fp : List Addr), PE (X.blk s H scope (compEnvC scope cl C X.env) fp) elt te) (hs : ∀ x, foldedSetIterable iter X.env x = pure x := by intro _; rfl) :
    PE X (.ListComp elt [⟨tg, iter, ifs, 0⟩] scope pos) (uLc wi g tt te (own.map (·.2))) := lc_eq ▸ pe_lc hc hN hi ok hg ht he hs
theorem s_setLc {i : Nat} {y : Str} {py : Pos} {elt tg iter : Expr} {ifs : List Expr} {scope : Scope} {own : List (Str × Nat)} {pos spos : Pos} {wi : TI} {g : TG} {tt : TT} {te : TE} (hc : X.calm = true) (hN : X.N.Nodup) (hy : X.N[i]? = some y) (hyl : X.env.scope.names.lookup y = some .local)
    (hsw : swapsWith (.ListComp elt [⟨tg, iter, ifs, 0⟩] scope pos) (some (.Name y py)) spos.line X.env = pure true) (hi : PI X tg iter wi) (ok : BlkOk X.N X.env.scope scope own)
    (hg : ∀ (s : Shared) (H : Hp) (C : Addr) (cl : List (Str × Addr)) (fp : List Addr), PG (X.blk s H scope (compEnvC scope cl C X.env) fp) tg g) (ht : ∀ (s : Shared) (H : Hp) (C : Addr) (cl : List (Str × Addr)) (fp : List Addr), PTs (X.blk s H scope (compEnvC scope cl C X.env) fp) ifs tt)
    (he : ∀ (s : Shared) (H : Hp) (C : Addr) (cl : List (Str × Addr)) (fp : List Addr), PE (X.blk s H scope (compEnvC scope cl C X.env) fp) elt te) (hs : ∀ x, foldedSetIterable iter X.env x = pure x := by intro _; rfl) :
    PS X (.Assign [.Name y py] (.ListComp elt [⟨tg, iter, ifs, 0⟩] scope pos) spos) (tAsg (uLc wi g tt te (own.map (·.2))) (gName i)) := lc_eq ▸ ps_setLc hc hN hy hyl hsw hi ok hg ht he hs
end
def LcTurn (g : TG) (tt : TT) (te : TE) (vs : List Nat) (σ : St) (D : Addr) (x : V) (H : Hp) (Nx : Hp → Prop) : Prop :=
  g x (wipe σ vs) H fun σ2 H2 => wipe σ2 vs = wipe σ vs ∧ tt σ2 H2 fun b H3 =>
    two b (te σ2 H3 fun y H4 => ∃ acc, H4 D = some (.lst acc) ∧ acc.length < sizeLine ∧ Nx (upd H4 D (.lst (acc ++ [y])))) (Nx H3)
theorem lcL {K : PySem.W.Frag} {tl : TE} {g : TG} {tt : TT} {te : TE} {vs : List Nat} {σ : St} {H : Hp} {Q : VK} (h : tl σ H fun x H1 => ∃ a xs, x = .ref a ∧ SqL K H1 a xs ∧ ∀ D, H1 D = none → ∃ Pv : Nat → Hp → Prop, Pv 0 (upd H1 D (.lst [])) ∧
      (∀ i H, i ≤ xs.length → Pv i H → SqL K H a xs) ∧ (∀ i x H, xs[i]? = some x → Pv i H → LcTurn g tt te vs σ D x H (Pv (i + 1))) ∧ ∀ H, Pv xs.length H → Q (.ref D) H)
    (mono : ∀ Q Q' : VK, (∀ v H1, Q v H1 → Q' v H1) → tl σ H Q → tl σ H Q') : uLc (iList K tl) g tt te vs σ H Q := by
  refine mono _ _ (fun v H1 q => ?_) h
  obtain ⟨a, xs, e, hx, k⟩ := q
  subst e
  refine ⟨a, rfl, ⟨xs, hx⟩, fun D hD => ?_⟩
  obtain ⟨Pv, h0, hl, hs, hd⟩ := k D hD
  refine ⟨fun i m H => m = xs.length - i ∧ i ≤ xs.length ∧ Pv i H, ⟨xs.length, by simp, Nat.zero_le _, h0⟩, ?_⟩
  rintro i m H ⟨rfl, hi, p⟩
  have q := hl i H hi p
  by_cases hlt : i < xs.length
  · refine .inr ⟨⟨xs, xs[i], q, by simp [hlt]⟩, Pv (i + 1), fun H' p' => ⟨xs.length - (i + 1), by omega, rfl, hlt, p'⟩, fun x H' y => ?_⟩
    obtain ⟨e, y⟩ := y
    subst e
    exact hs i x _ (y xs q) p
  · have e : i = xs.length := by omega
    subst e
    exact .inl ⟨⟨xs, q, Nat.le_refl _⟩, hd H p⟩
theorem lcR {ta : TA} {g : TG} {tt : TT} {te : TE} {vs : List Nat} {σ : St} {H : Hp} {Q : VK} (h : ta σ H fun xs H1 => ∃ n : Int, xs = [.int n] ∧ -(2 ^ 62) ≤ n ∧ n < 2 ^ 62 ∧ ∀ D, H1 D = none → ∃ Pv : Nat → Hp → Prop, Pv 0 (upd H1 D (.lst [])) ∧
      (∀ (i : Nat) H, i < n.toNat → Pv i H → LcTurn g tt te vs σ D (.int (i : Int)) H (Pv (i + 1))) ∧ ∀ H, Pv n.toNat H → Q (.ref D) H)
    (mono : ∀ Q Q' : List V → Hp → Prop, (∀ v H1, Q v H1 → Q' v H1) → ta σ H Q → ta σ H Q') : uLc (iRng1 ta) g tt te vs σ H Q := by
  refine mono _ _ (fun v H1 q => ?_) h
  obtain ⟨n, e, h1, h2, k⟩ := q
  subst e
  refine ⟨n, rfl, h1, h2, fun D hD => ?_⟩
  obtain ⟨Pv, h0, hs, hd⟩ := k D hD
  refine ⟨fun i m H => m = n.toNat - i ∧ i ≤ n.toNat ∧ Pv i H, ⟨n.toNat, by simp, Nat.zero_le _, h0⟩, ?_⟩
  rintro i m H ⟨rfl, hi, p⟩
  by_cases hlt : i < n.toNat
  · refine .inr ⟨hlt, Pv (i + 1), fun H' p' => ⟨n.toNat - (i + 1), by omega, rfl, hlt, p'⟩, fun x H' y => ?_⟩
    obtain ⟨e, y⟩ := y
    subst e y
    rw [Int.zero_add]
    exact hs i _ hlt p
  · have e : i = n.toNat := by omega
    subst e
    exact .inl ⟨Nat.le_refl _, hd H p⟩
theorem forL {K : PySem.W.Frag} {a : Addr} {xs : List V} {g : TG} {tb : TS} {D : Ends} {σ : St} {H : Hp} (hq : SqL K H a xs) (Pv : Nat → St → Hp → Prop) (h0 : Pv 0 σ H) (hl : ∀ i σ H, i ≤ xs.length → Pv i σ H → SqL K H a xs)
    (hs : ∀ i x σ H, xs[i]? = some x → Pv i σ H → g x σ H fun σ2 H2 => tb { D with nx := Pv (i + 1), ct := Pv (i + 1), bk := D.nx } σ2 H2) (hd : ∀ σ H, Pv xs.length σ H → D.nx σ H) : tFor (iList K (fun _ H Q => Q (.ref a) H)) g tb D σ H :=
  ⟨a, rfl, ⟨xs, hq⟩, for_list Pv h0 hl hs hd⟩
theorem forL_of {K : PySem.W.Frag} {tl : TE} {g : TG} {tb : TS} {D : Ends} {σ : St} {H : Hp} {a : Addr} {xs : List V} (hv : ∀ Q : VK, Q (.ref a) H → tl σ H Q) (hq : SqL K H a xs) (Pv : Nat → St → Hp → Prop) (h0 : Pv 0 σ H) (hl : ∀ i σ H, i ≤ xs.length → Pv i σ H → SqL K H a xs)
    (hs : ∀ i x σ H, xs[i]? = some x → Pv i σ H → g x σ H fun σ2 H2 => tb { D with nx := Pv (i + 1), ct := Pv (i + 1), bk := D.nx } σ2 H2) (hd : ∀ σ H, Pv xs.length σ H → D.nx σ H) : tFor (iList K tl) g tb D σ H :=
  hv _ ⟨a, rfl, ⟨xs, hq⟩, for_list Pv h0 hl hs hd⟩
theorem forA_of {K : PySem.W.Frag} {tl : TE} {g : TG} {tb : TS} {D : Ends} {σ : St} {H : Hp} {a : Addr} {xs : List V} (hv : ∀ Q : VK, Q (.ref a) H → tl σ H Q) (hq : SqA K H a xs) (Pv : Nat → St → Hp → Prop) (h0 : Pv 0 σ H) (hl : ∀ i σ H', i ≤ xs.length → Pv i σ H' → Same H H')
    (hs : ∀ i x σ H, xs[i]? = some x → Pv i σ H → g x σ H fun σ2 H2 => tb { D with nx := Pv (i + 1), ct := Pv (i + 1), bk := D.nx } σ2 H2) (hd : ∀ σ H, Pv xs.length σ H → D.nx σ H) : tFor (iSeq K tl) g tb D σ H := by
  refine hv _ ⟨a, rfl, ?_⟩
  rcases hq with hq | hq
  · exact .inl ⟨⟨xs, hq⟩, for_list Pv h0 (fun i σ' H' hi p => (hl i σ' H' hi p).seq hq) hs hd⟩
  · refine .inr ⟨⟨xs, hq⟩, for_tup Pv h0 (fun i σ' H' hi p => ?_) hs hd⟩
    have e := hl i σ' H' hi p
    rcases hq with (h | ⟨o, h⟩) | h
    · exact .inl (.inl (e _ _ h))
    · exact .inl (.inr ⟨o, e _ _ h⟩)
    · exact .inr h
def Fr (S : List Addr) (H H' : Hp) : Prop := ∀ b o, H b = some o → b ∉ S → H' b = some o
theorem Fr.refl (S : List Addr) (H : Hp) : Fr S H H := fun _ _ h _ => h
theorem Fr.trans {S : List Addr} {H H1 H2 : Hp} (a : Fr S H H1) (b : Fr S H1 H2) : Fr S H H2 := fun c o h n => b c o (a c o h n) n
theorem Fr.mono {S S' : List Addr} {H H1 : Hp} (a : Fr S H H1) (h : ∀ b ∈ S, b ∈ S') : Fr S' H H1 := fun c o e n => a c o e fun z => n (h c z)
theorem Fr.of {S : List Addr} {H H' : Hp} (a : Same H H') : Fr S H H' := fun b o h _ => a b o h
theorem Fr.at1 {p q : Addr} {H H' : Hp} {o : HO} (a : Fr [p] H H') (h : H q = some o) (n : q ≠ p) : H' q = some o := a q o h (by simp [n])
theorem Fr.at0 {q : Addr} {H H' : Hp} {o : HO} (a : Fr [] H H') (h : H q = some o) : H' q = some o := a q o h (by simp)
theorem Fr.same {H H' : Hp} (a : Fr [] H H') : Same H H' := fun b o h => a b o h (by simp)
theorem Fr.new {S : List Addr} {H H' : Hp} {p : Addr} {o : HO} (a : Fr S H H') (h : H' p = none) : Fr S H (upd H' p o) := fun b u e n => by
  have q := a b u e n
  rw [upd_ne (ne_of_none q h)]
  exact q
theorem Fr.wr {S : List Addr} {H H' : Hp} {p : Addr} {o : HO} (a : Fr S H H') (h : p ∈ S) : Fr S H (upd H' p o) := fun b u e n => by
  rw [upd_ne (show b ≠ p from fun z => n (by rw [z]; exact h))]
  exact a b u e n
theorem Fr.loc {S : List Addr} {H H' : Hp} {p : Addr} {o : HO} (a : Fr S H H') (h : H p = none) : Fr S H (upd H' p o) := fun b u e n => by
  rw [upd_ne (ne_of_none e h)]
  exact a b u e n
theorem same_new {H H' : Hp} {p : Addr} {o : HO} (a : Same H H') (h : H' p = none) : Same H (upd H' p o) := fun b u e => by
  rw [upd_ne (ne_of_none (a b u e) h)]
  exact a b u e
theorem same_loc {H H' : Hp} {p : Addr} {o : HO} (a : Same H H') (h : H p = none) : Same H (upd H' p o) := fun b u e => by
  rw [upd_ne (ne_of_none e h)]
  exact a b u e
theorem same_fr {M H H' : Hp} {S : List Addr} (a : Same M H) (b : Fr S H H') (h : ∀ p ∈ S, M p = none) : Same M H' := fun c o e => b c o (a c o e) fun z => by
  rw [h c z] at e
  cases e
theorem same_fr1 {M H H' : Hp} {p : Addr} (a : Same M H) (b : Fr [p] H H') (h : M p = none) : Same M H' := same_fr a b fun q hq => by
  have e : q = p := by simpa using hq
  rw [e]
  exact h
theorem same_grow {M H : Hp} {p : Addr} {o : HO} (a : Same M H) (h : H p = some o) : Same (upd M p o) H := fun b u e => by
  by_cases z : b = p
  · subst z
    rw [upd_same] at e
    cases e
    exact h
  · rw [upd_ne z] at e
    exact a b u e
theorem same_grow0 {M : Hp} {p : Addr} {o : HO} (h : M p = none) : Same M (upd M p o) := fun b u e => by
  rw [upd_ne (ne_of_none e h)]
  exact e
theorem keep_new {H : Hp} {p q : Addr} {o o' : HO} (h : H p = none) (e : H q = some o) : upd H p o' q = some o := by
  rw [upd_ne (ne_of_none e h)]
  exact e
theorem keep_ne {H : Hp} {p q : Addr} {o o' : HO} (n : q ≠ p) (e : H q = some o) : upd H p o' q = some o := by
  rw [upd_ne n]
  exact e
theorem sqT_same {K : PySem.W.Frag} {H H' : Hp} {a : Addr} {xs : List V} (e : Same H H') (h : SqT K H a xs) : SqT K H' a xs := by
  rcases h with (h | ⟨o, h⟩) | h
  · exact .inl (.inl (e _ _ h))
  · exact .inl (.inr ⟨o, e _ _ h⟩)
  · exact .inr h
mutual
theorem dp_mono {K : PySem.W.Frag} {H H' : Hp} (e : Same H H') : ∀ {d : PyData} {v : V}, Dp K H v d → Dp K H' v d
  | .none, _, h => by cases h; exact .non
  | .bool b, _, h => by cases h; exact .bl b
  | .int i, _, h => by cases h; exact .int i
  | .str x, _, h => by cases h; exact .str x
  | .list ds, _, h => by
    cases h with
    | lst hs ha => exact .lst (e.seq hs) (dpAll_mono e ha)
  | .tuple ds, _, h => by
    cases h with
    | tup hs ha => exact .tup (sqT_same e hs) (dpAll_mono e ha)
  | .dict _, _, h => by cases h
theorem dpAll_mono {K : PySem.W.Frag} {H H' : Hp} (e : Same H H') : ∀ {ds : List PyData} {vs : List V}, DpAll K H vs ds → DpAll K H' vs ds
  | [], _, h => by cases h; exact .nil
  | d :: ds, _, h => by
    cases h with
    | cons h1 h2 => exact .cons (dp_mono e h1) (dpAll_mono e h2)
end
theorem dpAll_length {K : PySem.W.Frag} {H : Hp} : ∀ {ds : List PyData} {vs : List V}, DpAll K H vs ds → vs.length = ds.length
  | [], _, h => by cases h; rfl
  | d :: ds, _, h => by
    cases h with
    | cons h1 h2 => simp [dpAll_length h2]
theorem dpAll_get {K : PySem.W.Frag} {H : Hp} : ∀ {ds : List PyData} {vs : List V} {i : Nat} {d : PyData}, DpAll K H vs ds → ds[i]? = some d → ∃ v, vs[i]? = some v ∧ Dp K H v d
  | [], _, _, _, h, e => by simp at e
  | d :: ds, _, 0, _, h, e => by
    cases h with
    | cons h1 h2 =>
      simp at e
      subst e
      exact ⟨_, rfl, h1⟩
  | d :: ds, _, i + 1, _, h, e => by
    cases h with
    | cons h1 h2 => exact dpAll_get (i := i) h2 (by simpa using e)
theorem dpAll_append {K : PySem.W.Frag} {H : Hp} : ∀ {ds es : List PyData} {vs ws : List V}, DpAll K H vs ds → DpAll K H ws es → DpAll K H (vs ++ ws) (ds ++ es)
  | [], _, _, _, h, h' => by cases h; exact h'
  | d :: ds, _, _, _, h, h' => by
    cases h with
    | cons h1 h2 => exact .cons h1 (dpAll_append h2 h')
theorem atNat {α : Type} {xs : List α} {i : Int} {v : α} (h0 : 0 ≤ i) (h : xs[i.toNat]? = some v) : atI xs i = some v := by
  have e : i = ((i.toNat : Nat) : Int) := by omega
  rw [e]
  exact atI_nat h
end Co
end

section
set_option maxHeartbeats 4000000
namespace Co
open PySem PySem.Spec PyProof.Rows L2
section
variable {X : Cx}
def LenR (K : PySem.W.Frag) (H : Hp) (p : Addr) (n : Nat) : Prop := (∃ ys, SqA K H p ys ∧ n = ys.length) ∨ ∃ kvs, H p = some (.dK kvs) ∧ n = kvs.length
def cLenA (K : PySem.W.Frag) : List V → Hp → VK → Prop := fun xs H Q => match xs with
  | [.str z] => z.length ≤ sizeLine ∧ Q (.int z.length) H
  | [.ref p] => ∃ n, LenR K H p n ∧ Q (.int (n : Nat)) H
  | _ => False
theorem c_lenA : CallR X (.builtin "len") (cLenA X.K) := CallR.imp (CallR.or call_len_seq (CallR.or call_len_str call_lenD)) fun xs H Q h => by
  unfold cLenA at h
  split at h
  · exact .inr (.inl ⟨_, rfl, h⟩)
  · obtain ⟨n, ⟨ys, hs, rfl⟩ | ⟨kvs, hs, rfl⟩, q⟩ := h
    · exact .inl ⟨_, _, rfl, hs, q⟩
    · exact .inr (.inr ⟨_, _, rfl, hs, q⟩)
  · exact h.elim
end
theorem lenL {K : PySem.W.Frag} {H : Hp} {p : Addr} {ys : List V} (h : H p = some (.lst ys)) : LenR K H p ys.length := .inl ⟨_, .inl (SqL.of h), rfl⟩
theorem lenT {K : PySem.W.Frag} {H : Hp} {p : Addr} {ys : List V} (h : SqT K H p ys) : LenR K H p ys.length := .inl ⟨_, .inr h, rfl⟩
structure Pool (H : Hp) (p q : Addr) (ns : List Int) (i d s : Int) : Prop where
  hp : H p = some (.lst [.ref q, .int i, .int d, .int s])
  hq : H q = some (.lst (ns.map V.int))
  ne : q ≠ p
  nn : ∀ n ∈ ns, 0 ≤ n
  hi : 0 ≤ i
  hd : 0 ≤ d
  hs : 0 ≤ s
  hs2 : s < 2147483647
def PoolAt (H : Hp) (p q : Addr) : Prop := ∃ ns i d s, Pool H p q ns i d s
def sp_pool (K : PySem.W.Frag) : Sp := fun vs H Q _ => match vs with
  | [.ref a] => ∃ ns : List Int, SqL K H a (ns.map V.int) ∧ ns.length ≤ 63 ∧ ∀ p q H', H p = none → H q = none → PoolAt H' p q → Same H H' → Q (.ref p) H'
  | _ => False
def sp_take (n : Nat) : Sp := fun vs H Q _ => match vs with
  | [.ref p, .int m] => 0 < n ∧ ∃ q, (∃ ns i d s, Pool H p q ns i d s ∧ (n = 1 → 0 < d)) ∧ 0 < m ∧ m < 1073741824 ∧ ∀ (r : Int) H', 0 ≤ r → r < m → PoolAt H' p q → Fr [p] H H' → Q (.int r) H'
  | _ => False
def t_Lpool (K : PySem.W.Frag) : TS :=
 (tRet (tLst (tCons (uLc (iList K (tV 0)) (gName 1) tYes (uIf (tBo (tOp fGe (tV 1) (tC (.int 0)))) (tOp fMul (tC (.int 2)) (tV 1)) (tOp fSub (tOp fMul (tUn fNeg (tC (.int 2))) (tV 1)) (tC (.int 1)))) ([("_law_cell", 1)].map (·.2))) (tCons (tC (.int 0)) (tCons (tC (.int 0)) (tCons (tC (.int 17)) tNil))))))
def t_Ltake (K : PySem.W.Frag) (sp : Sp) : TS :=
 (tSeq (uIfS (tBo (tOp fGt (tOp (rIxL K) (tV 0) (tC (.int 2))) (tC (.int 0)))) (tSeq (tAsg (tOp fMod (tCB cInt (tCons (tOp (rIxL K) (tV 0) (tC (.int 2))) tNil)) (tV 1)) (gName 2))
 (tSeq (tAsg (tOp fDiv (tOp (rIxL K) (tV 0) (tC (.int 2))) (tV 1)) (gSub (tV 0) (tC (.int 2)) rSetL))
 (tRet (tV 2)))) tNext)
 (tSeq (tAsg (tC (.int 0)) (gName 3))
 (tSeq (uIfS (tBo (tOp fLt (tOp (rIxL K) (tV 0) (tC (.int 1))) (tCB (cLenA K) (tCons (tOp (rIxL K) (tV 0) (tC (.int 0))) tNil)))) (tAsg (tOp (rIx K) (tOp (rIxL K) (tV 0) (tC (.int 0))) (tOp (rIxL K) (tV 0) (tC (.int 1)))) (gName 3)) tNext)
 (tSeq (tAsg (tOp fAdd (tOp (rIxL K) (tV 0) (tC (.int 1))) (tC (.int 1))) (gSub (tV 0) (tC (.int 1)) rSetL))
 (tSeq (uIfS (tBo (tOp fGe (tV 3) (tOp fPow (tC (.int 10)) (tC (.int 18))))) (tSeq (tAsg (tOp fDiv (tV 3) (tC (.int 2))) (gSub (tV 0) (tC (.int 2)) rSetL))
 (tRet (uCall sp E0 (tCons (tV 0) (tCons (tV 1) tNil))))) tNext)
 (tSeq (tAsg (tOp fMod (tCB cInt (tCons (tOp fAdd (tOp fAdd (tOp fMul (tOp (rIxL K) (tV 0) (tC (.int 3))) (tC (.int 48271))) (tOp fMul (tV 3) (tC (.int 69621)))) (tOp fMul (tOp (rIxL K) (tV 0) (tC (.int 1))) (tC (.int 613)))) tNil)) (tC (.int 2147483647))) (gSub (tV 0) (tC (.int 3)) rSetL))
 (tSeq (tAsg (tOp fMod (tCB cInt (tCons (tOp fAdd (tOp fAdd (tOp fMul (tOp (rIxL K) (tV 0) (tC (.int 3))) (tOp (rIxL K) (tV 0) (tC (.int 3)))) (tOp fMul (tOp (rIxL K) (tV 0) (tC (.int 3))) (tC (.int 7919)))) (tC (.int 104729))) tNil)) (tC (.int 1000000007))) (gName 4))
 (tRet (tOp fMod (tCB cInt (tCons (tOp fDiv (tV 4) (tC (.int 3))) tNil)) (tV 1))))))))))
abbrev Dn (Q : VK) : Ends := { nx := fun _ H' => Q .non H', rt := Q }
theorem PoolAt.fr {H H' : Hp} {p q : Addr} {S : List Addr} (h : PoolAt H p q) (f : Fr S H H') (n1 : p ∉ S) (n2 : q ∉ S) : PoolAt H' p q := by
  obtain ⟨ns, i, d, s, P⟩ := h
  exact ⟨ns, i, d, s, ⟨f _ _ P.hp n1, f _ _ P.hq n2, P.ne, P.nn, P.hi, P.hd, P.hs, P.hs2⟩⟩
theorem PoolAt.same {H H' : Hp} {p q : Addr} (h : PoolAt H p q) (f : Same H H') : PoolAt H' p q := h.fr (S := []) (Fr.of f) (by simp) (by simp)
theorem PoolAt.take {H : Hp} {p q : Addr} (h : PoolAt H p q) : ∃ ns i d s, Pool H p q ns i d s ∧ (2 = 1 → 0 < d) := by
  obtain ⟨ns, i, d, s, P⟩ := h
  exact ⟨ns, i, d, s, P, fun e => absurd e (by decide)⟩
theorem PoolAt.ex {H : Hp} {p q : Addr} (h : PoolAt H p q) : (∃ o, H p = some o) ∧ (∃ o, H q = some o) ∧ p ≠ q := by
  obtain ⟨ns, i, d, s, P⟩ := h
  exact ⟨⟨_, P.hp⟩, ⟨_, P.hq⟩, P.ne.symm⟩
theorem len_pool {K : PySem.W.Frag} : ∀ vs H Q E, sp_pool K vs H Q E → vs.length = 1 := fun vs H Q E h => by
  unfold sp_pool at h
  split at h
  · rfl
  · exact h.elim
theorem len_take {n : Nat} : ∀ vs H Q E, sp_take n vs H Q E → vs.length = 2 := fun vs H Q E h => by
  unfold sp_take at h
  split at h
  · rfl
  · exact h.elim
theorem mapInt_get {ns : List Int} {i : Nat} {x : V} (h : (ns.map V.int)[i]? = some x) : ∃ z, x = .int z ∧ ns[i]? = some z := by
  rw [List.getElem?_map] at h
  cases e : ns[i]? with
  | none => rw [e] at h; cases h
  | some z => rw [e] at h; exact ⟨z, (Option.some.inj h).symm, rfl⟩
theorem r_Lpool {K : PySem.W.Frag} {vs : List V} {H : Hp} {Q : VK} {E : XK} (h : sp_pool K vs H Q E) : t_Lpool K (Dn Q) (start ["_law_script", "_law_cell"] vs) H := by
  unfold sp_pool at h
  split at h
  · rename_i a
    obtain ⟨ns, hs, hl, k⟩ := h
    unfold t_Lpool tRet tLst tCons
    refine lcL ?_ (fun Q Q' i q => i _ _ q)
    refine ⟨a, _, rfl, hs, fun D hD => ?_⟩
    refine ⟨fun i H' => ∃ ms : List Int, H' D = some (.lst (ms.map V.int)) ∧ (∀ n ∈ ms, 0 ≤ n) ∧ ms.length ≤ i ∧ Same H H', ⟨[], upd_same, by simp, Nat.le_refl _, same_new (Same.refl H) hD⟩, fun i H' _ ⟨_, _, _, _, s⟩ => s.seq hs, ?_, ?_⟩
    · rintro i x H' hx ⟨ms, h1, h2, h3, s⟩
      have hil : i < ns.length := by
        have := (List.getElem?_eq_some_iff.mp hx).1
        simpa using this
      obtain ⟨z, rfl, -⟩ := mapInt_get hx
      refine ⟨rfl, ⟨fun _ => ?_, fun e => nomatch e⟩⟩
      have fin : ∀ w : Int, 0 ≤ w → ∃ acc, H' D = some (.lst acc) ∧ acc.length < sizeLine ∧ ∃ ms : List Int, (upd H' D (.lst (acc ++ [V.int w]))) D = some (.lst (ms.map V.int)) ∧ (∀ n ∈ ms, 0 ≤ n) ∧ ms.length ≤ i + 1 ∧ Same H (upd H' D (.lst (acc ++ [V.int w]))) := fun w hw => by
        refine ⟨_, h1, ?_, ms ++ [w], ?_, ?_, ?_, same_loc s hD⟩
        · rw [List.length_map]
          exact small1000 (by omega)
        · rw [upd_same, List.map_append]
          rfl
        · intro n hn
          rcases List.mem_append.mp hn with hn | hn
          · exact h2 n hn
          · simp at hn
            omega
        · simp
          omega
      refine ⟨fun e => ?_, fun e => ?_⟩
      · have e' : 0 ≤ z := of_decide_eq_true e
        exact ⟨.inl ⟨by decide, by decide⟩, fin _ (by omega)⟩
      · have e' : ¬ 0 ≤ z := of_decide_eq_false e
        exact ⟨.inl ⟨by decide, by decide⟩, fin _ (by omega)⟩
    · rintro H' ⟨ms, h1, h2, h3, s⟩
      refine ⟨by show 4 ≤ sizeLine; rw [sizeLine_eq]; omega, fun p hp => ?_⟩
      refine k p D _ (s.free hp) hD ⟨ms, 0, 0, 17, ⟨upd_same, keep_new hp h1, ne_of_none h1 hp, h2, by decide, by decide, by decide, by decide⟩⟩ (same_new s hp)
  · exact h.elim
theorem r_Ltake {K : PySem.W.Frag} {n : Nat} {vs : List V} {H : Hp} {Q : VK} {E : XK} (h : sp_take (n + 1) vs H Q E) : t_Ltake K (sp_take n) (Dn Q) (start ["_law_pool_here", "_law_many", "_law_digit", "_law_cell", "_law_mixed"] vs) H := by
  unfold sp_take at h
  split at h
  · rename_i p m
    obtain ⟨_, q, ⟨ns, i, d, s, P, hd1⟩, hm, hm2, k⟩ := h
    refine ⟨_, _, _, _, rfl, rfl, SqL.of P.hp, rfl, ⟨fun e => ?_, fun e => ?_⟩⟩
    · have e' : 0 < d := of_decide_eq_true e
      refine ⟨_, _, _, _, rfl, rfl, SqL.of P.hp, rfl, ⟨hm, ?_⟩⟩
      refine ⟨_, _, _, _, rfl, rfl, SqL.of P.hp, rfl, ⟨⟨hm, hm2⟩, ?_⟩⟩
      refine ⟨_, _, _, _, rfl, rfl, P.hp, rfl, ?_⟩
      refine k _ _ (Int.emod_nonneg _ (by omega)) (Int.emod_lt_of_pos _ hm) ⟨ns, i, d / m, s, ⟨upd_same, keep_ne P.ne P.hq, P.ne, P.nn, P.hi, Int.ediv_nonneg P.hd (by omega), P.hs, P.hs2⟩⟩ ?_
      exact (Fr.refl _ _).wr (by simp)
    · have e' : ¬ 0 < d := of_decide_eq_false e
      have hn : n ≠ 0 := fun z => by
        subst z
        exact e' (hd1 rfl)
      refine ⟨_, _, _, _, rfl, rfl, SqL.of P.hp, rfl, ?_⟩
      refine ⟨_, _, _, _, rfl, rfl, SqL.of P.hp, rfl, ⟨_, lenL P.hq, ?_⟩⟩
      have tail : ∀ c : Int, 0 ≤ c → ∀ σ' : St, σ' = [some (.ref p), some (.int m), none, some (.int c), none] →
          (tSeq (tAsg (tOp fAdd (tOp (rIxL K) (tV 0) (tC (.int 1))) (tC (.int 1))) (gSub (tV 0) (tC (.int 1)) rSetL))
 (tSeq (uIfS (tBo (tOp fGe (tV 3) (tOp fPow (tC (.int 10)) (tC (.int 18))))) (tSeq (tAsg (tOp fDiv (tV 3) (tC (.int 2))) (gSub (tV 0) (tC (.int 2)) rSetL))
 (tRet (uCall (sp_take n) E0 (tCons (tV 0) (tCons (tV 1) tNil))))) tNext)
 (tSeq (tAsg (tOp fMod (tCB cInt (tCons (tOp fAdd (tOp fAdd (tOp fMul (tOp (rIxL K) (tV 0) (tC (.int 3))) (tC (.int 48271))) (tOp fMul (tV 3) (tC (.int 69621)))) (tOp fMul (tOp (rIxL K) (tV 0) (tC (.int 1))) (tC (.int 613)))) tNil)) (tC (.int 2147483647))) (gSub (tV 0) (tC (.int 3)) rSetL))
 (tSeq (tAsg (tOp fMod (tCB cInt (tCons (tOp fAdd (tOp fAdd (tOp fMul (tOp (rIxL K) (tV 0) (tC (.int 3))) (tOp (rIxL K) (tV 0) (tC (.int 3)))) (tOp fMul (tOp (rIxL K) (tV 0) (tC (.int 3))) (tC (.int 7919)))) (tC (.int 104729))) tNil)) (tC (.int 1000000007))) (gName 4))
 (tRet (tOp fMod (tCB cInt (tCons (tOp fDiv (tV 4) (tC (.int 3))) tNil)) (tV 1))))))) (Dn Q) σ' H := by
        rintro c hc σ' rfl
        refine ⟨_, _, _, _, rfl, rfl, SqL.of P.hp, rfl, ?_⟩
        refine ⟨_, _, _, _, rfl, rfl, P.hp, rfl, ?_⟩
        refine ⟨⟨by decide, by decide, by decide⟩, ⟨fun e2 => ?_, fun e2 => ?_⟩⟩
        · have e3 : (10 : Int) ^ (Int.toNat 18) ≤ c := of_decide_eq_true e2
          have e4 : (10 : Int) ^ (Int.toNat 18) = 1000000000000000000 := by decide
          refine ⟨⟨by decide, by decide⟩, ?_⟩
          refine ⟨_, _, _, _, rfl, rfl, upd_same, rfl, ?_⟩
          refine ⟨by omega, q, ⟨ns, i + 1, c / 2, s, ⟨upd_same, keep_ne P.ne (keep_ne P.ne P.hq), P.ne, P.nn, by have := P.hi; omega, by omega, P.hs, P.hs2⟩, fun _ => by omega⟩, hm, hm2, fun r H' h0 h1 h2 h3 => ?_⟩
          exact k r H' h0 h1 h2 ((((Fr.refl [p] H).wr (by simp)).wr (by simp)).trans h3)
        · refine ⟨_, _, _, _, rfl, rfl, SqL.of upd_same, rfl, ⟨.inr ⟨by decide, by decide⟩, ⟨.inr ⟨by decide, by decide⟩, ?_⟩⟩⟩
          refine ⟨_, _, _, _, rfl, rfl, SqL.of upd_same, rfl, ⟨.inr ⟨by decide, by decide⟩, ⟨(show (0 : Int) < 2147483647 by decide), ?_⟩⟩⟩
          refine ⟨_, _, _, _, rfl, rfl, upd_same, rfl, ?_⟩
          have hs1 : 0 ≤ (s * 48271 + c * 69621 + (i + 1) * 613) % 2147483647 ∧ (s * 48271 + c * 69621 + (i + 1) * 613) % 2147483647 < 2147483647 := by omega
          refine ⟨_, _, _, _, rfl, rfl, SqL.of upd_same, rfl, ?_⟩
          refine ⟨_, _, _, _, rfl, rfl, SqL.of upd_same, rfl, ⟨.inl ⟨by show -(2 ^ 64) < (s * 48271 + c * 69621 + (i + 1) * 613) % 2147483647; omega, by show (s * 48271 + c * 69621 + (i + 1) * 613) % 2147483647 < 2 ^ 64; omega⟩, ?_⟩⟩
          refine ⟨_, _, _, _, rfl, rfl, SqL.of upd_same, rfl, ⟨.inr ⟨by decide, by decide⟩, ⟨(show (0 : Int) < 1000000007 by decide), ?_⟩⟩⟩
          refine ⟨⟨by decide, by decide⟩, ⟨hm, ?_⟩⟩
          refine k _ _ (Int.emod_nonneg _ (by omega)) (Int.emod_lt_of_pos _ hm) ⟨ns, i + 1, d, (s * 48271 + c * 69621 + (i + 1) * 613) % 2147483647, ⟨upd_same, keep_ne P.ne (keep_ne P.ne P.hq), P.ne, P.nn, by have := P.hi; omega, P.hd, hs1.1, hs1.2⟩⟩ ?_
          exact ((Fr.refl [p] H).wr (by simp)).wr (by simp)
      refine ⟨fun e2 => ?_, fun e2 => ?_⟩
      · have e3 : i < ((ns.map V.int).length : Nat) := of_decide_eq_true e2
        rw [List.length_map] at e3
        have hi := P.hi
        have hil : i.toNat < ns.length := by omega
        refine ⟨_, _, _, _, rfl, rfl, SqL.of P.hp, rfl, ?_⟩
        refine ⟨_, _, _, _, rfl, rfl, SqL.of P.hp, rfl, ?_⟩
        refine .inl ⟨_, _, _, .int ns[i.toNat], rfl, rfl, SqL.of P.hq, atNat hi (by rw [List.getElem?_map, List.getElem?_eq_getElem hil]; rfl), ?_⟩
        exact tail _ (P.nn _ (List.getElem_mem hil)) _ rfl
      · exact tail 0 (by decide) _ rfl
  · exact h.elim
end Co
end

section
set_option maxHeartbeats 4000000
namespace Co
open PySem PySem.Spec PyProof.Rows L2
def dle : Nat → PyData → Prop
  | _, .none => True
  | _, .bool _ => True
  | _, .int _ => True
  | _, .str _ => True
  | n + 1, .list ds => ds.length ≤ 1000000 ∧ ∀ d ∈ ds, dle n d
  | n + 1, .tuple ds => ds.length ≤ 1000000 ∧ ∀ d ∈ ds, dle n d
  | _, _ => False
def sp_same (K : PySem.W.Frag) (n : Nat) : Sp := fun vs H Q _ => match vs with
  | [x, y] => ∃ d m, n = m + 1 ∧ dle m d ∧ Dp K H x d ∧ Dp K H y d ∧ ∀ H', Same H H' → Q (.bl true) H'
  | _ => False
theorem len_same {K : PySem.W.Frag} {n : Nat} : ∀ vs H Q E, sp_same K n vs H Q E → vs.length = 2 := fun vs H Q E h => by
  unfold sp_same at h
  split at h
  · rfl
  · exact h.elim
def sp_isint : Sp := fun vs H Q _ => match vs with
  | [.int i] => Q (.bl true) H
  | _ => False
theorem len_isint : ∀ vs H Q E, sp_isint vs H Q E → vs.length = 1 := fun vs H Q E h => by
  unfold sp_isint at h
  split at h
  · rfl
  · exact h.elim
def t_Lis_integer (K : PySem.W.Frag) : TS :=
 (tRet (uAndV (tCB (cIsi K) (tCons (tV 0) (tCons (tC (.ty "int")) tNil))) (uNotV (tCB (cIsi K) (tCons (tV 0) (tCons (tC (.ty "bool")) tNil))))))
theorem r_Lis_integer {K : PySem.W.Frag} {x : Str} {vs : List V} {H : Hp} {Q : VK} {E : XK} (h : sp_isint vs H Q E) : t_Lis_integer K (Dn Q) (start [x] vs) H := by
  unfold sp_isint at h
  split at h
  · exact ⟨fun _ => h, fun e => nomatch e⟩
  · exact h.elim
theorem ixA {K : PySem.W.Frag} {H : Hp} {a : Addr} {xs : List V} {i : Nat} {v : V} {Q : VK} (h : SqA K H a xs) (e : xs[i]? = some v) (q : Q v H) : rIx K (.ref a) (.int (i : Int)) H Q := by
  rcases h with h | h
  · exact .inl ⟨_, _, _, _, rfl, rfl, h, atI_nat e, q⟩
  · exact .inr (.inl ⟨_, _, _, _, rfl, rfl, h, atI_nat e, q⟩)
theorem sqA_same {K : PySem.W.Frag} {H H' : Hp} {a : Addr} {xs : List V} (e : Same H H') (h : SqA K H a xs) : SqA K H' a xs := h.elim (fun h => .inl (e.seq h)) fun h => .inr (sqT_same e h)
abbrev tAlls (K : PySem.W.Frag) (sp : Sp) : TE := tCB (rAll K) (tCons (uLc (iRng1 (tCons (tCB (cLenA K) (tCons (tV 1) tNil)) tNil)) (gName 2) tYes (uCall sp E0 (tCons (tOp (rIx K) (tV 0) (tV 2)) (tCons (tOp (rIx K) (tV 1) (tV 2)) tNil))) ([("_law_k", 2)].map (·.2))) tNil)
theorem all_same {K : PySem.W.Frag} {n : Nat} {a b : Addr} {z : Option V} {xs ys : List V} {ds : List PyData} {H : Hp} {Q : VK} (ha : SqA K H a xs) (hb : SqA K H b ys) (dx : DpAll K H xs ds) (dy : DpAll K H ys ds) (hl : ds.length ≤ 1000000) (hd : ∀ d ∈ ds, dle n d)
    (k : ∀ H', Same H H' → Q (.bl true) H') : tAlls K (sp_same K (n + 1)) [some (.ref a), some (.ref b), z] H Q := by
  have lx := dpAll_length dx
  have ly := dpAll_length dy
  unfold tAlls tCB tCons
  refine lcR ?_ (fun Q Q' i ⟨n, h, q⟩ => ⟨n, h, i _ _ q⟩)
  refine ⟨ys.length, .inl ⟨ys, hb, rfl⟩, _, rfl, by omega, by omega, fun D hD => ⟨fun i H' => H' D = some (.lst ((List.replicate i true).map V.bl)) ∧ Same H H', ⟨upd_same, same_new (Same.refl H) hD⟩, ?_, ?_⟩⟩
  · rintro i H' hi ⟨h1, s⟩
    have hi' : i < ds.length := by omega
    obtain ⟨x, ex, px⟩ := dpAll_get dx (List.getElem?_eq_getElem hi')
    obtain ⟨y, ey, py⟩ := dpAll_get dy (List.getElem?_eq_getElem hi')
    refine ⟨rfl, ⟨fun _ => ?_, fun e => nomatch e⟩⟩
    refine ixA (sqA_same s ha) ex ?_
    refine ixA (sqA_same s hb) ey ?_
    refine ⟨_, n, rfl, hd _ (List.getElem_mem hi'), dp_mono s px, dp_mono s py, fun H2 s2 => ?_⟩
    refine ⟨_, s2 _ _ h1, ?_, ?_, same_loc (s.trans s2) hD⟩
    · rw [List.length_map, List.length_replicate]
      have : sizeLine = 16777216 := sizeLine_eq
      omega
    · rw [upd_same, List.replicate_succ', List.map_append]
      rfl
  · rintro H' ⟨h1, s⟩
    refine ⟨D, _, rfl, SqL.of h1, ?_⟩
    have e : (List.replicate ((ys.length : Int)).toNat true).all id = true := by
      rw [List.all_eq_true]
      intro x hx
      exact (List.mem_replicate.mp hx).2
    rw [e]
    exact k _ s
def t_LsameA (K : PySem.W.Frag) (sp : Sp) : TS :=
 (tSeq (uIfS (tBo (tCB (cIsi K) (tCons (tV 1) (tCons (tC (.ty "tuple")) tNil)))) (tSeq (uIfS (uOr (tNot (tBo (tCB (cIsi K) (tCons (tV 0) (tCons (tC (.ty "tuple")) tNil))))) (tBo (tOp fNe (tCB (cLenA K) (tCons (tV 0) tNil)) (tCB (cLenA K) (tCons (tV 1) tNil))))) (tRet (tC (.bl false))) tNext)
 (tRet (tCB (rAll K) (tCons (uLc (iRng1 (tCons (tCB (cLenA K) (tCons (tV 1) tNil)) tNil)) (gName 2) tYes (uCall sp E0 (tCons (tOp (rIx K) (tV 0) (tV 2)) (tCons (tOp (rIx K) (tV 1) (tV 2)) tNil))) ([("_law_k", 2)].map (·.2))) tNil)))) tNext)
 (tSeq (uIfS (tBo (tCB (cIsi K) (tCons (tV 1) (tCons (tC (.ty "list")) tNil)))) (tSeq (uIfS (uOr (tNot (tBo (tCB (cIsi K) (tCons (tV 0) (tCons (tC (.ty "list")) tNil))))) (tBo (tOp fNe (tCB (cLenA K) (tCons (tV 0) tNil)) (tCB (cLenA K) (tCons (tV 1) tNil))))) (tRet (tC (.bl false))) tNext)
 (tRet (tCB (rAll K) (tCons (uLc (iRng1 (tCons (tCB (cLenA K) (tCons (tV 1) tNil)) tNil)) (gName 2) tYes (uCall sp E0 (tCons (tOp (rIx K) (tV 0) (tV 2)) (tCons (tOp (rIx K) (tV 1) (tV 2)) tNil))) ([("_law_k", 2)].map (·.2))) tNil)))) tNext)
 (tSeq (uIfS (tBo (tIs (tV 1))) (tRet (tIs (tV 0))) tNext)
 (tSeq (uIfS (tBo (tCB (cIsi K) (tCons (tV 1) (tCons (tC (.ty "bool")) tNil)))) (tRet (uAndV (tCB (cIsi K) (tCons (tV 0) (tCons (tC (.ty "bool")) tNil))) (tOp fEq (tV 0) (tV 1)))) tNext)
 (tSeq (uIfS (tBo (tCB (cIsi K) (tCons (tV 1) (tCons (tC (.ty "str")) tNil)))) (tRet (uAndV (tCB (cIsi K) (tCons (tV 0) (tCons (tC (.ty "str")) tNil))) (tOp fEq (tV 0) (tV 1)))) tNext)
 (tRet (uAndV (uCall sp_isint E0 (tCons (tV 0) tNil)) (tOp fEq (tV 0) (tV 1)))))))))
def t_LsameB (K : PySem.W.Frag) (sp : Sp) : TS :=
 (tSeq (uIfS (tBo (tIs (tV 1))) (tRet (tIs (tV 0))) tNext)
 (tSeq (uIfS (uOr (tBo (tOp fNe (tCB (cIsi K) (tCons (tV 1) (tCons (tC (.ty "tuple")) tNil))) (tCB (cIsi K) (tCons (tV 0) (tCons (tC (.ty "tuple")) tNil))))) (tBo (tOp fNe (tCB (cIsi K) (tCons (tV 1) (tCons (tC (.ty "list")) tNil))) (tCB (cIsi K) (tCons (tV 0) (tCons (tC (.ty "list")) tNil)))))) (tRet (tC (.bl false))) tNext)
 (tSeq (uIfS (uOr (tBo (tCB (cIsi K) (tCons (tV 1) (tCons (tC (.ty "tuple")) tNil)))) (tBo (tCB (cIsi K) (tCons (tV 1) (tCons (tC (.ty "list")) tNil))))) (tRet (uAndV (tOp fEq (tCB (cLenA K) (tCons (tV 0) tNil)) (tCB (cLenA K) (tCons (tV 1) tNil))) (tCB (rAll K) (tCons (uLc (iRng1 (tCons (tCB (cLenA K) (tCons (tV 1) tNil)) tNil)) (gName 2) tYes (uCall sp E0 (tCons (tOp (rIx K) (tV 0) (tV 2)) (tCons (tOp (rIx K) (tV 1) (tV 2)) tNil))) ([("_law_k", 2)].map (·.2))) tNil)))) tNext)
 (tSeq (uIfS (uOr (tBo (tOp fNe (tCB (cIsi K) (tCons (tV 1) (tCons (tC (.ty "bool")) tNil))) (tCB (cIsi K) (tCons (tV 0) (tCons (tC (.ty "bool")) tNil))))) (tBo (tOp fNe (tCB (cIsi K) (tCons (tV 1) (tCons (tC (.ty "str")) tNil))) (tCB (cIsi K) (tCons (tV 0) (tCons (tC (.ty "str")) tNil)))))) (tRet (tC (.bl false))) tNext)
 (tRet (uAndV (tOp fEq (tCB (cIsi K) (tCons (tV 1) (tCons (tC (.ty "int")) tNil))) (tCB (cIsi K) (tCons (tV 0) (tCons (tC (.ty "int")) tNil)))) (tOp fEq (tV 0) (tV 1))))))))
theorem isi_l {K : PySem.W.Frag} {H : Hp} {p : Addr} {xs : List V} {c : String} {Q : VK} (h : SqL K H p xs) (hc : c = "tuple" ∨ c = "list" ∨ c = "dict" ∨ c = "int" ∨ c = "str" ∨ c = "bool") (q : Q (.bl (decide ("list" = c))) H) : cIsi K [.ref p, .ty c] H Q := ⟨"list", tyx_l h, ⟨.inl rfl, hc⟩, q⟩
theorem isi_t {K : PySem.W.Frag} {H : Hp} {p : Addr} {xs : List V} {c : String} {Q : VK} (h : SqT K H p xs) (hc : c = "tuple" ∨ c = "list" ∨ c = "dict" ∨ c = "int" ∨ c = "str" ∨ c = "bool") (q : Q (.bl (decide ("tuple" = c))) H) : cIsi K [.ref p, .ty c] H Q := ⟨"tuple", tyx_t h, ⟨.inr (.inl rfl), hc⟩, q⟩
theorem two1 {c : Bool} {p q : Prop} (e : c = true) (h : p) : two c p q := by
  subst e
  exact twoT h
theorem two0 {c : Bool} {p q : Prop} (e : c = false) (h : q) : two c p q := by
  subst e
  exact twoF h
local macro_rules | `(tactic| walk_at "no") => `(tactic| refine ⟨fun e => absurd e (by decide), fun _ => ?_⟩)
local macro_rules | `(tactic| walk_at "yes") => `(tactic| refine ⟨fun _ => ?_, fun e => absurd e (by decide)⟩)
local macro_rules | `(tactic| walk_at "isl") => `(tactic| refine ⟨"list", tyx_l (by assumption), ⟨.inl rfl, by decide⟩, ?_⟩)
local macro_rules | `(tactic| walk_at "ist") => `(tactic| refine ⟨"tuple", tyx_t (by assumption), ⟨.inr (.inl rfl), by decide⟩, ?_⟩)
theorem r_LsameB {K : PySem.W.Frag} {n : Nat} {x y : Str} {vs : List V} {H : Hp} {Q : VK} {E : XK} (h : sp_same K (n + 1) vs H Q E) : t_LsameB K (sp_same K n) (Dn Q) (start [x, y, "_law_k"] vs) H := by
  unfold sp_same at h
  split at h
  · obtain ⟨d, m, e, hd, h1, h2, k⟩ := h
    cases e
    cases d with
    | none =>
      cases h1
      cases h2
      exact ⟨fun _ => k _ (Same.refl _), fun e => nomatch e⟩
    | bool b =>
      cases h1
      cases h2
      refine ⟨fun e => (nomatch e), fun _ => ?_⟩
      walk_at "no"; walk_at "no"
      walk_at "no"; walk_at "no"
      walk_at "no"; walk_at "no"
      refine ⟨fun _ => ?_, fun e => (nomatch e)⟩
      show Q (.bl (decide (b = b))) H
      rw [decide_eq_true rfl]
      exact k _ (Same.refl _)
    | int i =>
      cases h1
      cases h2
      refine ⟨fun e => (nomatch e), fun _ => ?_⟩
      walk_at "no"; walk_at "no"
      walk_at "no"; walk_at "no"
      walk_at "no"; walk_at "no"
      refine ⟨fun _ => ?_, fun e => (nomatch e)⟩
      show Q (.bl (decide (i = i))) H
      rw [decide_eq_true rfl]
      exact k _ (Same.refl _)
    | str i =>
      cases h1
      cases h2
      refine ⟨fun e => (nomatch e), fun _ => ?_⟩
      walk_at "no"; walk_at "no"
      walk_at "no"; walk_at "no"
      walk_at "no"; walk_at "no"
      refine ⟨fun _ => ?_, fun e => (nomatch e)⟩
      show Q (.bl (decide (i = i))) H
      rw [decide_eq_true rfl]
      exact k _ (Same.refl _)
    | list ds =>
      cases n with
      | zero => exact hd.elim
      | succ m =>
      cases h1 with
      | lst hx dx =>
      cases h2 with
      | lst hy dy =>
      refine ⟨fun e => (nomatch e), fun _ => ?_⟩
      walk_at "isl"; walk_at "isl"; walk_at "no"; walk_at "isl"; walk_at "isl"; walk_at "no"
      walk_at "isl"; walk_at "no"; walk_at "isl"; walk_at "yes"
      refine ⟨_, .inl ⟨_, .inl hx, rfl⟩, _, .inl ⟨_, .inl hy, rfl⟩, ?_⟩
      refine two1 (decide_eq_true ?_) ?_
      · rw [dpAll_length dx, dpAll_length dy]
      · exact all_same (.inl hx) (.inl hy) dx dy hd.1 hd.2 k
    | tuple ds =>
      cases n with
      | zero => exact hd.elim
      | succ m =>
      cases h1 with
      | tup hx dx =>
      cases h2 with
      | tup hy dy =>
      refine ⟨fun e => (nomatch e), fun _ => ?_⟩
      walk_at "ist"; walk_at "ist"; walk_at "no"; walk_at "ist"; walk_at "ist"; walk_at "no"
      walk_at "ist"; walk_at "yes"; walk_at "yes"
      refine ⟨_, .inl ⟨_, .inr hx, rfl⟩, _, .inl ⟨_, .inr hy, rfl⟩, ?_⟩
      refine two1 (decide_eq_true ?_) ?_
      · rw [dpAll_length dx, dpAll_length dy]
      · exact all_same (.inr hx) (.inr hy) dx dy hd.1 hd.2 k
    | dict _ => cases h1
  · exact h.elim
theorem r_LsameA {K : PySem.W.Frag} {n : Nat} {x y : Str} {vs : List V} {H : Hp} {Q : VK} {E : XK} (h : sp_same K (n + 1) vs H Q E) : t_LsameA K (sp_same K n) (Dn Q) (start [x, y, "_law_k"] vs) H := by
  unfold sp_same at h
  split at h
  · obtain ⟨d, m, e, hd, h1, h2, k⟩ := h
    cases e
    cases d with
    | none =>
      cases h1
      cases h2
      walk_at "no"; walk_at "no"
      exact ⟨fun _ => k _ (Same.refl _), fun e => nomatch e⟩
    | bool b =>
      cases h1
      cases h2
      walk_at "no"; walk_at "no"
      refine ⟨fun e => (nomatch e), fun _ => ?_⟩
      walk_at "yes"; walk_at "yes"
      show Q (.bl (decide (b = b))) H
      rw [decide_eq_true rfl]
      exact k _ (Same.refl _)
    | int i =>
      cases h1
      cases h2
      walk_at "no"; walk_at "no"
      refine ⟨fun e => (nomatch e), fun _ => ?_⟩
      walk_at "no"; walk_at "no"
      walk_at "yes"
      show Q (.bl (decide (i = i))) H
      rw [decide_eq_true rfl]
      exact k _ (Same.refl _)
    | str i =>
      cases h1
      cases h2
      walk_at "no"; walk_at "no"
      refine ⟨fun e => (nomatch e), fun _ => ?_⟩
      walk_at "no"; walk_at "yes"; walk_at "yes"
      show Q (.bl (decide (i = i))) H
      rw [decide_eq_true rfl]
      exact k _ (Same.refl _)
    | list ds =>
      cases n with
      | zero => exact hd.elim
      | succ m =>
      cases h1 with
      | lst hx dx =>
      cases h2 with
      | lst hy dy =>
      walk_at "isl"; walk_at "no"; walk_at "isl"; walk_at "yes"; walk_at "isl"; walk_at "no"
      refine ⟨_, .inl ⟨_, .inl hx, rfl⟩, _, .inl ⟨_, .inl hy, rfl⟩, ?_⟩
      refine two0 ?_ ?_
      · rw [dpAll_length dx, dpAll_length dy]
        simp
      · exact all_same (.inl hx) (.inl hy) dx dy hd.1 hd.2 k
    | tuple ds =>
      cases n with
      | zero => exact hd.elim
      | succ m =>
      cases h1 with
      | tup hx dx =>
      cases h2 with
      | tup hy dy =>
      walk_at "ist"; walk_at "yes"; walk_at "ist"; walk_at "no"
      refine ⟨_, .inl ⟨_, .inr hx, rfl⟩, _, .inl ⟨_, .inr hy, rfl⟩, ?_⟩
      refine two0 ?_ ?_
      · rw [dpAll_length dx, dpAll_length dy]
        simp
      · exact all_same (.inr hx) (.inr hy) dx dy hd.1 hd.2 k
    | dict _ => cases h1
  · exact h.elim
end Co
end

section
set_option maxHeartbeats 4000000
namespace Co
open PySem PySem.Spec PyProof.Rows L2
theorem zip_lookup : ∀ {ks : List Str} {vs : List V} {f : Str} {i : Nat} {v : V}, ks.findIdx? (fun g => decide (g = f)) = some i → vs[i]? = some v → (ks.zip vs).lookup f = some v
  | [], _, _, _, _, h, _ => by simp at h
  | k :: ks, [], _, _, _, _, h => by simp at h
  | k :: ks, w :: vs, f, i, v, h, e => by
    rw [List.zip_cons_cons]
    by_cases z : k = f
    · subst z
      simp [List.findIdx?_cons] at h
      subst h
      simp at e
      subst e
      simp [List.lookup]
    · rw [List.findIdx?_cons] at h
      simp only [decide_eq_false z, Bool.false_eq_true, if_false] at h
      rw [Option.map_eq_some_iff] at h
      obtain ⟨j, h1, h2⟩ := h
      subst h2
      have e' : (f == k) = false := beq_eq_false_iff_ne.mpr fun q => z q.symm
      rw [List.lookup_cons, e']
      exact zip_lookup h1 (by simpa using e)
theorem zip_none : ∀ {ks : List Str} {vs : List V} {f : Str}, ks.all (fun g => decide (g ≠ f)) = true → (ks.zip vs).lookup f = none
  | [], _, _, _ => rfl
  | k :: ks, [], _, _ => rfl
  | k :: ks, w :: vs, f, h => by
    rw [List.all_cons, Bool.and_eq_true] at h
    have e' : (f == k) = false := beq_eq_false_iff_ne.mpr fun q => of_decide_eq_true h.1 q.symm
    rw [List.zip_cons_cons, List.lookup_cons, e']
    exact zip_none h.2
theorem zip_putF : ∀ {ks : List Str} {vs : List V} {f : Str} {i : Nat} {v : V}, ks.findIdx? (fun g => decide (g = f)) = some i → i < vs.length → putF f v (ks.zip vs) = ks.zip (vs.set i v)
  | [], _, _, _, _, h, _ => by simp at h
  | k :: ks, [], _, _, _, _, h => by simp at h
  | k :: ks, w :: vs, f, i, v, h, e => by
    rw [List.zip_cons_cons]
    by_cases z : k = f
    · subst z
      simp [List.findIdx?_cons] at h
      subst h
      simp [putF]
    · rw [List.findIdx?_cons] at h
      simp only [decide_eq_false z, Bool.false_eq_true, if_false] at h
      rw [Option.map_eq_some_iff] at h
      obtain ⟨j, h1, h2⟩ := h
      subst h2
      show (if k = f then _ else _) = _
      rw [if_neg z, zip_putF h1 (by simpa using e), List.set_cons_succ, List.zip_cons_cons]
theorem zip_new : ∀ {ks : List Str} {vs : List V} {f : Str} {v : V}, ks.all (fun g => decide (g ≠ f)) = true → ks.length = vs.length → putF f v (ks.zip vs) = (ks ++ [f]).zip (vs ++ [v])
  | [], [], f, v, _, _ => rfl
  | [], _ :: _, _, _, _, e => by simp at e
  | _ :: _, [], _, _, _, e => by simp at e
  | k :: ks, w :: vs, f, v, h, e => by
    rw [List.all_cons, Bool.and_eq_true] at h
    rw [List.zip_cons_cons]
    show (if k = f then _ else _) = _
    rw [if_neg (of_decide_eq_true h.1), zip_new h.2 (by simpa using e)]
    rfl
theorem zip_val {κ : Type} [DecidableEq κ] : ∀ {ks : List κ} {vs : List V} {f : κ} {i : Nat} {v : V}, ks.findIdx? (fun g => decide (g = f)) = some i → vs[i]? = some v → valV (ks.zip vs) f = some v
  | [], _, _, _, _, h, _ => by simp at h
  | k :: ks, [], _, _, _, _, h => by simp at h
  | k :: ks, w :: vs, f, i, v, h, e => by
    rw [List.zip_cons_cons]
    by_cases z : k = f
    · subst z
      simp [List.findIdx?_cons] at h
      subst h
      simp at e
      subst e
      exact valV_pos rfl
    · rw [List.findIdx?_cons] at h
      simp only [decide_eq_false z, Bool.false_eq_true, if_false] at h
      rw [Option.map_eq_some_iff] at h
      obtain ⟨j, h1, h2⟩ := h
      subst h2
      rw [valV_neg (p := (k, w)) z]
      exact zip_val h1 (by simpa using e)
theorem putK_pos {κ : Type} [DecidableEq κ] {p : κ × V} {r : List (κ × V)} {k : κ} {v : V} (e : p.1 = k) (hn : ∀ q ∈ r, q.1 ≠ k) : putK (p :: r) k v = (k, v) :: r := by
  unfold putK
  have h : ((p :: r).any fun kv => decide (kv.1 = k)) = true := by simp [e]
  rw [if_pos h, List.map_cons, if_pos e]
  congr 1
  · rw [e]
  · rw [List.map_congr_left (g := id) fun q hq => by rw [if_neg (hn q hq)]; rfl]
    simp
theorem zip_mem_fst {κ : Type} : ∀ {ks : List κ} {vs : List V} {q : κ × V}, q ∈ ks.zip vs → q.1 ∈ ks := fun {ks vs q} h => (List.of_mem_zip (a := q.1) (b := q.2) h).1
theorem zip_putK {κ : Type} [DecidableEq κ] : ∀ {ks : List κ} {vs : List V} {f : κ} {i : Nat} {v : V}, ks.Nodup → ks.findIdx? (fun g => decide (g = f)) = some i → i < vs.length → putK (ks.zip vs) f v = ks.zip (vs.set i v)
  | [], _, _, _, _, _, h, _ => by simp at h
  | k :: ks, [], _, _, _, _, _, h => by simp at h
  | k :: ks, w :: vs, f, i, v, hn, h, e => by
    rw [List.nodup_cons] at hn
    rw [List.zip_cons_cons]
    by_cases z : k = f
    · subst z
      simp [List.findIdx?_cons] at h
      subst h
      rw [putK_pos rfl fun q hq (e : q.1 = k) => hn.1 (by rw [← e]; exact zip_mem_fst hq)]
      rfl
    · rw [List.findIdx?_cons] at h
      simp only [decide_eq_false z, Bool.false_eq_true, if_false] at h
      rw [Option.map_eq_some_iff] at h
      obtain ⟨j, h1, h2⟩ := h
      subst h2
      have ih := zip_putK (v := v) hn.2 h1 (vs := vs) (by simpa using e)
      rw [List.set_cons_succ, List.zip_cons_cons, ← ih]
      unfold putK
      have ha : ((((k, w) : κ × V) :: ks.zip vs).any fun kv => decide (kv.1 = f)) = ((ks.zip vs).any fun kv => decide (kv.1 = f)) := by
        rw [List.any_cons, decide_eq_false z, Bool.false_or]
      rw [ha]
      split
      · rw [List.map_cons, if_neg z]
      · rfl
theorem mergeK_zip : ∀ {ks : List Key} {vs : List V} {acc : List (Key × V)}, ks.Nodup → (∀ k ∈ ks, valV acc k = none) → mergeK acc (ks.zip vs) = acc ++ ks.zip vs
  | [], _, _, _, _ => by simp [mergeK]
  | k :: ks, [], _, _, _ => by simp [mergeK]
  | k :: ks, v :: vs, acc, hn, h => by
    rw [List.nodup_cons] at hn
    rw [List.zip_cons_cons]
    show mergeK (putK acc k v) (ks.zip vs) = _
    have hk := h k List.mem_cons_self
    rw [putK_new v hk, mergeK_zip hn.2 fun j hj => ?_]
    · simp
    · rw [valV_snoc k j v acc hk]
      rw [if_neg (show ¬ j = k from fun e => hn.1 (by rw [← e]; exact hj))]
      exact h j (List.mem_cons_of_mem _ hj)
theorem mergeK_zip0 {ks : List Key} {vs : List V} (h : ks.Nodup) : mergeK [] (ks.zip vs) = ks.zip vs := mergeK_zip h fun _ _ => rfl
def uWhile (c : TT) (tb : TS) : TS := fun D σ H => ∃ W : Nat → St → Hp → Prop, (∃ m, W m σ H) ∧ ∀ m σ H, W m σ H →
  c σ H fun b H1 => two b (tb { D with nx := fun σ' H' => ∃ m', m' < m ∧ W m' σ' H', ct := fun σ' H' => ∃ m', m' < m ∧ W m' σ' H', bk := D.nx } σ H1) (D.nx σ H1)
theorem s_while {X : Cx} {pos : Pos} {c : Expr} {body : List Stmt} {tc : TT} {tb : TS} (hp : PassesOwn (model X.prog X.w) X.A X.env X.xe) (hc : PT X c tc) (hb : PSs X body tb) : PS X (.While c body [] pos) (uWhile tc tb) := by
  have hc' : PT X c fun σ H Q => tc σ H Q := hc
  refine ⟨fun pins s σ H D I h => ?_⟩
  obtain ⟨W, ⟨m0, w0⟩, turn⟩ := h
  refine wpAny_While (codeAny_whileLoop (fun n s' => ∃ σ' H', Inv X pins σ' H' s' ∧ W n σ' H') ?_ m0 ⟨σ, H, I, w0⟩)
  rintro n s1 ⟨σ1, H1, I1, w1⟩
  refine wpAny_passesOwn hp (thn (hc.run pins s1 σ1 H1 _ I1 (turn n σ1 H1 w1)) fun b s2 ⟨H2, I2, q2⟩ => ?_)
  cases b with
  | true =>
    rw [if_pos rfl]
    refine wpAny_passesOwn hp (thn (hb.run pins s2 σ1 H2 _ I2 (q2.1 rfl)) fun f s3 q3 => ?_)
    cases f with
    | next =>
      obtain ⟨σ3, H3, I3, m', hm, w3⟩ := q3
      exact ⟨m', hm, σ3, H3, I3, w3⟩
    | cont =>
      obtain ⟨σ3, H3, I3, m', hm, w3⟩ := q3
      exact ⟨m', hm, σ3, H3, I3, w3⟩
    | brk => exact q3
    | ret v => exact q3
  | false =>
    rw [if_neg Bool.false_ne_true]
    exact wpAny_execs_nil ⟨σ1, H2, I2, q2.2 rfl⟩
theorem fn_to0 {P : Program} {w : World} {K : PySem.W.Frag} {mg : Str → Option Value} {base : Heap} {k : Nat} {f : Addr} {fd : FuncData} {ps : List Str} {sp : Sp} (F : FnOk P w K mg base (L2.CX P w) k f fd ps sp) (hE : ∀ vs H Q E, sp vs H Q E → sp vs H Q E0) : FnOk P w K mg base CX0 k f fd ps sp :=
  ⟨F.len, fun A outer s H args us vs Q E hr he hb hv hs => codeAny_mono (F.run A outer s H args us vs Q E0 hr he hb hv (hE _ _ _ _ hs)) fun r s' hq => by
    cases r with
    | error e =>
      obtain ⟨_, _, _, _, _, _, _, _, _, _, _, _, z⟩ := (show L2.CX P w outer H s E0 e s' from hq)
      exact z.elim
    | ok fl => cases fl <;> exact hq⟩
theorem fn_by {P : Program} {w : World} {K : PySem.W.Frag} {mg : Str → Option Value} {base : Heap} {k : Nat} {f : Addr} {ps : List Str} {sp : Sp} {x qual : Str} {params : Arguments} {body : List Stmt} {scope : Scope} {fd : FuncData} {N : List Str} (F : FunD K x qual params body scope [] [] f fd) (S : FnScope N ps scope)
    (len : ∀ vs H Q E, sp vs H Q E → vs.length = ps.length)
    (hbody : ∀ (cdv : Value) (A : Around) (outer : List Env) (s : Shared) (H : Hp) (vs : List V) (Q : VK) (E : XK), Room k (A.deeper (envOfC qual scope s.heap.objs.size f cdv)) → sp vs H Q E →
      ∃ t, PSs (cxOf (L2.CX P w) P w K mg base N qual scope f cdv A outer s H E) body t ∧ t { nx := fun _ H' => Q .non H', rt := Q } (start N vs) H) : FnOk P w K mg base (L2.CX P w) (k + 1) f fd ps sp := F.ok S len hbody
end Co
end

section
set_option maxHeartbeats 4000000
namespace Co.Vs
open PySem PySem.Spec PyProof.Rows L2 Co
structure VS where
  st : List Int
  ar : List (Option Nat)
  la : List (Option Nat)
  cur : Nat
structure Wf (s : VS) : Prop where
  c : s.cur < s.ar.length
  l1 : s.st.length = s.ar.length
  l2 : s.la.length = s.ar.length
  up : ∀ (i j : Nat), s.ar[i]? = some (some j) → j < i
  lt : ∀ (i j : Nat), s.la[i]? = some (some j) → j < s.ar.length
def climb (ar : List (Option Nat)) : Nat → Nat → List (Option Nat) → List (Option Nat)
  | 0, _, la => la
  | f + 1, i, la => match ar[i]? with
    | some (some j) => climb ar f j (la.set j (some i))
    | _ => la
def mkV (s : VS) (z : Int) : VS := ⟨s.st ++ [z], s.ar ++ [some s.cur], (s.la ++ [none]).set s.cur (some s.ar.length), s.ar.length⟩
def goV (s : VS) (i : Nat) : VS := { s with la := climb s.ar s.ar.length i s.la, cur := i }
abbrev Res := Except Str Nat
def step (s : VS) (k num z : Int) : VS × Res :=
  if k = 0 then (mkV s z, .ok s.ar.length)
  else if k = 1 then (match s.ar[s.cur]? with
    | some (some j) => ({ s with la := s.la.set j (some s.cur), cur := j }, .ok j)
    | _ => (s, .error "undo"))
  else if k = 2 then (match s.la[s.cur]? with
    | some (some j) => ({ s with cur := j }, .ok j)
    | _ => (s, .error "redo"))
  else if num < 0 ∨ (s.ar.length : Int) ≤ num then (s, .error "none")
  else (goV s num.toNat, .ok num.toNat)
def oV : Option Nat → V
  | none => .non
  | some j => .int (j : Int)
abbrev Cv (K : PySem.W.Frag) : Addr := He.ga K "Versions"
abbrev ksV : List Str := ["_states", "_made_from", "_remembered", "present"]
structure Ver (K : PySem.W.Frag) (H : Hp) (v ls lm lr : Addr) (s : VS) : Prop where
  ob : ∃ dx, H v = some (.ins (Cv K) dx (ksV.zip [.ref ls, .ref lm, .ref lr, .int (s.cur : Int)]))
  hs : H ls = some (.lst (s.st.map V.int))
  hm : H lm = some (.lst (s.ar.map oV))
  hr : H lr = some (.lst (s.la.map oV))
  n1 : ls ≠ lm
  n2 : ls ≠ lr
  n3 : lm ≠ lr
abbrev ksB : List Key := [.inr "at", .inr "around", .inr "later", .inr "states"]
structure Box (H : Hp) (b la ll ls : Addr) (s : VS) : Prop where
  hb : H b = some (.dK (ksB.zip [.int (s.cur : Int), .ref la, .ref ll, .ref ls]))
  ha : H la = some (.lst (s.ar.map oV))
  hl : H ll = some (.lst (s.la.map oV))
  hs : H ls = some (.lst (s.st.map V.int))
  n1 : la ≠ ll
  n2 : la ≠ ls
  n3 : ll ≠ ls
def ResAt (H H' : Hp) (r : Res) (v : V) : Prop := match r with
  | .ok j => v = .int (j : Int)
  | .error x => ∃ p, v = .ref p ∧ H p = none ∧ H' p = some (.tup [.str "refused", .str x])
structure CK (K : PySem.W.Frag) : Prop where
  cl : Cls K (Cv K)
  a1 : NoAttr K (Cv K) "_states"
  a2 : NoAttr K (Cv K) "_made_from"
  a3 : NoAttr K (Cv K) "_remembered"
  a4 : NoAttr K (Cv K) "present"
def sp_init (K : PySem.W.Frag) : Sp := fun vs H Q _ => match vs with
  | [.ref v, .int z] => ∃ dx, H v = some (.ins (Cv K) dx []) ∧ ∀ ls lm lr H', H ls = none → H lm = none → H lr = none → Ver K H' v ls lm lr ⟨[z], [none], [none], 0⟩ → Fr [v] H H' → Q .non H'
  | _ => False
def sp_check (K : PySem.W.Frag) : Sp := fun vs H Q E => match vs with
  | [.ref v, .int i] => ∃ ls lm lr s, Ver K H v ls lm lr s ∧ s.st.length ≤ 1000 ∧ (0 ≤ i → i < s.st.length → Q .non H) ∧ (i < 0 ∨ s.st.length ≤ i → E (.ref (He.ga K "NoVersion")) none H)
  | _ => False
def sp_state (K : PySem.W.Frag) : Sp := fun vs H Q _ => match vs with
  | [.ref v] => ∃ ls lm lr s z, Ver K H v ls lm lr s ∧ s.st[s.cur]? = some z ∧ Q (.int z) H
  | _ => False
def sp_state_of (K : PySem.W.Frag) : Sp := fun vs H Q E => match vs with
  | [.ref v, .int i] => ∃ ls lm lr s, Ver K H v ls lm lr s ∧ s.st.length ≤ 1000 ∧ (∀ z, 0 ≤ i → s.st[i.toNat]? = some z → Q (.int z) H) ∧ (i < 0 ∨ s.st.length ≤ i → E (.ref (He.ga K "NoVersion")) none H)
  | _ => False
def sp_made (K : PySem.W.Frag) : Sp := fun vs H Q _ => match vs with
  | [.ref v] => ∃ ls lm lr s, Ver K H v ls lm lr s ∧ ∀ p H', H p = none → H' p = some (.tup (s.ar.map oV)) → Same H H' → Q (.ref p) H'
  | _ => False
def sp_rem (K : PySem.W.Frag) : Sp := fun vs H Q _ => match vs with
  | [.ref v] => ∃ ls lm lr s z, Ver K H v ls lm lr s ∧ s.la[s.cur]? = some z ∧ Q (oV z) H
  | _ => False
def sp_make (K : PySem.W.Frag) : Sp := fun vs H Q _ => match vs with
  | [.ref v, .int z] => ∃ ls lm lr s, Ver K H v ls lm lr s ∧ Wf s ∧ s.st.length ≤ 1000 ∧ ∀ H', Ver K H' v ls lm lr (mkV s z) → Fr [v, ls, lm, lr] H H' → Q (.int (s.ar.length : Int)) H'
  | _ => False
def sp_undo (K : PySem.W.Frag) : Sp := fun vs H Q E => match vs with
  | [.ref v] => ∃ ls lm lr s, Ver K H v ls lm lr s ∧ Wf s ∧ (∀ j H', s.ar[s.cur]? = some (some j) → Ver K H' v ls lm lr { s with la := s.la.set j (some s.cur), cur := j } → Fr [v, ls, lm, lr] H H' → Q (.int (j : Int)) H') ∧
      (s.ar[s.cur]? = some none → E (.ref (He.ga K "NothingToUndo")) none H)
  | _ => False
def sp_redo (K : PySem.W.Frag) : Sp := fun vs H Q E => match vs with
  | [.ref v] => ∃ ls lm lr s, Ver K H v ls lm lr s ∧ Wf s ∧ (∀ j H', s.la[s.cur]? = some (some j) → Ver K H' v ls lm lr { s with cur := j } → Fr [v, ls, lm, lr] H H' → Q (.int (j : Int)) H') ∧
      (s.la[s.cur]? = some none → E (.ref (He.ga K "NothingToRedo")) none H)
  | _ => False
def sp_go (K : PySem.W.Frag) : Sp := fun vs H Q E => match vs with
  | [.ref v, .int i] => ∃ ls lm lr s, Ver K H v ls lm lr s ∧ Wf s ∧ s.st.length ≤ 1000 ∧ (∀ H', 0 ≤ i → i < s.st.length → Ver K H' v ls lm lr (goV s i.toNat) → Fr [v, ls, lm, lr] H H' → Q (.int i) H') ∧
      (i < 0 ∨ s.st.length ≤ i → E (.ref (He.ga K "NoVersion")) none H)
  | _ => False
def sp_due : Sp := fun vs H Q _ => match vs with
  | [.ref b, .int k, .int num] => ∃ la ll ls s, Box H b la ll ls s ∧ Wf s ∧ s.st.length ≤ 1000 ∧ ∀ v H', Box H' b la ll ls { s with ar := (step s k num 0).1.ar, la := (step s k num 0).1.la } → ResAt H H' (step s k num 0).2 v → Fr [la, ll] H H' → Q v H'
  | _ => False
def sp_told (K : PySem.W.Frag) : Sp := fun vs H Q _ => match vs with
  | [.ref v, .int k, .int num, .int z] => ∃ ls lm lr s, Ver K H v ls lm lr s ∧ Wf s ∧ s.st.length ≤ 1000 ∧ ∀ x H', Ver K H' v ls lm lr (step s k num z).1 → ResAt H H' (step s k num z).2 x → Fr [v, ls, lm, lr] H H' → Q x H'
  | _ => False
def sp_seen (K : PySem.W.Frag) : Sp := fun vs H Q _ => match vs with
  | [.ref v, .ref b] => ∃ ls lm lr la ll l2 s, Ver K H v ls lm lr s ∧ Box H b la ll l2 s ∧ Wf s ∧ s.st.length ≤ 1000 ∧ ∀ H', Same H H' → Q (.bl true) H'
  | _ => False
def sp_nost (K : PySem.W.Frag) : Sp := fun vs H Q _ => match vs with
  | [.ref v, .int i] => ∃ ls lm lr s, Ver K H v ls lm lr s ∧ s.st.length ≤ 1000 ∧ (i < 0 ∨ s.st.length ≤ i) ∧ Q (.bl true) H
  | _ => False
def sp_law (K : PySem.W.Frag) : Sp := fun vs H Q _ => match vs with
  | [.ref a] => ∃ ns : List Int, SqL K H a (ns.map V.int) ∧ ns.length ≤ 63 ∧ ∀ H', Q (.bl true) H'
  | _ => False
end Co.Vs
end

section
set_option maxHeartbeats 4000000
namespace Co.Vs
open PySem PySem.Spec PyProof.Rows L2 Co
def t_Versions_init (K : PySem.W.Frag) (E : XK) : TS :=
 (tSeq (sFld K (tV 0) (tLst (tCons (tV 1) tNil)) "_states")
 (tSeq (sFld K (tV 0) (tLst (tCons (tC .non) tNil)) "_made_from")
 (tSeq (sFld K (tV 0) (tLst (tCons (tC .non) tNil)) "_remembered")
 (sFld K (tV 0) (tC (.int 0)) "present"))))
def t_Versions_check (K : PySem.W.Frag) (E : XK) : TS :=
 (uIfS (uOr (tBo (tOp fLt (tV 1) (tC (.int 0)))) (tBo (tOp fGe (tV 1) (tCB (rLenQ K) (tCons (tFld K (tV 0) "_states") tNil))))) (sRaise (fun cls d _ H => E cls d H) (.ref (He.ga K "NoVersion"))) tNext)
def t_Versions_state (K : PySem.W.Frag) (E : XK) : TS :=
 (tRet (tOp (rIxL K) (tFld K (tV 0) "_states") (tFld K (tV 0) "present")))
def t_Versions_state_of (K : PySem.W.Frag) (E : XK) : TS :=
 (tSeq (tDrop (uMeth (He.ga K "Versions") "_check" (sp_check K) (fun _ => E) (tV 0) (tCons (tV 1) tNil)))
 (tRet (tOp (rIxL K) (tFld K (tV 0) "_states") (tV 1))))
def t_Versions_made_from (K : PySem.W.Frag) (E : XK) : TS :=
 (tRet (tCB (rTupOf K) (tCons (tFld K (tV 0) "_made_from") tNil)))
def t_Versions_remembered (K : PySem.W.Frag) (E : XK) : TS :=
 (tRet (tOp (rIxL K) (tFld K (tV 0) "_remembered") (tFld K (tV 0) "present")))
def t_Versions_make (K : PySem.W.Frag) (E : XK) : TS :=
 (tSeq (tAsg (tCB (rLenQ K) (tCons (tFld K (tV 0) "_states") tNil)) (gName 2))
 (tSeq (tDrop (tBM K "list" rAppend (tFld K (tV 0) "_states") (tCons (tV 1) tNil)))
 (tSeq (tDrop (tBM K "list" rAppend (tFld K (tV 0) "_made_from") (tCons (tFld K (tV 0) "present") tNil)))
 (tSeq (tDrop (tBM K "list" rAppend (tFld K (tV 0) "_remembered") (tCons (tC .non) tNil)))
 (tSeq (tAsg (tV 2) (gSub (tFld K (tV 0) "_remembered") (tFld K (tV 0) "present") rSetL))
 (tSeq (sFld K (tV 0) (tV 2) "present")
 (tRet (tV 2))))))))
def t_Versions_undo (K : PySem.W.Frag) (E : XK) : TS :=
 (tSeq (tAsg (tOp (rIxL K) (tFld K (tV 0) "_made_from") (tFld K (tV 0) "present")) (gName 1))
 (tSeq (uIfS (tBo (tIs (tV 1))) (sRaise (fun cls d _ H => E cls d H) (.ref (He.ga K "NothingToUndo"))) tNext)
 (tSeq (tAsg (tFld K (tV 0) "present") (gSub (tFld K (tV 0) "_remembered") (tV 1) rSetL))
 (tSeq (sFld K (tV 0) (tV 1) "present")
 (tRet (tV 1))))))
def t_Versions_redo (K : PySem.W.Frag) (E : XK) : TS :=
 (tSeq (tAsg (tOp (rIxL K) (tFld K (tV 0) "_remembered") (tFld K (tV 0) "present")) (gName 1))
 (tSeq (uIfS (tBo (tIs (tV 1))) (sRaise (fun cls d _ H => E cls d H) (.ref (He.ga K "NothingToRedo"))) tNext)
 (tSeq (sFld K (tV 0) (tV 1) "present")
 (tRet (tV 1)))))
def t_Versions_go (K : PySem.W.Frag) (E : XK) : TS :=
 (tSeq (tDrop (uMeth (He.ga K "Versions") "_check" (sp_check K) (fun _ => E) (tV 0) (tCons (tV 1) tNil)))
 (tSeq (tAsg (tV 1) (gName 2))
 (tSeq (tAsg (tOp (rIxL K) (tFld K (tV 0) "_made_from") (tV 2)) (gName 3))
 (tSeq (uWhile (tBo (tNt (tV 3)))
 (tSeq (tAsg (tV 2) (gSub (tFld K (tV 0) "_remembered") (tV 3) rSetL))
 (tSeq (tAsg (tV 3) (gName 2))
 (tAsg (tOp (rIxL K) (tFld K (tV 0) "_made_from") (tV 2)) (gName 3)))))
 (tSeq (sFld K (tV 0) (tV 1) "present")
 (tRet (tV 1)))))))
def t_Ldue (K : PySem.W.Frag) (E : XK) : TS :=
 (tSeq (tAsg (tDGet (tV 0) (tC (.str "around"))) (gName 3))
 (tSeq (tAsg (tDGet (tV 0) (tC (.str "later"))) (gName 4))
 (tSeq (uIfS (tBo (tOp fEq (tV 1) (tC (.int 0)))) (tSeq (tDrop (tBM K "list" rAppend (tV 3) (tCons (tDGet (tV 0) (tC (.str "at"))) tNil)))
 (tSeq (tDrop (tBM K "list" rAppend (tV 4) (tCons (tC .non) tNil)))
 (tSeq (tAsg (tOp fSub (tCB (rLenQ K) (tCons (tV 3) tNil)) (tC (.int 1))) (gSub (tV 4) (tDGet (tV 0) (tC (.str "at"))) rSetL))
 (tRet (tOp fSub (tCB (rLenQ K) (tCons (tV 3) tNil)) (tC (.int 1))))))) tNext)
 (tSeq (uIfS (tBo (tOp fEq (tV 1) (tC (.int 1)))) (tSeq (uIfS (tBo (tIs (tOp (rIxL K) (tV 3) (tDGet (tV 0) (tC (.str "at")))))) (tRet (tTup (tCons (tC (.str "refused")) (tCons (tC (.str "undo")) tNil)))) tNext)
 (tSeq (tAsg (tDGet (tV 0) (tC (.str "at"))) (gSub (tV 4) (tOp (rIxL K) (tV 3) (tDGet (tV 0) (tC (.str "at")))) rSetL))
 (tRet (tOp (rIxL K) (tV 3) (tDGet (tV 0) (tC (.str "at"))))))) tNext)
 (tSeq (uIfS (tBo (tOp fEq (tV 1) (tC (.int 2)))) (tRet (uIf (tBo (tIs (tOp (rIxL K) (tV 4) (tDGet (tV 0) (tC (.str "at")))))) (tTup (tCons (tC (.str "refused")) (tCons (tC (.str "redo")) tNil))) (tOp (rIxL K) (tV 4) (tDGet (tV 0) (tC (.str "at")))))) tNext)
 (tSeq (uIfS (uOr (tBo (tOp fLt (tV 2) (tC (.int 0)))) (tBo (tOp fGe (tV 2) (tCB (rLenQ K) (tCons (tV 3) tNil))))) (tRet (tTup (tCons (tC (.str "refused")) (tCons (tC (.str "none")) tNil)))) tNext)
 (tSeq (tAsg (tV 2) (gName 5))
 (tSeq (tFor (iRng1 (tCons (tCB (rLenQ K) (tCons (tV 3) tNil)) tNil)) (gName 6)
 (uIfS (tBo (tNt (tOp (rIxL K) (tV 3) (tV 5)))) (tSeq (tAsg (tV 5) (gSub (tV 4) (tOp (rIxL K) (tV 3) (tV 5)) rSetL))
 (tAsg (tOp (rIxL K) (tV 3) (tV 5)) (gName 5))) tNext))
 (tRet (tV 2))))))))))
def t_Ltold (K : PySem.W.Frag) (E : XK) : TS :=
 (fun D σ H => (fun W => (tSeq (uIfS (tBo (tOp fEq (tV 1) (tC (.int 0)))) (tRet (uMeth (He.ga K "Versions") "make" (sp_make K) (fun _ => E0) (tV 0) (tCons (tV 3) tNil))) tNext)
 (tSeq (uIfS (tBo (tOp fEq (tV 1) (tC (.int 1)))) (tRet (uMeth (He.ga K "Versions") "undo" (sp_undo K) (WE W) (tV 0) tNil)) tNext)
 (tSeq (uIfS (tBo (tOp fEq (tV 1) (tC (.int 2)))) (tRet (uMeth (He.ga K "Versions") "redo" (sp_redo K) (WE W) (tV 0) tNil)) tNext)
 (tRet (uMeth (He.ga K "Versions") "go" (sp_go K) (WE W) (tV 0) (tCons (tV 2) tNil))))))) (wMany K (fun _ _ _ _ => False) D [(.ref (He.ga K "NothingToUndo"), fun _ _ _ => (tRet (tTup (tCons (tC (.str "refused")) (tCons (tC (.str "undo")) tNil))))), (.ref (He.ga K "NothingToRedo"), fun _ _ _ => (tRet (tTup (tCons (tC (.str "refused")) (tCons (tC (.str "redo")) tNil))))), (.ref (He.ga K "NoVersion"), fun _ _ _ => (tRet (tTup (tCons (tC (.str "refused")) (tCons (tC (.str "none")) tNil)))))]) D σ H)
def t_Lseen (K : PySem.W.Frag) (E : XK) : TS :=
 (tSeq (uIfS (uOr (tNot (tBo (uCall (sp_same K 2) E0 (tCons (tFld K (tV 0) "present") (tCons (tDGet (tV 1) (tC (.str "at"))) tNil))))) (tNot (tBo (uCall (sp_same K 2) E0 (tCons (uMeth (He.ga K "Versions") "state" (sp_state K) (fun _ => E0) (tV 0) tNil) (tCons (tOp (rIxL K) (tDGet (tV 1) (tC (.str "states"))) (tDGet (tV 1) (tC (.str "at")))) tNil)))))) (tRet (tC (.bl false))) tNext)
 (tSeq (uIfS (tNot (tBo (uCall (sp_same K 2) E0 (tCons (uMeth (He.ga K "Versions") "made_from" (sp_made K) (fun _ => E0) (tV 0) tNil) (tCons (tCB (rTupOf K) (tCons (tDGet (tV 1) (tC (.str "around"))) tNil)) tNil))))) (tRet (tC (.bl false))) tNext)
 (tRet (uCall (sp_same K 2) E0 (tCons (uMeth (He.ga K "Versions") "remembered" (sp_rem K) (fun _ => E0) (tV 0) tNil) (tCons (tOp (rIxL K) (tDGet (tV 1) (tC (.str "later"))) (tDGet (tV 1) (tC (.str "at")))) tNil))))))
def t_Lno_state (K : PySem.W.Frag) (E : XK) : TS :=
 (tSeq (fun D σ H => (fun W => (tDrop (uMeth (He.ga K "Versions") "state_of" (sp_state_of K) (WE W) (tV 0) (tCons (tV 1) tNil)))) (wOnly K (.ref (He.ga K "NoVersion")) (fun _ _ _ => (tRet (tC (.bl true)))) (fun _ _ _ _ => False) D) D σ H)
 (tRet (tC (.bl false))))
def t_law (K : PySem.W.Frag) (E : XK) : TS :=
 (tSeq (tAsg (uCall (sp_pool K) E0 (tCons (tV 0) tNil)) (gName 1))
 (tSeq (tAsg (tLst (tCons (uCall (sp_take 2) E0 (tCons (tV 1) (tCons (tC (.int 5)) tNil))) tNil)) (gName 2))
 (tSeq (tAsg (tDisp [((tC (.str "at")), (tC (.int 0))), ((tC (.str "around")), (tLst (tCons (tC .non) tNil))), ((tC (.str "later")), (tLst (tCons (tC .non) tNil))), ((tC (.str "states")), (tV 2))]) (gName 3))
 (tSeq (tAsg (uMake (He.ga K "Versions") (sp_init K) E0 (tCons (tOp (rIxL K) (tV 2) (tC (.int 0))) tNil)) (gName 4))
 (tSeq (tFor (iRng1 (tCons (uCall (sp_take 2) E0 (tCons (tV 1) (tCons (tC (.int 61)) tNil))) tNil)) (gName 5)
 (tSeq (tAsg (tOp fMod (uCall (sp_take 2) E0 (tCons (tV 1) (tCons (tC (.int 5)) tNil))) (tC (.int 4))) (gName 6))
 (tSeq (tAsg (tOp fSub (uCall (sp_take 2) E0 (tCons (tV 1) (tCons (tOp fAdd (tCB (rLenQ K) (tCons (tV 2) tNil)) (tC (.int 4))) tNil))) (tC (.int 2))) (gName 7))
 (tSeq (tAsg (tOp fMul (uCall (sp_take 2) E0 (tCons (tV 1) (tCons (tC (.int 3)) tNil))) (tOp (rIxT K) (tTup (tCons (tC (.int 1)) (tCons (tOp fPow (tC (.int 10)) (tC (.int 20))) tNil))) (uCall (sp_take 2) E0 (tCons (tV 1) (tCons (tC (.int 2)) tNil))))) (gName 8))
 (tSeq (tAsg (uCall sp_due E0 (tCons (tV 3) (tCons (tV 6) (tCons (tV 7) tNil)))) (gName 9))
 (tSeq (uIfS (tNot (tBo (uCall (sp_same K 2) E0 (tCons (uCall (sp_told K) E0 (tCons (tV 4) (tCons (tV 6) (tCons (tV 7) (tCons (tV 8) tNil))))) (tCons (tV 9) tNil))))) (tRet (tC (.bl false))) tNext)
 (tSeq (uIfS (tNot (tBo (tCB (cIsi K) (tCons (tV 9) (tCons (tC (.ty "tuple")) tNil))))) (sDPut (tV 3) (tC (.str "at")) (tV 9)) tNext)
 (tSeq (uIfS (tBo (tOp fEq (tV 6) (tC (.int 0)))) (tDrop (tBM K "list" rAppend (tV 2) (tCons (tV 8) tNil))) tNext)
 (uIfS (tNot (tBo (uCall (sp_seen K) E0 (tCons (tV 4) (tCons (tV 3) tNil))))) (tRet (tC (.bl false))) tNext)))))))))
 (tSeq (tFor (iRng1 (tCons (tCB (rLenQ K) (tCons (tV 2) tNil)) tNil)) (gName 10)
 (uIfS (tNot (tBo (uCall (sp_same K 2) E0 (tCons (uMeth (He.ga K "Versions") "state_of" (sp_state_of K) (fun _ => E0) (tV 4) (tCons (tV 10) tNil)) (tCons (tOp (rIxL K) (tV 2) (tV 10)) tNil))))) (tRet (tC (.bl false))) tNext))
 (tRet (uAndV (uCall (sp_nost K) E0 (tCons (tV 4) (tCons (tCB (rLenQ K) (tCons (tV 2) tNil)) tNil))) (uCall (sp_nost K) E0 (tCons (tV 4) (tCons (tUn fNeg (tC (.int 1))) tNil)))))))))))
end Co.Vs
end

section
set_option maxHeartbeats 4000000
namespace Co.Vs
open PySem PySem.Spec PyProof.Rows L2 Co
theorem upd_nn {H : Hp} {a b : Addr} {o : HO} (e : upd H a o b = none) : H b = none ∧ b ≠ a := by
  by_cases z : b = a
  · subst z
    rw [upd_same] at e
    cases e
  · rw [upd_ne z] at e
    exact ⟨e, z⟩
theorem lenF {n : Nat} {f : Str} {v : V} {fs : List (Str × V)} (h : fs.length < n) : (putF f v fs).length < n + 1 := by
  have := length_putF f v fs
  omega
local macro_rules | `(tactic| walk_at "no") => `(tactic| refine ⟨fun e => absurd e (by decide), fun _ => ?_⟩)
local macro_rules | `(tactic| walk_at "yes") => `(tactic| refine ⟨fun _ => ?_, fun e => absurd e (by decide)⟩)
section
variable {K : PySem.W.Frag} {vs : List V} {H : Hp} {Q : VK} {E : XK}
theorem Ver.ne {v ls lm lr : Addr} {s : VS} (r : Ver K H v ls lm lr s) : v ≠ ls ∧ v ≠ lm ∧ v ≠ lr := by
  obtain ⟨⟨dx, h⟩, hs, hm, hr, _⟩ := r
  exact ⟨ne_of h hs (by intro z; cases z), ne_of h hm (by intro z; cases z), ne_of h hr (by intro z; cases z)⟩
theorem fl_eq {a b c d : V} : putF "present" d (putF "_remembered" c (putF "_made_from" b (putF "_states" a []))) = ksV.zip [a, b, c, d] := by
  have e1 : putF "_states" a [] = (["_states"] : List Str).zip [a] := rfl
  rw [e1, zip_new (by decide +kernel) rfl, zip_new (by decide +kernel) rfl, zip_new (by decide +kernel) rfl]
  rfl
theorem fl_set {a b c d d' : V} : putF "present" d' (ksV.zip [a, b, c, d]) = ksV.zip [a, b, c, d'] := by
  rw [zip_putF (i := 3) (by decide +kernel) (by show 3 < 4; decide)]
  rfl
theorem r_init (c : CK K) (h : sp_init K vs H Q E) : t_Versions_init K E (Dn Q) (start ["self", "state"] vs) H := by
  unfold sp_init at h
  split at h
  · rename_i v z
    obtain ⟨dx, h1, k⟩ := h
    refine ⟨by show 1 ≤ sizeLine; rw [sizeLine_eq]; omega, fun ls hls => ⟨v, _, dx, [], rfl, keep_new hls h1, c.cl, c.a1, by decide, ?_⟩⟩
    have nvs : ls ≠ v := fun e => by subst e; rw [hls] at h1; cases h1
    refine ⟨by show 1 ≤ sizeLine; rw [sizeLine_eq]; omega, fun lm hlm => ⟨v, _, dx, _, rfl, keep_new hlm upd_same, c.cl, c.a2, by have := lenF (f := "_states") (v := V.ref ls) (fs := []) (n := 1) (by decide); omega, ?_⟩⟩
    obtain ⟨q1, nvm⟩ := upd_nn hlm
    obtain ⟨q2, nsm⟩ := upd_nn q1
    refine ⟨by show 1 ≤ sizeLine; rw [sizeLine_eq]; omega, fun lr hlr => ⟨v, _, dx, _, rfl, keep_new hlr upd_same, c.cl, c.a3, by have := lenF (f := "_made_from") (v := V.ref lm) (lenF (f := "_states") (v := V.ref ls) (fs := []) (n := 1) (by decide)); omega, ?_⟩⟩
    obtain ⟨r1, nvr⟩ := upd_nn hlr
    obtain ⟨r2, nmr⟩ := upd_nn r1
    obtain ⟨r3, _⟩ := upd_nn r2
    obtain ⟨r4, nsr⟩ := upd_nn r3
    refine ⟨v, _, dx, _, rfl, upd_same, c.cl, c.a4, by have := lenF (f := "_remembered") (v := V.ref lr) (lenF (f := "_made_from") (v := V.ref lm) (lenF (f := "_states") (v := V.ref ls) (fs := []) (n := 1) (by decide))); omega, ?_⟩
    refine k ls lm lr _ hls q2 r4 ⟨⟨dx, by rw [upd_same, fl_eq]; rfl⟩, ?_, ?_, ?_, nsm.symm, nsr.symm, nmr.symm⟩ ?_
    · exact keep_ne nvs (keep_ne nvs (keep_ne nsr.symm (keep_ne nvs (keep_ne nsm.symm (keep_ne nvs upd_same)))))
    · exact keep_ne nvm (keep_ne nvm (keep_ne nmr.symm (keep_ne nvm upd_same)))
    · exact keep_ne nvr (keep_ne nvr upd_same)
    · intro b o e n
      have nb : b ≠ v := by simpa using n
      exact keep_ne nb (keep_ne nb (keep_new hlr (keep_ne nb (keep_new hlm (keep_ne nb (keep_new hls e))))))
  · exact h.elim
theorem r_check (c : CK K) (h : sp_check K vs H Q E) : t_Versions_check K E (Dn Q) (start ["self", "version"] vs) H := by
  unfold sp_check at h
  split at h
  · rename_i v i
    obtain ⟨ls, lm, lr, s, r, hl, k1, k2⟩ := h
    obtain ⟨dx, ob⟩ := r.ob
    refine ⟨fun e => ⟨fun _ => k2 (.inl (of_decide_eq_true e)), fun e => (nomatch e)⟩, fun e => ?_⟩
    have e0 : ¬ i < 0 := of_decide_eq_false e
    refine ⟨v, _, dx, _, _, rfl, ob, c.cl, c.a1, zip_lookup (i := 0) (by decide +kernel) rfl, ls, _, rfl, .inl (SqL.of r.hs), ?_⟩
    refine ⟨fun e => k2 (.inr ?_), fun e => k1 (by omega) ?_⟩
    · have := of_decide_eq_true e
      rw [List.length_map] at this
      exact this
    · have := of_decide_eq_false e
      rw [List.length_map] at this
      omega
  · exact h.elim
theorem mapAt {α : Type} {f : α → V} {l : List α} {i : Nat} {x : α} (h : l[i]? = some x) : (l.map f)[i]? = some (f x) := by rw [List.getElem?_map, h]; rfl
theorem r_state (c : CK K) (h : sp_state K vs H Q E) : t_Versions_state K E (Dn Q) (start ["self"] vs) H := by
  unfold sp_state at h
  split at h
  · rename_i v
    obtain ⟨ls, lm, lr, s, z, r, hz, k⟩ := h
    obtain ⟨dx, ob⟩ := r.ob
    refine ⟨v, _, dx, _, _, rfl, ob, c.cl, c.a1, zip_lookup (i := 0) (by decide +kernel) rfl, ?_⟩
    refine ⟨v, _, dx, _, _, rfl, ob, c.cl, c.a4, zip_lookup (i := 3) (by decide +kernel) rfl, ?_⟩
    exact ⟨_, _, _, _, rfl, rfl, SqL.of r.hs, atI_nat (mapAt hz), k⟩
  · exact h.elim
theorem r_rem (c : CK K) (h : sp_rem K vs H Q E) : t_Versions_remembered K E (Dn Q) (start ["self"] vs) H := by
  unfold sp_rem at h
  split at h
  · rename_i v
    obtain ⟨ls, lm, lr, s, z, r, hz, k⟩ := h
    obtain ⟨dx, ob⟩ := r.ob
    refine ⟨v, _, dx, _, _, rfl, ob, c.cl, c.a3, zip_lookup (i := 2) (by decide +kernel) rfl, ?_⟩
    refine ⟨v, _, dx, _, _, rfl, ob, c.cl, c.a4, zip_lookup (i := 3) (by decide +kernel) rfl, ?_⟩
    exact ⟨_, _, _, _, rfl, rfl, SqL.of r.hr, atI_nat (mapAt hz), k⟩
  · exact h.elim
theorem r_made (c : CK K) (h : sp_made K vs H Q E) : t_Versions_made_from K E (Dn Q) (start ["self"] vs) H := by
  unfold sp_made at h
  split at h
  · rename_i v
    obtain ⟨ls, lm, lr, s, r, k⟩ := h
    obtain ⟨dx, ob⟩ := r.ob
    refine ⟨v, _, dx, _, _, rfl, ob, c.cl, c.a2, zip_lookup (i := 1) (by decide +kernel) rfl, ?_⟩
    exact ⟨_, _, rfl, .inl ⟨SqL.of r.hm, fun p hp => k p _ hp upd_same (same_new (Same.refl H) hp)⟩⟩
  · exact h.elim
theorem r_state_of (c : CK K) (h : sp_state_of K vs H Q E) : t_Versions_state_of K E (Dn Q) (start ["self", "version"] vs) H := by
  unfold sp_state_of at h
  split at h
  · rename_i v i
    obtain ⟨ls, lm, lr, s, r, hl, k1, k2⟩ := h
    obtain ⟨dx, ob⟩ := r.ob
    refine ⟨v, dx, _, rfl, ob, zip_none (by decide +kernel), ls, lm, lr, s, r, hl, fun h0 h1 => ?_, k2⟩
    have e : i = ((i.toNat : Nat) : Int) := by omega
    have hi : i.toNat < s.st.length := by omega
    refine ⟨v, _, dx, _, _, rfl, ob, c.cl, c.a1, zip_lookup (i := 0) (by decide +kernel) rfl, ?_⟩
    exact ⟨_, _, _, _, rfl, rfl, SqL.of r.hs, atNat h0 (mapAt (List.getElem?_eq_getElem hi)), k1 _ h0 (List.getElem?_eq_getElem hi)⟩
  · exact h.elim
theorem r_make (c : CK K) (h : sp_make K vs H Q E) : t_Versions_make K E (Dn Q) (start ["self", "state", "number"] vs) H := by
  unfold sp_make at h
  split at h
  · rename_i v z
    obtain ⟨ls, lm, lr, s, r, wf, hl, k⟩ := h
    obtain ⟨dx, ob⟩ := r.ob
    obtain ⟨nvs, nvm, nvr⟩ := r.ne
    have hsz : sizeLine = 16777216 := sizeLine_eq
    refine ⟨v, _, dx, _, _, rfl, ob, c.cl, c.a1, zip_lookup (i := 0) (by decide +kernel) rfl, ls, _, rfl, .inl (SqL.of r.hs), ?_⟩
    rw [List.length_map]
    refine ⟨v, _, dx, _, _, rfl, ob, c.cl, c.a1, zip_lookup (i := 0) (by decide +kernel) rfl, .inl ⟨rfl, _, SqL.of r.hs⟩, ls, _, _, rfl, rfl, r.hs, by rw [List.length_map]; omega, ?_⟩
    have ob1 := keep_ne (o' := .lst (s.st.map V.int ++ [V.int z])) nvs ob
    have hm1 := keep_ne (o' := .lst (s.st.map V.int ++ [V.int z])) r.n1.symm r.hm
    have hr1 := keep_ne (o' := .lst (s.st.map V.int ++ [V.int z])) r.n2.symm r.hr
    refine ⟨v, _, dx, _, _, rfl, ob1, c.cl, c.a2, zip_lookup (i := 1) (by decide +kernel) rfl, .inl ⟨rfl, _, SqL.of hm1⟩, ?_⟩
    refine ⟨v, _, dx, _, _, rfl, ob1, c.cl, c.a4, zip_lookup (i := 3) (by decide +kernel) rfl, lm, _, _, rfl, rfl, hm1, by rw [List.length_map]; have := wf.l1; omega, ?_⟩
    have ob2 := keep_ne (o' := .lst (s.ar.map oV ++ [V.int (s.cur : Int)])) nvm ob1
    have hr2 := keep_ne (o' := .lst (s.ar.map oV ++ [V.int (s.cur : Int)])) r.n3.symm hr1
    refine ⟨v, _, dx, _, _, rfl, ob2, c.cl, c.a3, zip_lookup (i := 2) (by decide +kernel) rfl, .inl ⟨rfl, _, SqL.of hr2⟩, lr, _, _, rfl, rfl, hr2, by rw [List.length_map]; have := wf.l1; have := wf.l2; omega, ?_⟩
    have ob3 := keep_ne (o' := .lst (s.la.map oV ++ [V.non])) nvr ob2
    refine ⟨v, _, dx, _, _, rfl, ob3, c.cl, c.a3, zip_lookup (i := 2) (by decide +kernel) rfl, ?_⟩
    refine ⟨v, _, dx, _, _, rfl, ob3, c.cl, c.a4, zip_lookup (i := 3) (by decide +kernel) rfl, ?_⟩
    have hc : s.cur < s.la.length := by rw [wf.l2]; exact wf.c
    refine ⟨lr, _, _, s.cur, rfl, rfl, upd_same, ?_, ?_⟩
    · unfold ixN
      rw [if_pos (by omega), if_pos (by rw [List.length_append, List.length_map]; simp; omega)]
      simp
    have ob4 := keep_ne (o' := .lst ((s.la.map oV ++ [V.non]).set s.cur (V.int (s.st.length : Int)))) nvr ob3
    refine ⟨v, _, dx, _, rfl, ob4, c.cl, c.a4, by show 4 < 1000; decide, ?_⟩
    have e1 : (s.st.length : Int) = (s.ar.length : Int) := by rw [wf.l1]
    show Q (.int (s.st.length : Int)) _
    rw [e1]
    refine k _ ⟨⟨dx, by rw [upd_same, fl_set]; rfl⟩, ?_, ?_, ?_, r.n1, r.n2, r.n3⟩ ?_
    · refine keep_ne nvs.symm (keep_ne r.n2 (keep_ne r.n2 (keep_ne r.n1 ?_)))
      rw [upd_same]
      simp [mkV]
    · refine keep_ne nvm.symm (keep_ne r.n3 (keep_ne r.n3 ?_))
      rw [upd_same]
      simp [mkV, oV]
    · refine keep_ne nvr.symm ?_
      rw [upd_same]
      simp [mkV, oV, List.map_set]
    · exact (((((Fr.refl _ H).wr (by simp)).wr (by simp)).wr (by simp)).wr (by simp)).wr (by simp)
  · exact h.elim
theorem oAt {s : VS} (wf : Wf s) : ∃ o, s.ar[s.cur]? = some o := ⟨_, List.getElem?_eq_getElem wf.c⟩
theorem lAt {s : VS} (wf : Wf s) : ∃ o, s.la[s.cur]? = some o := ⟨_, List.getElem?_eq_getElem (by rw [wf.l2]; exact wf.c)⟩
theorem ixN_nat {n j : Nat} (h : j < n) : ixN n (j : Int) = some j := by
  unfold ixN
  rw [if_pos (by omega), if_pos (by omega)]
  simp
theorem r_undo (c : CK K) (h : sp_undo K vs H Q E) : t_Versions_undo K E (Dn Q) (start ["self", "around"] vs) H := by
  unfold sp_undo at h
  split at h
  · rename_i v
    obtain ⟨ls, lm, lr, s, r, wf, k1, k2⟩ := h
    obtain ⟨dx, ob⟩ := r.ob
    obtain ⟨nvs, nvm, nvr⟩ := r.ne
    obtain ⟨o, ho⟩ := oAt wf
    refine ⟨v, _, dx, _, _, rfl, ob, c.cl, c.a2, zip_lookup (i := 1) (by decide +kernel) rfl, ?_⟩
    refine ⟨v, _, dx, _, _, rfl, ob, c.cl, c.a4, zip_lookup (i := 3) (by decide +kernel) rfl, ?_⟩
    refine ⟨_, _, _, _, rfl, rfl, SqL.of r.hm, atI_nat (mapAt ho), ?_⟩
    cases o with
    | none => exact ⟨fun _ => k2 ho, fun e => (nomatch e)⟩
    | some j =>
      refine ⟨fun e => (nomatch e), fun _ => ?_⟩
      have hj : j < s.la.length := by rw [wf.l2]; have := wf.up _ _ ho; have := wf.c; omega
      refine ⟨v, _, dx, _, _, rfl, ob, c.cl, c.a4, zip_lookup (i := 3) (by decide +kernel) rfl, ?_⟩
      refine ⟨v, _, dx, _, _, rfl, ob, c.cl, c.a3, zip_lookup (i := 2) (by decide +kernel) rfl, ?_⟩
      refine ⟨lr, _, _, j, rfl, rfl, r.hr, ixN_nat (by rw [List.length_map]; exact hj), ?_⟩
      refine ⟨v, _, dx, _, rfl, keep_ne nvr ob, c.cl, c.a4, by show 4 < 1000; decide, ?_⟩
      refine k1 j _ ho ⟨⟨dx, by rw [upd_same, fl_set]; rfl⟩, keep_ne nvs.symm (keep_ne r.n2 r.hs), keep_ne nvm.symm (keep_ne r.n3 r.hm), ?_, r.n1, r.n2, r.n3⟩ (((Fr.refl _ H).wr (by simp)).wr (by simp))
      refine keep_ne nvr.symm ?_
      rw [upd_same]
      simp [oV, List.map_set]
  · exact h.elim
theorem r_redo (c : CK K) (h : sp_redo K vs H Q E) : t_Versions_redo K E (Dn Q) (start ["self", "following"] vs) H := by
  unfold sp_redo at h
  split at h
  · rename_i v
    obtain ⟨ls, lm, lr, s, r, wf, k1, k2⟩ := h
    obtain ⟨dx, ob⟩ := r.ob
    obtain ⟨nvs, nvm, nvr⟩ := r.ne
    obtain ⟨o, ho⟩ := lAt wf
    refine ⟨v, _, dx, _, _, rfl, ob, c.cl, c.a3, zip_lookup (i := 2) (by decide +kernel) rfl, ?_⟩
    refine ⟨v, _, dx, _, _, rfl, ob, c.cl, c.a4, zip_lookup (i := 3) (by decide +kernel) rfl, ?_⟩
    refine ⟨_, _, _, _, rfl, rfl, SqL.of r.hr, atI_nat (mapAt ho), ?_⟩
    cases o with
    | none => exact ⟨fun _ => k2 ho, fun e => (nomatch e)⟩
    | some j =>
      refine ⟨fun e => (nomatch e), fun _ => ?_⟩
      refine ⟨v, _, dx, _, rfl, ob, c.cl, c.a4, by show 4 < 1000; decide, ?_⟩
      exact k1 j _ ho ⟨⟨dx, by rw [upd_same, fl_set]; rfl⟩, keep_ne nvs.symm r.hs, keep_ne nvm.symm r.hm, keep_ne nvr.symm r.hr, r.n1, r.n2, r.n3⟩ ((Fr.refl _ H).wr (by simp))
  · exact h.elim
theorem climb_len {ar : List (Option Nat)} : ∀ {f i : Nat} {la : List (Option Nat)}, (climb ar f i la).length = la.length
  | 0, _, _ => rfl
  | f + 1, i, la => by
    unfold climb
    split
    · rw [climb_len, List.length_set]
    · rfl
theorem r_go (c : CK K) (h : sp_go K vs H Q E) : t_Versions_go K E (Dn Q) (start ["self", "version", "following", "around"] vs) H := by
  unfold sp_go at h
  split at h
  · rename_i v i
    obtain ⟨ls, lm, lr, s, r, wf, hl, k1, k2⟩ := h
    obtain ⟨dx, ob⟩ := r.ob
    obtain ⟨nvs, nvm, nvr⟩ := r.ne
    refine ⟨v, dx, _, rfl, ob, zip_none (by decide +kernel), ls, lm, lr, s, r, hl, fun h0 h1 => ?_, k2⟩
    have e : i = ((i.toNat : Nat) : Int) := by omega
    have hi : i.toNat < s.ar.length := by have := wf.l1; omega
    refine ⟨v, _, dx, _, _, rfl, ob, c.cl, c.a2, zip_lookup (i := 1) (by decide +kernel) rfl, ?_⟩
    refine ⟨_, _, _, _, rfl, rfl, SqL.of r.hm, atNat h0 (mapAt (List.getElem?_eq_getElem hi)), ?_⟩
    refine ⟨fun m σ' H' => ∃ (x : Nat) (o : Option Nat) (la : List (Option Nat)), σ' = [some (.ref v), some (.int i), some (.int (x : Int)), some (oV o)] ∧ s.ar[x]? = some o ∧ x < m ∧ la.length = s.la.length ∧ climb s.ar m x la = climb s.ar s.ar.length i.toNat s.la ∧
        H' lr = some (.lst (la.map oV)) ∧ Fr [lr] H H', ⟨s.ar.length, i.toNat, _, s.la, by rw [← e]; rfl, List.getElem?_eq_getElem hi, hi, rfl, rfl, r.hr, Fr.refl _ _⟩, ?_⟩
    rintro m σ' H' ⟨x, o, la, rfl, ho, hm, hla, hc, hr, fr⟩
    have ob' := fr.at1 ob nvr
    cases o with
    | none =>
      refine ⟨fun e => (nomatch e), fun _ => ?_⟩
      refine ⟨v, _, dx, _, rfl, ob', c.cl, c.a4, by show 4 < 1000; decide, ?_⟩
      have hc' : la = climb s.ar s.ar.length i.toNat s.la := by
        rw [← hc]
        cases m with
        | zero => omega
        | succ m => unfold climb; rw [ho]
      refine k1 _ h0 h1 ⟨⟨dx, ?_⟩, keep_ne nvs.symm (fr.at1 r.hs r.n2), keep_ne nvm.symm (fr.at1 r.hm r.n3), ?_, r.n1, r.n2, r.n3⟩ ((fr.mono (by simp)).wr (by simp))
      · rw [upd_same, fl_set]
        show some (HO.ins (Cv K) dx (ksV.zip [V.ref ls, V.ref lm, V.ref lr, V.int i])) = some (HO.ins (Cv K) dx (ksV.zip [V.ref ls, V.ref lm, V.ref lr, V.int (i.toNat : Int)]))
        rw [← e]
      · refine keep_ne nvr.symm ?_
        rw [hr, hc']
        rfl
    | some j =>
      refine ⟨fun _ => ?_, fun e => (nomatch e)⟩
      have hjx := wf.up _ _ ho
      have hx : x < s.ar.length := (List.getElem?_eq_some_iff.mp ho).1
      have hj : j < la.length := by rw [hla, wf.l2]; omega
      have hj2 : j < s.ar.length := by omega
      refine ⟨v, _, dx, _, _, rfl, ob', c.cl, c.a3, zip_lookup (i := 2) (by decide +kernel) rfl, ?_⟩
      refine ⟨lr, _, _, j, rfl, rfl, hr, ixN_nat (by rw [List.length_map]; exact hj), ?_⟩
      refine ⟨v, _, dx, _, _, rfl, keep_ne nvr ob', c.cl, c.a2, zip_lookup (i := 1) (by decide +kernel) rfl, ?_⟩
      refine ⟨_, _, _, _, rfl, rfl, SqL.of (keep_ne r.n3 (fr.at1 r.hm r.n3)), atI_nat (mapAt (List.getElem?_eq_getElem hj2)), ?_⟩
      refine ⟨m - 1, by omega, j, _, la.set j (some x), rfl, List.getElem?_eq_getElem hj2, by omega, by rw [List.length_set, hla], ?_, ?_, fr.wr (by simp)⟩
      · rw [← hc]
        cases m with
        | zero => omega
        | succ m =>
          conv => rhs; unfold climb
          rw [ho]
          rfl
      · rw [upd_same, List.map_set]
        rfl
  · exact h.elim
end
end Co.Vs
end

section
set_option maxHeartbeats 4000000
namespace Co.Vs
open PySem PySem.Spec PyProof.Rows L2 Co
theorem dgetZ {H : Hp} {a : Addr} {ks : List Key} {vs : List V} {k : Key} {i : Nat} {v : V} (h : H a = some (.dK (ks.zip vs))) (hi : ks.findIdx? (fun g => decide (g = k)) = some i) (hv : vs[i]? = some v) : DGet H a (kV k) (some v) := by
  have e := zip_val hi hv
  rw [← e]
  exact DGet.k h
structure EK (K : PySem.W.Frag) : Prop where
  uu : PySem.W.exmOne K (.ref (He.ga K "NothingToUndo")) (.ref (He.ga K "NothingToUndo")) = some true
  ru : PySem.W.exmOne K (.ref (He.ga K "NothingToRedo")) (.ref (He.ga K "NothingToUndo")) = some false
  rr : PySem.W.exmOne K (.ref (He.ga K "NothingToRedo")) (.ref (He.ga K "NothingToRedo")) = some true
  nu : PySem.W.exmOne K (.ref (He.ga K "NoVersion")) (.ref (He.ga K "NothingToUndo")) = some false
  nr : PySem.W.exmOne K (.ref (He.ga K "NoVersion")) (.ref (He.ga K "NothingToRedo")) = some false
  nn : PySem.W.exmOne K (.ref (He.ga K "NoVersion")) (.ref (He.ga K "NoVersion")) = some true
theorem step0 {s : VS} {num z : Int} : step s 0 num z = (mkV s z, .ok s.ar.length) := by simp [step]
theorem step1n {s : VS} {num z : Int} (h : s.ar[s.cur]? = some none) : step s 1 num z = (s, .error "undo") := by simp [step, h]
theorem step1s {s : VS} {num z : Int} {j : Nat} (h : s.ar[s.cur]? = some (some j)) : step s 1 num z = ({ s with la := s.la.set j (some s.cur), cur := j }, .ok j) := by simp [step, h]
theorem step2n {s : VS} {num z : Int} (h : s.la[s.cur]? = some none) : step s 2 num z = (s, .error "redo") := by simp [step, h]
theorem step2s {s : VS} {num z : Int} {j : Nat} (h : s.la[s.cur]? = some (some j)) : step s 2 num z = ({ s with cur := j }, .ok j) := by simp [step, h]
theorem step3n {s : VS} {k num z : Int} (h0 : ¬ k = 0) (h1 : ¬ k = 1) (h2 : ¬ k = 2) (h : num < 0 ∨ (s.ar.length : Int) ≤ num) : step s k num z = (s, .error "none") := by simp [step, h0, h1, h2, h]
theorem step3s {s : VS} {k num z : Int} (h0 : ¬ k = 0) (h1 : ¬ k = 1) (h2 : ¬ k = 2) (h : ¬ (num < 0 ∨ (s.ar.length : Int) ≤ num)) : step s k num z = (goV s num.toNat, .ok num.toNat) := by simp [step, h0, h1, h2, h]
section
variable {K : PySem.W.Frag} {vs : List V} {H : Hp} {Q : VK} {E : XK}
theorem Box.ne {b la ll ls : Addr} {s : VS} (r : Box H b la ll ls s) : b ≠ la ∧ b ≠ ll ∧ b ≠ ls :=
  ⟨ne_of r.hb r.ha (by intro z; cases z), ne_of r.hb r.hl (by intro z; cases z), ne_of r.hb r.hs (by intro z; cases z)⟩
theorem r_due (h : sp_due vs H Q E) : t_Ldue K E (Dn Q) (start ["_law_box", "_law_kind", "_law_number", "_law_around", "_law_later", "_law_at", "_law_turn"] vs) H := by
  unfold sp_due at h
  split at h
  · rename_i b k num
    obtain ⟨la, ll, ls, s, r, wf, hl, kk⟩ := h
    obtain ⟨nba, nbl, nbs⟩ := r.ne
    have hsz : sizeLine = 16777216 := sizeLine_eq
    have hl1 := wf.l1
    have hl2 := wf.l2
    have hla : s.cur < s.la.length := by have := wf.c; omega
    obtain ⟨o, ho⟩ := oAt wf
    obtain ⟨o2, ho2⟩ := lAt wf
    refine ⟨b, _, rfl, dgetZ (k := .inr "around") (i := 1) r.hb (by decide +kernel) rfl, ?_⟩
    refine ⟨b, _, rfl, dgetZ (k := .inr "later") (i := 2) r.hb (by decide +kernel) rfl, ?_⟩
    refine ⟨fun e0 => ?_, fun e0 => ?_⟩
    · 
      have e0 : k = 0 := of_decide_eq_true e0
      subst e0
      refine ⟨.inl ⟨rfl, _, SqL.of r.ha⟩, b, _, rfl, dgetZ (k := .inr "at") (i := 0) r.hb (by decide +kernel) rfl, la, _, _, rfl, rfl, r.ha, by rw [List.length_map]; omega, ?_⟩
      have hb1 := keep_ne (o' := .lst (s.ar.map oV ++ [V.int (s.cur : Int)])) nba r.hb
      have hl1' := keep_ne (o' := .lst (s.ar.map oV ++ [V.int (s.cur : Int)])) r.n1.symm r.hl
      refine ⟨.inl ⟨rfl, _, SqL.of hl1'⟩, ll, _, _, rfl, rfl, hl1', by rw [List.length_map]; omega, ?_⟩
      have hb2 := keep_ne (o' := .lst (s.la.map oV ++ [V.non])) nbl hb1
      have ha2 : (upd (upd H la (.lst (s.ar.map oV ++ [V.int (s.cur : Int)]))) ll (.lst (s.la.map oV ++ [V.non]))) la = _ := keep_ne r.n1 upd_same
      refine ⟨la, _, rfl, .inl (SqL.of ha2), b, _, rfl, dgetZ (k := .inr "at") (i := 0) hb2 (by decide +kernel) rfl, ?_⟩
      refine ⟨ll, _, _, s.cur, rfl, rfl, upd_same, ixN_nat (by rw [List.length_append, List.length_map]; simp; omega), ?_⟩
      have en : (((s.ar.map oV ++ [V.int (s.cur : Int)]).length : Nat) : Int) - 1 = (s.ar.length : Int) := by simp
      refine ⟨la, _, rfl, .inl (SqL.of (keep_ne r.n1 ha2)), ?_⟩
      refine kk _ _ ?_ ?_ ((((Fr.refl _ H).wr (by simp)).wr (by simp)).wr (by simp))
      · rw [step0]
        refine ⟨keep_ne nbl hb2, ?_, ?_, keep_ne r.n3.symm (keep_ne r.n3.symm (keep_ne r.n2.symm r.hs)), r.n1, r.n2, r.n3⟩
        · refine keep_ne r.n1 (ha2.trans ?_)
          simp [mkV, oV]
        · rw [upd_same]
          show some (HO.lst ((s.la.map oV ++ [V.non]).set s.cur (V.int ((((s.ar.map oV ++ [V.int (s.cur : Int)]).length : Nat) : Int) - 1)))) = _
          rw [en]
          simp [mkV, oV, List.map_set]
      · rw [step0]
        show V.int ((((s.ar.map oV ++ [V.int (s.cur : Int)]).length : Nat) : Int) - 1) = _
        rw [en]
    have e0 : ¬ k = 0 := of_decide_eq_false e0
    refine ⟨fun e1 => ?_, fun e1 => ?_⟩
    · 
      have e1 : k = 1 := of_decide_eq_true e1
      subst e1
      refine ⟨b, _, rfl, dgetZ (k := .inr "at") (i := 0) r.hb (by decide +kernel) rfl, ?_⟩
      refine ⟨_, _, _, _, rfl, rfl, SqL.of r.ha, atI_nat (mapAt ho), ?_⟩
      cases o with
      | none =>
        refine ⟨fun _ => ?_, fun e => (nomatch e)⟩
        refine ⟨by show 2 ≤ sizeLine; omega, fun p hp => ?_⟩
        refine kk _ _ ?_ ?_ ((Fr.refl _ H).new hp)
        · rw [step1n ho]
          exact ⟨keep_new hp r.hb, keep_new hp r.ha, keep_new hp r.hl, keep_new hp r.hs, r.n1, r.n2, r.n3⟩
        · rw [step1n ho]
          exact ⟨p, rfl, hp, upd_same⟩
      | some j =>
        refine ⟨fun e => (nomatch e), fun _ => ?_⟩
        have hj : j < s.la.length := by have := wf.up _ _ ho; omega
        refine ⟨b, _, rfl, dgetZ (k := .inr "at") (i := 0) r.hb (by decide +kernel) rfl, b, _, rfl, dgetZ (k := .inr "at") (i := 0) r.hb (by decide +kernel) rfl, ?_⟩
        refine ⟨_, _, _, _, rfl, rfl, SqL.of r.ha, atI_nat (mapAt ho), ?_⟩
        refine ⟨ll, _, _, j, rfl, rfl, r.hl, ixN_nat (by rw [List.length_map]; exact hj), ?_⟩
        refine ⟨b, _, rfl, dgetZ (k := .inr "at") (i := 0) (keep_ne nbl r.hb) (by decide +kernel) rfl, ?_⟩
        refine ⟨_, _, _, _, rfl, rfl, SqL.of (keep_ne r.n1 r.ha), atI_nat (mapAt ho), ?_⟩
        refine kk _ _ ?_ ?_ ((Fr.refl _ H).wr (by simp))
        · rw [step1s ho]
          refine ⟨keep_ne nbl r.hb, keep_ne r.n1 r.ha, ?_, keep_ne r.n3.symm r.hs, r.n1, r.n2, r.n3⟩
          rw [upd_same]
          simp [oV, List.map_set]
        · rw [step1s ho]
          rfl
    have e1 : ¬ k = 1 := of_decide_eq_false e1
    refine ⟨fun e2 => ?_, fun e2 => ?_⟩
    · 
      have e2 : k = 2 := of_decide_eq_true e2
      subst e2
      refine ⟨b, _, rfl, dgetZ (k := .inr "at") (i := 0) r.hb (by decide +kernel) rfl, ?_⟩
      refine ⟨_, _, _, _, rfl, rfl, SqL.of r.hl, atI_nat (mapAt ho2), ?_⟩
      cases o2 with
      | none =>
        refine ⟨fun _ => ?_, fun e => (nomatch e)⟩
        refine ⟨by show 2 ≤ sizeLine; omega, fun p hp => ?_⟩
        refine kk _ _ ?_ ?_ ((Fr.refl _ H).new hp)
        · rw [step2n ho2]
          exact ⟨keep_new hp r.hb, keep_new hp r.ha, keep_new hp r.hl, keep_new hp r.hs, r.n1, r.n2, r.n3⟩
        · rw [step2n ho2]
          exact ⟨p, rfl, hp, upd_same⟩
      | some j =>
        refine ⟨fun e => (nomatch e), fun _ => ?_⟩
        refine ⟨b, _, rfl, dgetZ (k := .inr "at") (i := 0) r.hb (by decide +kernel) rfl, ?_⟩
        refine ⟨_, _, _, _, rfl, rfl, SqL.of r.hl, atI_nat (mapAt ho2), ?_⟩
        refine kk _ _ ?_ ?_ (Fr.refl _ H)
        · rw [step2s ho2]
          exact ⟨r.hb, r.ha, r.hl, r.hs, r.n1, r.n2, r.n3⟩
        · rw [step2s ho2]
          rfl
    have e2 : ¬ k = 2 := of_decide_eq_false e2
    have refused : (num < 0 ∨ (s.ar.length : Int) ≤ num) → tRet (tTup (tCons (tC (.str "refused")) (tCons (tC (.str "none")) tNil))) (Dn Q) [some (.ref b), some (.int k), some (.int num), some (.ref la), some (.ref ll), none, none] H := fun hr => by
      refine ⟨by show 2 ≤ sizeLine; omega, fun p hp => ?_⟩
      refine kk _ _ ?_ ?_ ((Fr.refl _ H).new hp)
      · rw [step3n e0 e1 e2 hr]
        exact ⟨keep_new hp r.hb, keep_new hp r.ha, keep_new hp r.hl, keep_new hp r.hs, r.n1, r.n2, r.n3⟩
      · rw [step3n e0 e1 e2 hr]
        exact ⟨p, rfl, hp, upd_same⟩
    refine ⟨fun e3 => ⟨fun _ => refused (.inl (of_decide_eq_true e3)), fun e => (nomatch e)⟩, fun e3 => ?_⟩
    have e3 : ¬ num < 0 := of_decide_eq_false e3
    refine ⟨la, _, rfl, .inl (SqL.of r.ha), ?_⟩
    refine ⟨fun e4 => refused (.inr ?_), fun e4 => ?_⟩
    · have := of_decide_eq_true e4
      rw [List.length_map] at this
      exact this
    have e4 := of_decide_eq_false e4
    rw [List.length_map] at e4
    have hn : ¬ (num < 0 ∨ (s.ar.length : Int) ≤ num) := by omega
    have en : num = ((num.toNat : Nat) : Int) := by omega
    have hi : num.toNat < s.ar.length := by omega
    refine ⟨la, _, rfl, .inl (SqL.of r.ha), _, rfl, by rw [List.length_map]; omega, by rw [List.length_map]; omega, ?_⟩
    rw [List.length_map]
    refine for_range (lo := 0) (n := ((s.ar.length : Nat) : Int).toNat) (fun t σ' H' => ∃ (x : Nat) (z6 : Option V) (l2 : List (Option Nat)), σ' = [some (.ref b), some (.int k), some (.int num), some (.ref la), some (.ref ll), some (.int (x : Int)), z6] ∧ x < s.ar.length ∧ l2.length = s.la.length ∧
        climb s.ar (s.ar.length - t) x l2 = climb s.ar s.ar.length num.toNat s.la ∧ H' ll = some (.lst (l2.map oV)) ∧ Fr [ll] H H') ⟨num.toNat, none, s.la, by rw [← en]; rfl, hi, rfl, rfl, r.hl, Fr.refl _ _⟩ ?_ ?_
    · rintro t σ' H' ht ⟨x, z6, l2, rfl, hx, hl2', hc, h2, fr⟩
      have ht' : t < s.ar.length := by simpa using ht
      have ha' := fr.at1 r.ha r.n1
      obtain ⟨o, hox⟩ : ∃ o, s.ar[x]? = some o := ⟨_, List.getElem?_eq_getElem hx⟩
      obtain ⟨m, hm⟩ : ∃ m, s.ar.length - t = m + 1 := ⟨s.ar.length - t - 1, by omega⟩
      have hm' : s.ar.length - (t + 1) = m := by omega
      refine ⟨_, _, _, _, rfl, rfl, SqL.of ha', atI_nat (mapAt hox), ?_⟩
      rw [hm] at hc
      cases o with
      | none =>
        refine ⟨fun e => (nomatch e), fun _ => ⟨x, _, l2, rfl, hx, hl2', ?_, h2, fr⟩⟩
        rw [hm', ← hc]
        conv => rhs; unfold climb
        rw [hox]
        cases m with
        | zero => rfl
        | succ m => unfold climb; rw [hox]
      | some j =>
        have hj := wf.up _ _ hox
        refine ⟨fun _ => ?_, fun e => (nomatch e)⟩
        refine ⟨_, _, _, _, rfl, rfl, SqL.of ha', atI_nat (mapAt hox), ?_⟩
        refine ⟨ll, _, _, j, rfl, rfl, h2, ixN_nat (by rw [List.length_map]; omega), ?_⟩
        refine ⟨_, _, _, _, rfl, rfl, SqL.of (keep_ne r.n1 ha'), atI_nat (mapAt hox), ?_⟩
        refine ⟨j, _, l2.set j (some x), rfl, by omega, by rw [List.length_set, hl2'], ?_, ?_, fr.wr (by simp)⟩
        · rw [hm', ← hc]
          conv => rhs; unfold climb
          rw [hox]
        · rw [upd_same, List.map_set]
          rfl
    · rintro σ' H' ⟨x, z6, l2, rfl, hx, hl2', hc, h2, fr⟩
      have hz : s.ar.length - ((s.ar.length : Nat) : Int).toNat = 0 := by simp
      rw [hz] at hc
      have hc : l2 = climb s.ar s.ar.length num.toNat s.la := hc
      refine kk _ _ ?_ ?_ (fr.mono (by simp))
      · rw [step3s e0 e1 e2 hn]
        refine ⟨fr.at1 r.hb nbl, fr.at1 r.ha r.n1, ?_, fr.at1 r.hs r.n3.symm, r.n1, r.n2, r.n3⟩
        rw [h2, hc]
        rfl
      · rw [step3s e0 e1 e2 hn]
        show V.int num = V.int ((num.toNat : Nat) : Int)
        rw [← en]
  · exact h.elim
theorem refuse {v ls lm lr : Addr} {s : VS} {k num z : Int} {x : Str} (r : Ver K H v ls lm lr s) (e : step s k num z = (s, .error x)) (kk : ∀ y H', Ver K H' v ls lm lr (step s k num z).1 → ResAt H H' (step s k num z).2 y → Fr [v, ls, lm, lr] H H' → Q y H')
    {σ : St} : tRet (tTup (tCons (tC (.str "refused")) (tCons (tC (.str x)) tNil))) (Dn Q) σ H := by
  refine ⟨by show 2 ≤ sizeLine; rw [sizeLine_eq]; omega, fun p hp => ?_⟩
  refine kk _ _ ?_ ?_ ((Fr.refl _ H).new hp)
  · rw [e]
    obtain ⟨dx, ob⟩ := r.ob
    exact ⟨⟨dx, keep_new hp ob⟩, keep_new hp r.hs, keep_new hp r.hm, keep_new hp r.hr, r.n1, r.n2, r.n3⟩
  · rw [e]
    exact ⟨p, rfl, hp, upd_same⟩
theorem r_told (ek : EK K) (h : sp_told K vs H Q E) : t_Ltold K E (Dn Q) (start ["_law_versions", "_law_kind", "_law_number", "_law_state"] vs) H := by
  unfold sp_told at h
  split at h
  · rename_i v k num z
    obtain ⟨ls, lm, lr, s, r, wf, hl, kk⟩ := h
    obtain ⟨dx, ob⟩ := r.ob
    have hl1 := wf.l1
    refine ⟨fun e0 => ?_, fun e0 => ?_⟩
    · have e0 : k = 0 := of_decide_eq_true e0
      subst e0
      refine ⟨v, dx, _, rfl, ob, zip_none (by decide +kernel), ls, lm, lr, s, r, wf, hl, fun H' r' fr => ?_⟩
      refine kk _ _ ?_ ?_ fr
      · rw [step0]; exact r'
      · rw [step0]; rfl
    have e0 : ¬ k = 0 := of_decide_eq_false e0
    refine ⟨fun e1 => ?_, fun e1 => ?_⟩
    · have e1 : k = 1 := of_decide_eq_true e1
      subst e1
      refine ⟨v, dx, _, rfl, ob, zip_none (by decide +kernel), ls, lm, lr, s, r, wf, fun j H' ho r' fr => ?_, fun ho => ?_⟩
      · refine kk _ _ ?_ ?_ fr
        · rw [step1s ho]; exact r'
        · rw [step1s ho]; rfl
      · exact ⟨true, ek.uu, fun _ a ha => refuse r (step1n ho) kk, fun e => (nomatch e)⟩
    have e1 : ¬ k = 1 := of_decide_eq_false e1
    refine ⟨fun e2 => ?_, fun e2 => ?_⟩
    · have e2 : k = 2 := of_decide_eq_true e2
      subst e2
      refine ⟨v, dx, _, rfl, ob, zip_none (by decide +kernel), ls, lm, lr, s, r, wf, fun j H' ho r' fr => ?_, fun ho => ?_⟩
      · refine kk _ _ ?_ ?_ fr
        · rw [step2s ho]; exact r'
        · rw [step2s ho]; rfl
      · exact ⟨false, ek.ru, fun e => (nomatch e), fun _ => ⟨true, ek.rr, fun _ a ha => refuse r (step2n ho) kk, fun e => (nomatch e)⟩⟩
    have e2 : ¬ k = 2 := of_decide_eq_false e2
    refine ⟨v, dx, _, rfl, ob, zip_none (by decide +kernel), ls, lm, lr, s, r, wf, hl, fun H' h0 h1 r' fr => ?_, fun ho => ?_⟩
    · have hn : ¬ (num < 0 ∨ (s.ar.length : Int) ≤ num) := by omega
      refine kk _ _ ?_ ?_ fr
      · rw [step3s e0 e1 e2 hn]; exact r'
      · rw [step3s e0 e1 e2 hn]
        show V.int num = V.int ((num.toNat : Nat) : Int)
        rw [show ((num.toNat : Nat) : Int) = num by omega]
    · exact ⟨false, ek.nu, fun e => (nomatch e), fun _ => ⟨false, ek.nr, fun e => (nomatch e), fun _ => ⟨true, ek.nn, fun _ a ha => refuse r (step3n e0 e1 e2 (by omega)) kk, fun e => (nomatch e)⟩⟩⟩
  · exact h.elim
theorem r_nost (ek : EK K) (h : sp_nost K vs H Q E) : t_Lno_state K E (Dn Q) (start ["_law_versions", "_law_number"] vs) H := by
  unfold sp_nost at h
  split at h
  · rename_i v i
    obtain ⟨ls, lm, lr, s, r, hl, ho, kk⟩ := h
    obtain ⟨dx, ob⟩ := r.ob
    refine ⟨v, dx, _, rfl, ob, zip_none (by decide +kernel), ls, lm, lr, s, r, hl, fun z h0 h1 => ?_, fun _ => ⟨true, ek.nn, fun _ a ha => kk, fun e => (nomatch e)⟩⟩
    have := (List.getElem?_eq_some_iff.mp h1).1
    omega
  · exact h.elim
def oD : Option Nat → PyData
  | none => .none
  | some j => .int (j : Int)
theorem oD_ok {o : Option Nat} : Dp K H (oV o) (oD o) := by
  cases o with
  | none => exact .non
  | some j => exact .int _
theorem oD_all : ∀ {l : List (Option Nat)}, DpAll K H (l.map oV) (l.map oD)
  | [] => .nil
  | _ :: _ => .cons oD_ok oD_all
theorem oD_dle {n : Nat} {o : Option Nat} : dle n (oD o) := by
  cases o <;> (cases n <;> exact trivial)
theorem Ver.same {H' : Hp} {v ls lm lr : Addr} {s : VS} (r : Ver K H v ls lm lr s) (e : Same H H') : Ver K H' v ls lm lr s := by
  obtain ⟨dx, ob⟩ := r.ob
  exact ⟨⟨dx, e _ _ ob⟩, e _ _ r.hs, e _ _ r.hm, e _ _ r.hr, r.n1, r.n2, r.n3⟩
theorem Box.same {H' : Hp} {b la ll ls : Addr} {s : VS} (r : Box H b la ll ls s) (e : Same H H') : Box H' b la ll ls s :=
  ⟨e _ _ r.hb, e _ _ r.ha, e _ _ r.hl, e _ _ r.hs, r.n1, r.n2, r.n3⟩
theorem r_seen (c : CK K) (h : sp_seen K vs H Q E) : t_Lseen K E (Dn Q) (start ["_law_versions", "_law_box"] vs) H := by
  unfold sp_seen at h
  split at h
  · rename_i v b
    obtain ⟨ls, lm, lr, la, ll, l2, s, r, rb, wf, hl, kk⟩ := h
    obtain ⟨dx, ob⟩ := r.ob
    obtain ⟨o, ho⟩ := oAt wf
    obtain ⟨o2, ho2⟩ := lAt wf
    have hc : s.cur < s.st.length := by have := wf.l1; have := wf.c; omega
    have hz := List.getElem?_eq_getElem hc
    refine ⟨v, _, dx, _, _, rfl, ob, c.cl, c.a4, zip_lookup (i := 3) (by decide +kernel) rfl, ?_⟩
    refine ⟨b, _, rfl, dgetZ (k := .inr "at") (i := 0) rb.hb (by decide +kernel) rfl, ?_⟩
    refine ⟨.int (s.cur : Int), 1, rfl, trivial, .int _, .int _, fun H1 s1 => ?_⟩
    have r1 := r.same s1
    have rb1 := rb.same s1
    refine ⟨fun e => (nomatch e), fun _ => ?_⟩
    refine ⟨v, dx, _, rfl, s1 _ _ ob, zip_none (by decide +kernel), ls, lm, lr, s, _, r1, hz, ?_⟩
    refine ⟨b, _, rfl, dgetZ (k := .inr "states") (i := 3) rb1.hb (by decide +kernel) rfl, b, _, rfl, dgetZ (k := .inr "at") (i := 0) rb1.hb (by decide +kernel) rfl, ?_⟩
    refine ⟨_, _, _, _, rfl, rfl, SqL.of rb1.hs, atI_nat (mapAt hz), ?_⟩
    refine ⟨.int _, 1, rfl, trivial, .int _, .int _, fun H2 s2 => ?_⟩
    have r2 := r1.same s2
    have rb2 := rb1.same s2
    refine ⟨fun e => (nomatch e), fun _ => ?_⟩
    refine ⟨v, dx, _, rfl, s2 _ _ (s1 _ _ ob), zip_none (by decide +kernel), ls, lm, lr, s, r2, fun p H3 hp h3 s3 => ?_⟩
    refine ⟨b, _, rfl, dgetZ (k := .inr "around") (i := 1) (rb2.same s3).hb (by decide +kernel) rfl, ?_⟩
    refine ⟨la, _, rfl, .inl ⟨SqL.of (rb2.same s3).ha, fun p2 hp2 => ?_⟩⟩
    have s4 := same_new (o := .tup (s.ar.map oV)) (Same.refl H3) hp2
    refine ⟨.tuple (s.ar.map oD), 1, rfl, ⟨by rw [List.length_map]; have := wf.l1; omega, fun d hd => ?_⟩, .tup (.inl (.inl (keep_new hp2 h3))) oD_all, .tup (.inl (.inl upd_same)) oD_all, fun H5 s5 => ?_⟩
    · obtain ⟨o, _, rfl⟩ := List.mem_map.mp hd
      exact oD_dle
    refine ⟨fun e => (nomatch e), fun _ => ?_⟩
    have sx := (s3.trans s4).trans s5
    refine ⟨v, dx, _, rfl, sx _ _ (s2 _ _ (s1 _ _ ob)), zip_none (by decide +kernel), ls, lm, lr, s, _, r2.same sx, ho2, ?_⟩
    refine ⟨b, _, rfl, dgetZ (k := .inr "later") (i := 2) (rb2.same sx).hb (by decide +kernel) rfl, b, _, rfl, dgetZ (k := .inr "at") (i := 0) (rb2.same sx).hb (by decide +kernel) rfl, ?_⟩
    refine ⟨_, _, _, _, rfl, rfl, SqL.of (rb2.same sx).hl, atI_nat (mapAt ho2), ?_⟩
    exact ⟨oD o2, 1, rfl, oD_dle, oD_ok, oD_ok, fun H6 s6 => kk _ (((s1.trans s2).trans sx).trans s6)⟩
  · exact h.elim
end
end Co.Vs
end

section
set_option maxHeartbeats 4000000
namespace Co.Vs
open PySem PySem.Spec PyProof.Rows L2 Co
theorem climb_lt {ar : List (Option Nat)} {n : Nat} (up : ∀ (i j : Nat), ar[i]? = some (some j) → j < i) : ∀ {f i : Nat} {la : List (Option Nat)}, i < n → (∀ (x j : Nat), la[x]? = some (some j) → j < n) → ∀ (x j : Nat), (climb ar f i la)[x]? = some (some j) → j < n
  | 0, _, _, _, h, x, j, e => h x j e
  | f + 1, i, la, hi, h, x, j, e => by
    unfold climb at e
    split at e
    · rename_i y hy
      have := up _ _ hy
      refine climb_lt up (f := f) (by omega) (fun x' j' e' => ?_) x j e
      rw [List.getElem?_set] at e'
      split at e'
      · split at e'
        · cases e'
          exact hi
        · cases e'
      · exact h _ _ e'
    · exact h x j e
theorem wf_go {s : VS} (w : Wf s) {i : Nat} (hi : i < s.ar.length) : Wf (goV s i) :=
  ⟨hi, w.l1, by show (climb _ _ _ _).length = _; rw [climb_len]; exact w.l2, w.up, climb_lt w.up hi w.lt⟩
theorem wf_mk {s : VS} (w : Wf s) (z : Int) : Wf (mkV s z) := by
  have h1 := w.c
  have h2 := w.l1
  have h3 := w.l2
  refine ⟨by simp [mkV], by simp [mkV, h2], by simp [mkV, h3], fun i j e => ?_, fun i j e => ?_⟩
  · simp only [mkV] at e
    rw [List.getElem?_append] at e
    split at e
    · exact w.up _ _ e
    · rename_i hge
      by_cases z : i - s.ar.length = 0
      · rw [z] at e
        simp at e
        omega
      · rw [List.getElem?_eq_none (by simp; omega)] at e
        cases e
  · simp only [mkV] at e
    show j < (s.ar ++ [some s.cur]).length
    rw [List.length_append]
    rw [List.getElem?_set] at e
    split at e
    · split at e
      · cases e
        simp
      · cases e
    · rw [List.getElem?_append] at e
      split at e
      · have := w.lt _ _ e
        omega
      · rename_i hge
        by_cases z : i - s.la.length = 0
        · rw [z] at e
          simp at e
        · rw [List.getElem?_eq_none (by simp; omega)] at e
          cases e
theorem wf_step {s : VS} (w : Wf s) (k num z : Int) : Wf (step s k num z).1 := by
  unfold step
  split
  · exact wf_mk w z
  split
  · split
    · rename_i j hj
      have := w.up _ _ hj
      have hc := w.c
      refine ⟨by show j < s.ar.length; omega, w.l1, by show (s.la.set _ _).length = _; rw [List.length_set]; exact w.l2, w.up, fun i j' e => ?_⟩
      show j' < s.ar.length
      have e : (s.la.set j (some s.cur))[i]? = some (some j') := e
      rw [List.getElem?_set] at e
      split at e
      · split at e
        · cases e
          exact hc
        · cases e
      · exact w.lt _ _ e
    · exact w
  split
  · split
    · rename_i j hj
      exact ⟨w.lt _ _ hj, w.l1, w.l2, w.up, w.lt⟩
    · exact w
  split
  · exact w
  · rename_i h
    exact wf_go w (by omega)
theorem step_st (s : VS) (k num z : Int) : (step s k num z).1.st = if k = 0 then s.st ++ [z] else s.st := by
  unfold step
  split
  · rfl
  split
  · split <;> rfl
  split
  · split <;> rfl
  split <;> rfl
theorem step_ok {s : VS} {k num z : Int} {j : Nat} (h : (step s k num z).2 = .ok j) : (step s k num z).1.cur = j := by
  unfold step at h ⊢
  split
  · rename_i e
    rw [if_pos e] at h
    cases h
    rfl
  rename_i e0
  rw [if_neg e0] at h
  split
  · rename_i e
    rw [if_pos e] at h
    split
    · rename_i j' hj
      rw [hj] at h
      cases h
      rfl
    · rename_i hn
      split at h
      · rename_i j' hj
        exact (hn _ hj).elim
      · cases h
  rename_i e1
  rw [if_neg e1] at h
  split
  · rename_i e
    rw [if_pos e] at h
    split
    · rename_i j' hj
      rw [hj] at h
      cases h
      rfl
    · rename_i hn
      split at h
      · rename_i j' hj
        exact (hn _ hj).elim
      · cases h
  rename_i e2
  rw [if_neg e2] at h
  split
  · rename_i e
    rw [if_pos e] at h
    cases h
  · rename_i e
    rw [if_neg e] at h
    cases h
    rfl
theorem step_err {s : VS} {k num z : Int} {x : Str} (h : (step s k num z).2 = .error x) : (step s k num z).1.cur = s.cur := by
  unfold step at h ⊢
  split
  · rename_i e
    rw [if_pos e] at h
    cases h
  rename_i e0
  rw [if_neg e0] at h
  split
  · rename_i e
    rw [if_pos e] at h
    split
    · rename_i j' hj
      rw [hj] at h
      cases h
    · rfl
  rename_i e1
  rw [if_neg e1] at h
  split
  · rename_i e
    rw [if_pos e] at h
    split
    · rename_i j' hj
      rw [hj] at h
      cases h
    · rfl
  rename_i e2
  rw [if_neg e2] at h
  split
  · rfl
  · rename_i e
    rw [if_neg e] at h
    cases h
theorem step_z (s : VS) (k num z : Int) : (step s k num 0).1.ar = (step s k num z).1.ar ∧ (step s k num 0).1.la = (step s k num z).1.la ∧ (step s k num 0).2 = (step s k num z).2 := by
  unfold step
  split
  · exact ⟨rfl, rfl, rfl⟩
  split
  · split <;> exact ⟨rfl, rfl, rfl⟩
  split
  · split <;> exact ⟨rfl, rfl, rfl⟩
  split <;> exact ⟨rfl, rfl, rfl⟩
section
variable {K : PySem.W.Frag} {vs : List V} {H : Hp} {Q : VK} {E : XK}
theorem Ver.fr {H' : Hp} {S : List Addr} {v ls lm lr : Addr} {s : VS} (r : Ver K H v ls lm lr s) (f : Fr S H H') (h1 : v ∉ S) (h2 : ls ∉ S) (h3 : lm ∉ S) (h4 : lr ∉ S) : Ver K H' v ls lm lr s := by
  obtain ⟨dx, ob⟩ := r.ob
  exact ⟨⟨dx, f _ _ ob h1⟩, f _ _ r.hs h2, f _ _ r.hm h3, f _ _ r.hr h4, r.n1, r.n2, r.n3⟩
theorem Box.fr {H' : Hp} {S : List Addr} {b la ll ls : Addr} {s : VS} (r : Box H b la ll ls s) (f : Fr S H H') (h1 : b ∉ S) (h2 : la ∉ S) (h3 : ll ∉ S) (h4 : ls ∉ S) : Box H' b la ll ls s :=
  ⟨f _ _ r.hb h1, f _ _ r.ha h2, f _ _ r.hl h3, f _ _ r.hs h4, r.n1, r.n2, r.n3⟩
def resD : Res → PyData
  | .ok j => .int (j : Int)
  | .error x => .tuple [.str "refused", .str x]
theorem resD_dle {r : Res} : dle 1 (resD r) := by
  cases r with
  | ok j => exact trivial
  | error x => exact ⟨by show 2 ≤ 1000000; decide, fun d hd => by simp at hd; rcases hd with rfl | rfl <;> exact trivial⟩
theorem res_dp {H0 H' : Hp} {r : Res} {v : V} (h : ResAt H0 H' r v) : Dp K H' v (resD r) := by
  cases r with
  | ok j =>
    have e : v = .int (j : Int) := h
    subst e
    exact .int _
  | error x =>
    obtain ⟨p, e, _, h2⟩ := h
    subst e
    exact .tup (.inl (.inl h2)) (.cons (.str _) (.cons (.str _) .nil))
theorem fresh_ne {H : Hp} {a p : Addr} (h : ∃ o, H a = some o) (n : H p = none) : p ≠ a := fun e => by
  obtain ⟨o, h⟩ := h
  rw [← e, n] at h
  cases h
structure LawSt (K : PySem.W.Frag) (H : Hp) (p q b la ll l0 v ls lm lr : Addr) (s : VS) : Prop where
  po : PoolAt H p q
  bx : Box H b la ll l0 s
  ve : Ver K H v ls lm lr s
  wf : Wf s
  nd : [p, q, b, la, ll, l0, v, ls, lm, lr].Nodup
local macro_rules | `(tactic| walk_at "ni") => `(tactic| (simp only [List.mem_cons, List.not_mem_nil, or_false, not_or]; (repeat' apply And.intro) <;> first | assumption | exact Ne.symm (by assumption)))
theorem ex_some {H : Hp} {a : Addr} {o : HO} (h : H a = some o) : ∃ o, H a = some o := ⟨o, h⟩
theorem r_law (c : CK K) (h : sp_law K vs H Q E) : t_law K E (Dn Q) (start ["_law_script", "_law_pool_here", "_law_states", "_law_box", "_law_versions", "_law_turn", "_law_kind", "_law_number", "_law_state", "_law_due_here", "_law_k"] vs) H := by
  unfold sp_law at h
  split at h
  · rename_i a
    obtain ⟨ns, hsq, hlen, kk⟩ := h
    have hsz : sizeLine = 16777216 := sizeLine_eq
    refine ⟨ns, hsq, hlen, fun p q H1 hp hq P1 s1 => ?_⟩
    refine ⟨by decide, q, P1.take, by decide, by decide, fun r0 H2 _ _ P2 f2 => ?_⟩
    refine ⟨by show 1 ≤ sizeLine; omega, fun l0 hl0 => ?_⟩
    have P3 := P2.same (same_new (o := .lst [.int r0]) (Same.refl H2) hl0)
    intro b hb
    have P4 := P3.same (same_new (o := .dK []) (Same.refl _) hb)
    refine ⟨by show 1 ≤ sizeLine; omega, fun la hla => ?_⟩
    have P5 := P4.same (same_new (o := .lst [.non]) (Same.refl _) hla)
    refine ⟨by show 1 ≤ sizeLine; omega, fun ll hll => ?_⟩
    have P6 := P5.same (same_new (o := .lst [.non]) (Same.refl _) hll)
    refine ⟨keep_new hll (keep_new hla upd_same), ksB.zip [.int 0, .ref la, .ref ll, .ref l0], rfl, by show 4 ≤ 15; decide, ?_⟩
    rw [mergeK_zip0 (by decide +kernel)]
    obtain ⟨x1, x2, npq⟩ := P2.ex
    have n1 : l0 ≠ p := fresh_ne x1 hl0
    have n2 : l0 ≠ q := fresh_ne x2 hl0
    obtain ⟨x1, x2, _⟩ := P3.ex
    have n3 : b ≠ p := fresh_ne x1 hb
    have n4 : b ≠ q := fresh_ne x2 hb
    have n5 : b ≠ l0 := fresh_ne (ex_some upd_same) hb
    obtain ⟨x1, x2, _⟩ := P4.ex
    have n6 : la ≠ p := fresh_ne x1 hla
    have n7 : la ≠ q := fresh_ne x2 hla
    have n8 : la ≠ b := fresh_ne (ex_some upd_same) hla
    have n9 : la ≠ l0 := fresh_ne (ex_some (keep_new hb upd_same)) hla
    obtain ⟨x1, x2, _⟩ := P5.ex
    have m1 : ll ≠ p := fresh_ne x1 hll
    have m2 : ll ≠ q := fresh_ne x2 hll
    have m3 : ll ≠ la := fresh_ne (ex_some upd_same) hll
    have m4 : ll ≠ b := fresh_ne (ex_some (keep_new hla upd_same)) hll
    have m5 : ll ≠ l0 := fresh_ne (ex_some (keep_new hla (keep_new hb upd_same))) hll
    have hb7 : ∀ o, (upd (upd (upd (upd (upd H2 l0 (.lst [.int r0])) b (.dK [])) la (.lst [.non])) ll (.lst [.non])) b o) l0 = some (.lst [.int r0]) := fun o => keep_ne n5.symm (keep_new hll (keep_new hla (keep_new hb upd_same)))
    refine ⟨_, _, _, _, rfl, rfl, SqL.of (hb7 _), rfl, ?_⟩
    intro v dx hv hdx hdv
    obtain ⟨H7, e7⟩ : ∃ H7, H7 = (upd (upd (upd (upd (upd H2 l0 (.lst [.int r0])) b (.dK [])) la (.lst [.non])) ll (.lst [.non])) b (.dK (ksB.zip [.int 0, .ref la, .ref ll, .ref l0]))) := ⟨_, rfl⟩
    rw [← e7] at hv hdx ⊢
    have P7 : PoolAt H7 p q := by
      rw [e7]
      exact P6.fr (S := [b]) ((Fr.refl _ _).wr (by simp)) (by simp [n3.symm]) (by simp [n4.symm])
    have B7 : Box H7 b la ll l0 ⟨[r0], [none], [none], 0⟩ := by
      rw [e7]
      exact ⟨upd_same, keep_ne n8 (keep_new hll upd_same), keep_ne m4 upd_same, hb7 _, m3.symm, n9, m5⟩
    clear e7 hb7
    refine ⟨dx, upd_same, fun ls lm lr H9 hls hlm hlr V9 f9 => ⟨rfl, ?_⟩⟩
    have s8 : Same H7 (upd (upd H7 dx (.own v)) v (.ins (Cv K) dx [])) := by
      intro y o e
      rw [upd_ne (ne_of_none e hv), upd_ne (ne_of_none e hdx)]
      exact e
    have f79 : Fr [v] H7 H9 := (Fr.of s8).trans f9
    obtain ⟨x1, x2, _⟩ := P7.ex
    have g1 : v ≠ p := fresh_ne x1 hv
    have g2 : v ≠ q := fresh_ne x2 hv
    have g3 : v ≠ b := fresh_ne (ex_some B7.hb) hv
    have g4 : v ≠ la := fresh_ne (ex_some B7.ha) hv
    have g5 : v ≠ ll := fresh_ne (ex_some B7.hl) hv
    have g6 : v ≠ l0 := fresh_ne (ex_some B7.hs) hv
    have fr8 : ∀ {y : Addr}, (upd (upd H7 dx (.own v)) v (.ins (Cv K) dx [])) y = none → y ≠ p ∧ y ≠ q ∧ y ≠ b ∧ y ≠ la ∧ y ≠ ll ∧ y ≠ l0 ∧ y ≠ v := fun {y} hy => by
      obtain ⟨hy1, hyv⟩ := upd_nn hy
      obtain ⟨hy2, _⟩ := upd_nn hy1
      exact ⟨fresh_ne x1 hy2, fresh_ne x2 hy2, fresh_ne (ex_some B7.hb) hy2, fresh_ne (ex_some B7.ha) hy2, fresh_ne (ex_some B7.hl) hy2, fresh_ne (ex_some B7.hs) hy2, hyv⟩
    have L9 : LawSt K H9 p q b la ll l0 v ls lm lr ⟨[r0], [none], [none], 0⟩ := by
      refine ⟨P7.fr f79 (by simp [g1.symm]) (by simp [g2.symm]), B7.fr f79 (by simp [g3.symm]) (by simp [g4.symm]) (by simp [g5.symm]) (by simp [g6.symm]), V9, ⟨by show 0 < 1; decide, rfl, rfl, fun i j e => ?_, fun i j e => ?_⟩, ?_⟩
      · cases i <;> simp at e
      · cases i <;> simp at e
      · have a1 := fr8 hls
        have a2 := fr8 hlm
        have a3 := fr8 hlr
        have z1 := V9.n1
        have z2 := V9.n2
        have z3 := V9.n3
        simp only [List.nodup_cons, List.mem_cons, List.not_mem_nil, or_false, not_or, not_false_eq_true, List.nodup_nil, and_true]
        exact ⟨⟨npq, n3.symm, n6.symm, m1.symm, n1.symm, g1.symm, a1.1.symm, a2.1.symm, a3.1.symm⟩, ⟨n4.symm, n7.symm, m2.symm, n2.symm, g2.symm, a1.2.1.symm, a2.2.1.symm, a3.2.1.symm⟩,
          ⟨n8.symm, m4.symm, n5, g3.symm, a1.2.2.1.symm, a2.2.2.1.symm, a3.2.2.1.symm⟩, ⟨m3.symm, n9, g4.symm, a1.2.2.2.1.symm, a2.2.2.2.1.symm, a3.2.2.2.1.symm⟩, ⟨m5, g5.symm, a1.2.2.2.2.1.symm, a2.2.2.2.2.1.symm, a3.2.2.2.2.1.symm⟩,
          ⟨g6.symm, a1.2.2.2.2.2.1.symm, a2.2.2.2.2.2.1.symm, a3.2.2.2.2.2.1.symm⟩, ⟨a1.2.2.2.2.2.2.symm, a2.2.2.2.2.2.2.symm, a3.2.2.2.2.2.2.symm⟩, ⟨z1, z2⟩, z3⟩
    clear f79 fr8 s8 hv hdx hdv f9 V9 P1 P2 P3 P4 P5 P6 P7 B7
    refine ⟨by decide, q, L9.po.take, by decide, by decide, fun m H10 hm0 hm1 P10 f10 => ?_⟩
    obtain ⟨⟨d1, d2, d3, d4, d5, d6, d7, d8, d9⟩, ⟨d10, d11, d12, d13, d14, d15, d16, d17⟩, ⟨d18, d19, d20, d21, d22, d23, d24⟩, ⟨d25, d26, d27, d28, d29, d30⟩, ⟨d31, d32, d33, d34, d35⟩, ⟨d36, d37, d38, d39⟩, ⟨d40, d41, d42⟩, ⟨d43, d44⟩, d45⟩ := by
      have := L9.nd
      simp only [List.nodup_cons, List.mem_cons, List.not_mem_nil, or_false, not_or, not_false_eq_true, List.nodup_nil, and_true] at this
      exact this
    have nd := L9.nd
    refine ⟨m, rfl, by omega, by omega, ?_⟩
    refine for_range (lo := 0) (n := m.toNat) (fun t σ' H' => ∃ (z5 z6 z7 z8 z9 : Option V) (s : VS), σ' = [some (.ref a), some (.ref p), some (.ref l0), some (.ref b), some (.ref v), z5, z6, z7, z8, z9, none] ∧ LawSt K H' p q b la ll l0 v ls lm lr s ∧ s.st.length ≤ t + 1)
      ⟨none, none, none, none, none, _, rfl, ⟨P10, L9.bx.fr f10 (by simp [Ne.symm d2]) (by simp [Ne.symm d3]) (by simp [Ne.symm d4]) (by simp [Ne.symm d5]), L9.ve.fr f10 (by simp [Ne.symm d6]) (by simp [Ne.symm d7]) (by simp [Ne.symm d8]) (by simp [Ne.symm d9]), L9.wf, nd⟩, by simp⟩ ?_ ?_
    · clear L9 P10 f10
      rintro t σ' H' ht ⟨z5, z6, z7, z8, z9, s, rfl, L, hst⟩
      have take : ∀ {G : Hp}, LawSt K G p q b la ll l0 v ls lm lr s → ∀ {G' : Hp}, Fr [p] G G' → PoolAt G' p q → LawSt K G' p q b la ll l0 v ls lm lr s := fun L _ f P =>
        ⟨P, L.bx.fr f (by simp [Ne.symm d2]) (by simp [Ne.symm d3]) (by simp [Ne.symm d4]) (by simp [Ne.symm d5]), L.ve.fr f (by simp [Ne.symm d6]) (by simp [Ne.symm d7]) (by simp [Ne.symm d8]) (by simp [Ne.symm d9]), L.wf, nd⟩
      have hl1 := L.wf.l1
      have htm : (t : Int) < 61 := by omega
      refine ⟨by decide, q, L.po.take, by decide, by decide, fun k5 G1 _ _ P1 f1 => ⟨(show (0 : Int) < 4 by decide), ?_⟩⟩
      have L1 := take L f1 P1
      refine ⟨l0, _, rfl, .inl (SqL.of L1.bx.hs), ?_⟩
      refine ⟨by decide, q, L1.po.take, by rw [List.length_map]; omega, by rw [List.length_map]; omega, fun n0 G2 _ _ P2 f2 => ?_⟩
      have L2 := take L1 f2 P2
      refine ⟨by decide, q, L2.po.take, by decide, by decide, fun r3 G3 h30 h33 P3 f3 => ?_⟩
      have L3 := take L2 f3 P3
      refine ⟨⟨by decide, by decide, by decide⟩, by show 2 ≤ sizeLine; omega, fun tp htp => ?_⟩
      have ntp : tp ≠ p := fresh_ne L3.po.ex.1 htp
      have s4 := same_new (o := .tup [.int 1, .int (10 ^ Int.toNat 20)]) (Same.refl G3) htp
      have L4 : LawSt K (upd G3 tp (.tup [.int 1, .int (10 ^ Int.toNat 20)])) p q b la ll l0 v ls lm lr s := ⟨L3.po.same s4, L3.bx.same s4, L3.ve.same s4, L3.wf, nd⟩
      refine ⟨by decide, q, L4.po.take, by decide, by decide, fun r2 G5 h20 h22 P5 f5 => ?_⟩
      have L5 := take L4 f5 P5
      have ht5 := f5.at1 (upd_same (H := G3) (a := tp) (o := .tup [.int 1, .int (10 ^ Int.toNat 20)])) ntp
      clear L L1 L2 L3 L4 P1 P2 P3 f1 f2 f3 s4 take
      obtain ⟨x, hx⟩ : ∃ x : Int, atI [V.int 1, V.int (10 ^ Int.toNat 20)] r2 = some (.int x) := by
        have : r2 = 0 ∨ r2 = 1 := by omega
        rcases this with rfl | rfl
        · exact ⟨_, rfl⟩
        · exact ⟨_, rfl⟩
      refine ⟨_, _, _, _, rfl, rfl, SqT.of ht5, hx, ⟨.inl ⟨by omega, by omega⟩, ?_⟩⟩
      refine ⟨la, ll, l0, s, L5.bx, L5.wf, by omega, ?_⟩
      show ∀ dv G6, Box G6 b la ll l0 { s with ar := (step s (k5 % 4) (n0 - 2) 0).1.ar, la := (step s (k5 % 4) (n0 - 2) 0).1.la } → ResAt _ G6 (step s (k5 % 4) (n0 - 2) 0).2 dv → Fr [la, ll] _ G6 → _
      intro dv G6 B6 R6 f6
      have V6 := L5.ve.fr f6 (by walk_at "ni") (by walk_at "ni") (by walk_at "ni") (by walk_at "ni")
      have P6 := L5.po.fr f6 (by walk_at "ni") (by walk_at "ni")
      show sp_told K [.ref v, .int (k5 % 4), .int (n0 - 2), .int (r3 * x)] G6 _ E0
      refine ⟨ls, lm, lr, s, V6, L5.wf, by omega, fun y G7 V7 R7 f7 => ?_⟩
      obtain ⟨z1, z2, z3⟩ := step_z s (k5 % 4) (n0 - 2) (r3 * x)
      rw [z1, z2] at B6
      rw [z3] at R6
      have P7 := P6.fr f7 (by walk_at "ni") (by walk_at "ni")
      have B7 := B6.fr f7 (by walk_at "ni") (by walk_at "ni") (by walk_at "ni") (by walk_at "ni")
      have D7 : Dp K G7 dv (resD (step s (k5 % 4) (n0 - 2) (r3 * x)).2) ∧ (∀ w, (step s (k5 % 4) (n0 - 2) (r3 * x)).2 = .error w → ∃ pd, dv = .ref pd ∧ G7 pd = some (.tup [.str "refused", .str w])) := by
        have D6 := res_dp (K := K) R6
        cases e : (step s (k5 % 4) (n0 - 2) (r3 * x)).2 with
        | ok j =>
          rw [e] at D6
          refine ⟨?_, fun w h => (nomatch h)⟩
          cases D6
          exact .int _
        | error w =>
          rw [e] at R6
          obtain ⟨pd, e1, e2, e3⟩ := R6
          subst e1
          obtain ⟨dx5, ob5⟩ := L5.ve.ob
          have h7 : G7 pd = some (.tup [.str "refused", .str w]) := f7 _ _ e3 (by
            simp only [List.mem_cons, List.not_mem_nil, or_false, not_or]
            exact ⟨fresh_ne (ex_some ob5) e2, fresh_ne (ex_some L5.ve.hs) e2, fresh_ne (ex_some L5.ve.hm) e2, fresh_ne (ex_some L5.ve.hr) e2⟩)
          refine ⟨.tup (.inl (.inl h7)) (.cons (.str _) (.cons (.str _) .nil)), fun x' h => ?_⟩
          cases h
          exact ⟨pd, rfl, h7⟩
      obtain ⟨D7, T7⟩ := D7
      refine ⟨_, 1, rfl, resD_dle, res_dp R7, D7, fun G8 s8 => ?_⟩
      refine ⟨fun e => (nomatch e), fun _ => ?_⟩
      have P8 := P7.same s8
      have B8 := B7.same s8
      have V8 := V7.same s8
      have W8 := wf_step L5.wf (k5 % 4) (n0 - 2) (r3 * x)
      obtain ⟨s', hs'⟩ : ∃ s', s' = (step s (k5 % 4) (n0 - 2) (r3 * x)).1 := ⟨_, rfl⟩
      rw [← hs'] at V8 W8 B8
      have st' : s'.st = if (k5 % 4) = 0 then s.st ++ [(r3 * x)] else s.st := by rw [hs']; exact step_st s (k5 % 4) (n0 - 2) (r3 * x)
      have fin : ∀ G9, PoolAt G9 p q → Ver K G9 v ls lm lr s' → Box G9 b la ll l0 { s' with st := s.st } → 
          tSeq (uIfS (tBo (tOp fEq (tV 6) (tC (.int 0)))) (tDrop (tBM K "list" rAppend (tV 2) (tCons (tV 8) tNil))) tNext)
            (uIfS (tNot (tBo (uCall (sp_seen K) E0 (tCons (tV 4) (tCons (tV 3) tNil))))) (tRet (tC (.bl false))) tNext)
            { nx := fun σ' H' => ∃ (z5 z6 z7 z8 z9 : Option V) (s : VS), σ' = [some (.ref a), some (.ref p), some (.ref l0), some (.ref b), some (.ref v), z5, z6, z7, z8, z9, none] ∧ LawSt K H' p q b la ll l0 v ls lm lr s ∧ s.st.length ≤ t + 1 + 1, rt := Q }
            [some (.ref a), some (.ref p), some (.ref l0), some (.ref b), some (.ref v), some (.int (0 + (t : Int))), some (.int (k5 % 4)), some (.int (n0 - 2)), some (.int (r3 * x)), some dv, none] G9 := by
        intro G9 P9 V9 B9
        have last : ∀ Ga, PoolAt Ga p q → Ver K Ga v ls lm lr s' → Box Ga b la ll l0 s' → uIfS (tNot (tBo (uCall (sp_seen K) E0 (tCons (tV 4) (tCons (tV 3) tNil))))) (tRet (tC (.bl false))) tNext
            { nx := fun σ' H' => ∃ (z5 z6 z7 z8 z9 : Option V) (s : VS), σ' = [some (.ref a), some (.ref p), some (.ref l0), some (.ref b), some (.ref v), z5, z6, z7, z8, z9, none] ∧ LawSt K H' p q b la ll l0 v ls lm lr s ∧ s.st.length ≤ t + 1 + 1, rt := Q }
            [some (.ref a), some (.ref p), some (.ref l0), some (.ref b), some (.ref v), some (.int (0 + (t : Int))), some (.int (k5 % 4)), some (.int (n0 - 2)), some (.int (r3 * x)), some dv, none] Ga := by
          intro Ga Pa Va Ba
          have hl' : s'.st.length ≤ t + 1 + 1 := by
            rw [st']
            split
            · rw [List.length_append]
              simp
              omega
            · omega
          refine ⟨ls, lm, lr, la, ll, l0, s', Va, Ba, W8, by omega, fun Gb sb => ?_⟩
          exact ⟨fun e => (nomatch e), fun _ => ⟨_, _, _, _, _, s', rfl, ⟨Pa.same sb, Ba.same sb, Va.same sb, W8, nd⟩, hl'⟩⟩
        refine ⟨fun e0 => ?_, fun e0 => ?_⟩
        · have e0 : (k5 % 4) = 0 := of_decide_eq_true e0
          refine ⟨.inl ⟨rfl, _, SqL.of B9.hs⟩, l0, _, _, rfl, rfl, B9.hs, by rw [List.length_map]; show s.st.length < sizeLine; omega, ?_⟩
          have fa := (Fr.refl [l0] G9).wr (o := .lst (s.st.map V.int ++ [V.int (r3 * x)])) (p := l0) (by simp)
          refine last _ (P9.fr fa (by walk_at "ni") (by walk_at "ni")) (V9.fr fa (by walk_at "ni") (by walk_at "ni") (by walk_at "ni") (by walk_at "ni")) ⟨fa _ _ B9.hb (by walk_at "ni"), fa _ _ B9.ha (by walk_at "ni"), fa _ _ B9.hl (by walk_at "ni"), ?_, B9.n1, B9.n2, B9.n3⟩
          rw [upd_same, st', if_pos e0, List.map_append]
          rfl
        · have e0 : ¬ (k5 % 4) = 0 := of_decide_eq_false e0
          rw [if_neg e0] at st'
          refine last _ P9 V9 ?_
          rw [← st'] at B9
          exact B9
      cases hres : (step s (k5 % 4) (n0 - 2) (r3 * x)).2 with
      | ok j =>
        rw [hres] at D7
        cases D7
        have hj : s'.cur = j := by rw [hs']; exact step_ok hres
        refine ⟨fun _ => ?_, fun e => (nomatch e)⟩
        refine ⟨b, _, rfl, DPut.k (k := .inr "at") B8.hb (by show 4 < sizeLine; omega), ?_⟩
        rw [zip_putK (i := 0) (by decide +kernel) (by decide +kernel) (by show 0 < 4; decide)]
        have fb := (Fr.refl [b] G8).wr (o := .dK (ksB.zip [V.int (j : Int), .ref la, .ref ll, .ref l0])) (p := b) (by simp)
        refine fin _ (P8.fr fb (by walk_at "ni") (by walk_at "ni")) (V8.fr fb (by walk_at "ni") (by walk_at "ni") (by walk_at "ni") (by walk_at "ni")) ⟨?_, fb _ _ B8.ha (by walk_at "ni"), fb _ _ B8.hl (by walk_at "ni"), fb _ _ B8.hs (by walk_at "ni"), B8.n1, B8.n2, B8.n3⟩
        rw [← hj]
        exact upd_same
      | error w =>
        obtain ⟨pd, e1, e2⟩ := T7 w hres
        subst e1
        have hj : s'.cur = s.cur := by rw [hs']; exact step_err hres
        refine ⟨"tuple", tyx_t (.inl (.inl (s8 _ _ e2))), ⟨.inr (.inl rfl), by decide⟩, ?_⟩
        refine ⟨fun e => absurd e (by decide), fun _ => ?_⟩
        refine fin _ P8 V8 ?_
        refine ⟨?_, B8.ha, B8.hl, B8.hs, B8.n1, B8.n2, B8.n3⟩
        show G8 b = some (.dK (ksB.zip [.int (s'.cur : Int), .ref la, .ref ll, .ref l0]))
        rw [hj]
        exact B8.hb
    · 
      clear L9 P10 f10
      rintro σ' H' ⟨z5, z6, z7, z8, z9, s, rfl, L, hst⟩
      have hn : s.st.length ≤ 1000 := by omega
      refine ⟨l0, _, rfl, .inl (SqL.of L.bx.hs), _, rfl, by rw [List.length_map]; omega, by rw [List.length_map]; omega, ?_⟩
      rw [List.length_map]
      refine for_range (lo := 0) (n := ((s.st.length : Nat) : Int).toNat) (fun t σ' H'' => ∃ (za : Option V), σ' = [some (.ref a), some (.ref p), some (.ref l0), some (.ref b), some (.ref v), z5, z6, z7, z8, z9, za] ∧ LawSt K H'' p q b la ll l0 v ls lm lr s)
        ⟨none, rfl, L⟩ ?_ ?_
      · rintro i σ' H'' hi ⟨za, rfl, L2⟩
        have hi' : i < s.st.length := by simpa using hi
        obtain ⟨dx2, ob2⟩ := L2.ve.ob
        have e0 : (0 : Int) + (i : Int) = (i : Int) := Int.zero_add _
        rw [e0]
        refine ⟨v, dx2, _, rfl, ob2, zip_none (by decide +kernel), ls, lm, lr, s, L2.ve, hn, fun z _ hz => ?_, fun ho => by omega⟩
        rw [Int.toNat_natCast] at hz
        refine ⟨_, _, _, _, rfl, rfl, SqL.of L2.bx.hs, atI_nat (mapAt hz), ?_⟩
        refine ⟨.int z, 1, rfl, trivial, .int _, .int _, fun G s1 => ?_⟩
        exact ⟨fun e => (nomatch e), fun _ => ⟨_, rfl, ⟨L2.po.same s1, L2.bx.same s1, L2.ve.same s1, L2.wf, nd⟩⟩⟩
      · rintro σ' H'' ⟨za, rfl, L2⟩
        refine ⟨l0, _, rfl, .inl (SqL.of L2.bx.hs), ?_⟩
        refine ⟨ls, lm, lr, s, L2.ve, hn, .inr (by rw [List.length_map]; exact Int.le_refl _), ?_⟩
        refine ⟨fun _ => ?_, fun e => (nomatch e)⟩
        exact ⟨ls, lm, lr, s, L2.ve, hn, .inl (by decide), kk _⟩
  · exact h.elim
end
end Co.Vs
end

section
set_option maxHeartbeats 0
namespace Co.Vs
open PySem PySem.Spec PyProof.Rows L2 Co
def top (i : Nat) : Stmt := PySem.Challenge.pw_tongues_k72_versions.main.body.getD i (.Pass ⟨0, 0, 0, 0⟩)
abbrev s_Versions_init : Stmt := inClass (top 6) 0
abbrev N_Versions_init : List Str := ["self", "state"]
theorem sc_Versions_init : FnScope N_Versions_init ["self", "state"] (defScope s_Versions_init) := ⟨rfl, rfl, rfl, by decide +kernel, rfl, by decide +kernel, by decide +kernel⟩
abbrev s_Versions_check : Stmt := inClass (top 6) 5
abbrev N_Versions_check : List Str := ["self", "version"]
theorem sc_Versions_check : FnScope N_Versions_check ["self", "version"] (defScope s_Versions_check) := ⟨rfl, rfl, rfl, by decide +kernel, rfl, by decide +kernel, by decide +kernel⟩
abbrev s_Versions_state : Stmt := inClass (top 6) 1
abbrev N_Versions_state : List Str := ["self"]
theorem sc_Versions_state : FnScope N_Versions_state ["self"] (defScope s_Versions_state) := ⟨rfl, rfl, rfl, by decide +kernel, rfl, by decide +kernel, by decide +kernel⟩
abbrev s_Versions_state_of : Stmt := inClass (top 6) 2
abbrev N_Versions_state_of : List Str := ["self", "version"]
theorem sc_Versions_state_of : FnScope N_Versions_state_of ["self", "version"] (defScope s_Versions_state_of) := ⟨rfl, rfl, rfl, by decide +kernel, rfl, by decide +kernel, by decide +kernel⟩
abbrev s_Versions_made_from : Stmt := inClass (top 6) 3
abbrev N_Versions_made_from : List Str := ["self"]
theorem sc_Versions_made_from : FnScope N_Versions_made_from ["self"] (defScope s_Versions_made_from) := ⟨rfl, rfl, rfl, by decide +kernel, rfl, by decide +kernel, by decide +kernel⟩
abbrev s_Versions_remembered : Stmt := inClass (top 6) 4
abbrev N_Versions_remembered : List Str := ["self"]
theorem sc_Versions_remembered : FnScope N_Versions_remembered ["self"] (defScope s_Versions_remembered) := ⟨rfl, rfl, rfl, by decide +kernel, rfl, by decide +kernel, by decide +kernel⟩
abbrev s_Versions_make : Stmt := inClass (top 6) 6
abbrev N_Versions_make : List Str := ["self", "state", "number"]
theorem sc_Versions_make : FnScope N_Versions_make ["self", "state"] (defScope s_Versions_make) := ⟨rfl, rfl, rfl, by decide +kernel, rfl, by decide +kernel, by decide +kernel⟩
abbrev s_Versions_undo : Stmt := inClass (top 6) 7
abbrev N_Versions_undo : List Str := ["self", "around"]
theorem sc_Versions_undo : FnScope N_Versions_undo ["self"] (defScope s_Versions_undo) := ⟨rfl, rfl, rfl, by decide +kernel, rfl, by decide +kernel, by decide +kernel⟩
abbrev s_Versions_redo : Stmt := inClass (top 6) 8
abbrev N_Versions_redo : List Str := ["self", "following"]
theorem sc_Versions_redo : FnScope N_Versions_redo ["self"] (defScope s_Versions_redo) := ⟨rfl, rfl, rfl, by decide +kernel, rfl, by decide +kernel, by decide +kernel⟩
abbrev s_Versions_go : Stmt := inClass (top 6) 9
abbrev N_Versions_go : List Str := ["self", "version", "following", "around"]
theorem sc_Versions_go : FnScope N_Versions_go ["self", "version"] (defScope s_Versions_go) := ⟨rfl, rfl, rfl, by decide +kernel, rfl, by decide +kernel, by decide +kernel⟩
abbrev s_Lpool : Stmt := top 8
abbrev N_Lpool : List Str := ["_law_script", "_law_cell"]
theorem sc_Lpool : FnScope N_Lpool ["_law_script"] (defScope s_Lpool) := ⟨rfl, rfl, rfl, by decide +kernel, rfl, by decide +kernel, by decide +kernel⟩
abbrev s_Ltake : Stmt := top 9
abbrev N_Ltake : List Str := ["_law_pool_here", "_law_many", "_law_digit", "_law_cell", "_law_mixed"]
theorem sc_Ltake : FnScope N_Ltake ["_law_pool_here", "_law_many"] (defScope s_Ltake) := ⟨rfl, rfl, rfl, by decide +kernel, rfl, by decide +kernel, by decide +kernel⟩
abbrev s_Lsame : Stmt := top 10
abbrev N_Lsame : List Str := ["_law_actual", "_law_due_here", "_law_k"]
theorem sc_Lsame : FnScope N_Lsame ["_law_actual", "_law_due_here"] (defScope s_Lsame) := ⟨rfl, rfl, rfl, by decide +kernel, rfl, by decide +kernel, by decide +kernel⟩
abbrev s_Ldue : Stmt := top 11
abbrev N_Ldue : List Str := ["_law_box", "_law_kind", "_law_number", "_law_around", "_law_later", "_law_at", "_law_turn"]
theorem sc_Ldue : FnScope N_Ldue ["_law_box", "_law_kind", "_law_number"] (defScope s_Ldue) := ⟨rfl, rfl, rfl, by decide +kernel, rfl, by decide +kernel, by decide +kernel⟩
abbrev s_Ltold : Stmt := top 12
abbrev N_Ltold : List Str := ["_law_versions", "_law_kind", "_law_number", "_law_state"]
theorem sc_Ltold : FnScope N_Ltold ["_law_versions", "_law_kind", "_law_number", "_law_state"] (defScope s_Ltold) := ⟨rfl, rfl, rfl, by decide +kernel, rfl, by decide +kernel, by decide +kernel⟩
abbrev s_Lseen : Stmt := top 13
abbrev N_Lseen : List Str := ["_law_versions", "_law_box"]
theorem sc_Lseen : FnScope N_Lseen ["_law_versions", "_law_box"] (defScope s_Lseen) := ⟨rfl, rfl, rfl, by decide +kernel, rfl, by decide +kernel, by decide +kernel⟩
abbrev s_Lno_state : Stmt := top 14
abbrev N_Lno_state : List Str := ["_law_versions", "_law_number"]
theorem sc_Lno_state : FnScope N_Lno_state ["_law_versions", "_law_number"] (defScope s_Lno_state) := ⟨rfl, rfl, rfl, by decide +kernel, rfl, by decide +kernel, by decide +kernel⟩
abbrev s_law : Stmt := top 15
abbrev N_law : List Str := ["_law_script", "_law_pool_here", "_law_states", "_law_box", "_law_versions", "_law_turn", "_law_kind", "_law_number", "_law_state", "_law_due_here", "_law_k"]
theorem sc_law : FnScope N_law ["_law_script"] (defScope s_law) := ⟨rfl, rfl, rfl, by decide +kernel, rfl, by decide +kernel, by decide +kernel⟩
def df_Versions_init : He.DefD := ⟨("Versions", some "__init__"), "__init__", "Versions.__init__", defArgs s_Versions_init, defBody s_Versions_init, defScope s_Versions_init, [], []⟩
def df_Versions_check : He.DefD := ⟨("Versions", some "_check"), "_check", "Versions._check", defArgs s_Versions_check, defBody s_Versions_check, defScope s_Versions_check, [], []⟩
def df_Versions_state : He.DefD := ⟨("Versions", some "state"), "state", "Versions.state", defArgs s_Versions_state, defBody s_Versions_state, defScope s_Versions_state, [], []⟩
def df_Versions_state_of : He.DefD := ⟨("Versions", some "state_of"), "state_of", "Versions.state_of", defArgs s_Versions_state_of, defBody s_Versions_state_of, defScope s_Versions_state_of, [], []⟩
def df_Versions_made_from : He.DefD := ⟨("Versions", some "made_from"), "made_from", "Versions.made_from", defArgs s_Versions_made_from, defBody s_Versions_made_from, defScope s_Versions_made_from, [], []⟩
def df_Versions_remembered : He.DefD := ⟨("Versions", some "remembered"), "remembered", "Versions.remembered", defArgs s_Versions_remembered, defBody s_Versions_remembered, defScope s_Versions_remembered, [], []⟩
def df_Versions_make : He.DefD := ⟨("Versions", some "make"), "make", "Versions.make", defArgs s_Versions_make, defBody s_Versions_make, defScope s_Versions_make, [], []⟩
def df_Versions_undo : He.DefD := ⟨("Versions", some "undo"), "undo", "Versions.undo", defArgs s_Versions_undo, defBody s_Versions_undo, defScope s_Versions_undo, [], []⟩
def df_Versions_redo : He.DefD := ⟨("Versions", some "redo"), "redo", "Versions.redo", defArgs s_Versions_redo, defBody s_Versions_redo, defScope s_Versions_redo, [], []⟩
def df_Versions_go : He.DefD := ⟨("Versions", some "go"), "go", "Versions.go", defArgs s_Versions_go, defBody s_Versions_go, defScope s_Versions_go, [], []⟩
def df_Lpool : He.DefD := ⟨("_law_pool", none), "_law_pool", "_law_pool", defArgs s_Lpool, defBody s_Lpool, defScope s_Lpool, [], []⟩
def df_Ltake : He.DefD := ⟨("_law_take", none), "_law_take", "_law_take", defArgs s_Ltake, defBody s_Ltake, defScope s_Ltake, [], []⟩
def df_Lsame : He.DefD := ⟨("_law_same", none), "_law_same", "_law_same", defArgs s_Lsame, defBody s_Lsame, defScope s_Lsame, [], []⟩
def df_Ldue : He.DefD := ⟨("_law_due", none), "_law_due", "_law_due", defArgs s_Ldue, defBody s_Ldue, defScope s_Ldue, [], []⟩
def df_Ltold : He.DefD := ⟨("_law_told", none), "_law_told", "_law_told", defArgs s_Ltold, defBody s_Ltold, defScope s_Ltold, [], []⟩
def df_Lseen : He.DefD := ⟨("_law_seen", none), "_law_seen", "_law_seen", defArgs s_Lseen, defBody s_Lseen, defScope s_Lseen, [], []⟩
def df_Lno_state : He.DefD := ⟨("_law_no_state", none), "_law_no_state", "_law_no_state", defArgs s_Lno_state, defBody s_Lno_state, defScope s_Lno_state, [], []⟩
def df_law : He.DefD := ⟨("law", none), "law", "law", defArgs s_law, defBody s_law, defScope s_law, [], []⟩
def fn : List He.DefD := [df_Versions_init, df_Versions_check, df_Versions_state, df_Versions_state_of, df_Versions_made_from, df_Versions_remembered, df_Versions_make, df_Versions_undo, df_Versions_redo, df_Versions_go, df_Lpool, df_Ltake, df_Lsame, df_Ldue, df_Ltold, df_Lseen, df_Lno_state, df_law]
def fa : List He.Fa := [.free "len", .exc "NoVersion", .glo "NoVersion", .cls "Versions", .meth "Versions" "_check", .free "tuple", .exc "NothingToUndo", .glo "NothingToUndo", .exc "NothingToRedo", .glo "NothingToRedo", .free "int", .glo "_law_take", .free "isinstance", .free "list", .free "range", .glo "_law_same", .free "all", .free "bool", .free "str", .meth "Versions" "make", .meth "Versions" "undo", .meth "Versions" "redo", .meth "Versions" "go", .meth "Versions" "state", .meth "Versions" "made_from", .meth "Versions" "remembered", .meth "Versions" "state_of", .glo "_law_pool", .mkr "Versions", .glo "Versions", .glo "_law_due", .glo "_law_told", .glo "_law_seen", .glo "_law_no_state", .noat "Versions" "_states", .noat "Versions" "_made_from", .noat "Versions" "_remembered", .noat "Versions" "present", .exm "NothingToUndo" "NothingToUndo" true, .exm "NothingToRedo" "NothingToUndo" false, .exm "NothingToRedo" "NothingToRedo" true, .exm "NoVersion" "NothingToUndo" false, .exm "NoVersion" "NothingToRedo" false, .exm "NoVersion" "NoVersion" true, .glo "law"]
theorem ck {K : PySem.W.Frag} {mg : Str → Option Value} (T : Fx fa fn K mg) : CK K := ⟨T.cls 3, T.noat 34, T.noat 35, T.noat 36, T.noat 37⟩
theorem ek {K : PySem.W.Frag} {mg : Str → Option Value} (T : Fx fa fn K mg) : EK K := ⟨T.exm 38, T.exm 39, T.exm 40, T.exm 41, T.exm 42, T.exm 43⟩
section
variable {P : Program} {w : World} {K : PySem.W.Frag} {mg : Str → Option Value} {base : Heap}
theorem ok_Versions_init (T : Fx fa fn K mg) : Def P w K mg base 1 (He.ma K (He.ga K "Versions") "__init__") ["self", "state"] (sp_init K) := by
  obtain ⟨fd, F⟩ := T.c.def_ 0 (d := df_Versions_init) rfl
  refine Def.of (k := 0) (N := N_Versions_init) F sc_Versions_init (fun _ _ _ _ _ _ us hl => match us, hl with | [_, _], _ => rfl) (fun vs H Q E h => by unfold sp_init at h; split at h <;> first | rfl | exact h.elim) (fun cdv A outer s H vs Q E hr h => ⟨_, ?_, r_init (ck T) h⟩)
  exact (pss_cons (ps_fld (va 0) (pe_lst (pa_cons (va 1) pa_nil)) rfl)
 (pss_cons (ps_fld (va 0) (pe_lst (pa_cons pe_non pa_nil)) rfl)
 (pss_cons (ps_fld (va 0) (pe_lst (pa_cons pe_non pa_nil)) rfl)
 (pss_one (ps_fld (va 0) pe_int rfl)))))
theorem ok_Versions_check (T : Fx fa fn K mg) : Def P w K mg base 1 (He.ma K (He.ga K "Versions") "_check") ["self", "version"] (sp_check K) := by
  obtain ⟨fd, F⟩ := T.c.def_ 1 (d := df_Versions_check) rfl
  refine Def.of (k := 0) (N := N_Versions_check) F sc_Versions_check (fun _ _ _ _ _ _ us hl => match us, hl with | [_, _], _ => rfl) (fun vs H Q E h => by unfold sp_check at h; split at h <;> first | rfl | exact h.elim) (fun cdv A outer s H vs Q E hr h => ⟨_, ?_, r_check (ck T) h⟩)
  exact (pss_one (s_if (PW.pt (w_or (t_cmp o_lt (va 1) pe_int (nomark _)) (pw_or1 (t_cmp o_ge (va 1) (pe_callB call_len_seq (by rfl) (T.free 0) PySem.boot_len (pa_cons (pe_fld (va 0) rfl) pa_nil)) (nomark _))))) (pss_one (ps_raise rfl (takes_of rfl rfl rfl rfl) (T.mk0 1 (T.glo 2)))) pss_nil))
theorem ok_Versions_state (T : Fx fa fn K mg) : Def P w K mg base 1 (He.ma K (He.ga K "Versions") "state") ["self"] (sp_state K) := by
  obtain ⟨fd, F⟩ := T.c.def_ 2 (d := df_Versions_state) rfl
  refine Def.of (k := 0) (N := N_Versions_state) F sc_Versions_state (fun _ _ _ _ _ _ us hl => match us, hl with | [_], _ => rfl) (fun vs H Q E h => by unfold sp_state at h; split at h <;> first | rfl | exact h.elim) (fun cdv A outer s H vs Q E hr h => ⟨_, ?_, r_state (ck T) h⟩)
  exact (pss_one (ps_ret (pe_ix ix_list (pe_fld (va 0) rfl) (pe_fld (va 0) rfl) (fun _ _ => rfl))))
theorem ok_Versions_state_of (T : Fx fa fn K mg) (D_Versions_check : Def P w K mg base 1 (He.ma K (He.ga K "Versions") "_check") ["self", "version"] (sp_check K)) : Def P w K mg base 2 (He.ma K (He.ga K "Versions") "state_of") ["self", "version"] (sp_state_of K) := by
  obtain ⟨fd, F⟩ := T.c.def_ 3 (d := df_Versions_state_of) rfl
  refine Def.of (k := 1) (N := N_Versions_state_of) F sc_Versions_state_of (fun _ _ _ _ _ _ us hl => match us, hl with | [_, _], _ => rfl) (fun vs H Q E h => by unfold sp_state_of at h; split at h <;> first | rfl | exact h.elim) (fun cdv A outer s H vs Q E hr h => ⟨_, ?_, r_state_of (ck T) h⟩)
  exact (pss_cons (ps_expr (e_meth (va 0) (T.cls 3) (T.meth 4) D_Versions_check (hr.mono (by decide)) (fun σ => passAt (takes_of rfl rfl rfl rfl) σ) (pa_cons (va 1) pa_nil)))
 (pss_one (ps_ret (pe_ix ix_list (pe_fld (va 0) rfl) (va 1) (fun _ _ => rfl)))))
theorem ok_Versions_made_from (T : Fx fa fn K mg) : Def P w K mg base 1 (He.ma K (He.ga K "Versions") "made_from") ["self"] (sp_made K) := by
  obtain ⟨fd, F⟩ := T.c.def_ 4 (d := df_Versions_made_from) rfl
  refine Def.of (k := 0) (N := N_Versions_made_from) F sc_Versions_made_from (fun _ _ _ _ _ _ us hl => match us, hl with | [_], _ => rfl) (fun vs H Q E h => by unfold sp_made at h; split at h <;> first | rfl | exact h.elim) (fun cdv A outer s H vs Q E hr h => ⟨_, ?_, r_made (ck T) h⟩)
  exact (pss_one (ps_ret (pe_callTy call_tuple_of (by rfl) (T.free 5) (by decide +kernel) (pa_cons (pe_fld (va 0) rfl) pa_nil))))
theorem ok_Versions_remembered (T : Fx fa fn K mg) : Def P w K mg base 1 (He.ma K (He.ga K "Versions") "remembered") ["self"] (sp_rem K) := by
  obtain ⟨fd, F⟩ := T.c.def_ 5 (d := df_Versions_remembered) rfl
  refine Def.of (k := 0) (N := N_Versions_remembered) F sc_Versions_remembered (fun _ _ _ _ _ _ us hl => match us, hl with | [_], _ => rfl) (fun vs H Q E h => by unfold sp_rem at h; split at h <;> first | rfl | exact h.elim) (fun cdv A outer s H vs Q E hr h => ⟨_, ?_, r_rem (ck T) h⟩)
  exact (pss_one (ps_ret (pe_ix ix_list (pe_fld (va 0) rfl) (pe_fld (va 0) rfl) (fun _ _ => rfl))))
theorem ok_Versions_make (T : Fx fa fn K mg) : Def P w K mg base 1 (He.ma K (He.ga K "Versions") "make") ["self", "state"] (sp_make K) := by
  obtain ⟨fd, F⟩ := T.c.def_ 6 (d := df_Versions_make) rfl
  refine Def.of (k := 0) (N := N_Versions_make) F sc_Versions_make (fun _ _ _ _ _ _ us hl => match us, hl with | [_, _], _ => rfl) (fun vs H Q E h => by unfold sp_make at h; split at h <;> first | rfl | exact h.elim) (fun cdv A outer s H vs Q E hr h => ⟨_, ?_, r_make (ck T) h⟩)
  exact (pss_cons (ps_set (i := 2) sc_Versions_make.nd rfl (Or.inl rfl) (pe_callB call_len_seq (by rfl) (T.free 0) PySem.boot_len (pa_cons (pe_fld (va 0) rfl) pa_nil)))
 (pss_cons (ps_expr (pe_bm PySem.F.plainAttrs_list PySem.F.slot_list_append PySem.F.type_list_append mt_append (pe_fld (va 0) rfl) (pa_cons (va 1) pa_nil)))
 (pss_cons (ps_expr (pe_bm PySem.F.plainAttrs_list PySem.F.slot_list_append PySem.F.type_list_append mt_append (pe_fld (va 0) rfl) (pa_cons (pe_fld (va 0) rfl) pa_nil)))
 (pss_cons (ps_expr (pe_bm PySem.F.plainAttrs_list PySem.F.slot_list_append PySem.F.type_list_append mt_append (pe_fld (va 0) rfl) (pa_cons pe_non pa_nil)))
 (pss_cons (ps_asg (va 2) (pg_sub (pe_fld (va 0) rfl) (pe_fld (va 0) rfl) set_list))
 (pss_cons (ps_fld (va 0) (va 2) rfl)
 (pss_one (ps_ret (va 2)))))))))
theorem ok_Versions_undo (T : Fx fa fn K mg) : Def P w K mg base 1 (He.ma K (He.ga K "Versions") "undo") ["self"] (sp_undo K) := by
  obtain ⟨fd, F⟩ := T.c.def_ 7 (d := df_Versions_undo) rfl
  refine Def.of (k := 0) (N := N_Versions_undo) F sc_Versions_undo (fun _ _ _ _ _ _ us hl => match us, hl with | [_], _ => rfl) (fun vs H Q E h => by unfold sp_undo at h; split at h <;> first | rfl | exact h.elim) (fun cdv A outer s H vs Q E hr h => ⟨_, ?_, r_undo (ck T) h⟩)
  exact (pss_cons (ps_set (i := 1) sc_Versions_undo.nd rfl (Or.inl rfl) (pe_ix ix_list (pe_fld (va 0) rfl) (pe_fld (va 0) rfl) (fun _ _ => rfl)))
 (pss_cons (s_if (t_isN (va 1)) (pss_one (ps_raise rfl (takes_of rfl rfl rfl rfl) (T.mk0 6 (T.glo 7)))) pss_nil)
 (pss_cons (ps_asg (pe_fld (va 0) rfl) (pg_sub (pe_fld (va 0) rfl) (va 1) set_list))
 (pss_cons (ps_fld (va 0) (va 1) rfl)
 (pss_one (ps_ret (va 1)))))))
theorem ok_Versions_redo (T : Fx fa fn K mg) : Def P w K mg base 1 (He.ma K (He.ga K "Versions") "redo") ["self"] (sp_redo K) := by
  obtain ⟨fd, F⟩ := T.c.def_ 8 (d := df_Versions_redo) rfl
  refine Def.of (k := 0) (N := N_Versions_redo) F sc_Versions_redo (fun _ _ _ _ _ _ us hl => match us, hl with | [_], _ => rfl) (fun vs H Q E h => by unfold sp_redo at h; split at h <;> first | rfl | exact h.elim) (fun cdv A outer s H vs Q E hr h => ⟨_, ?_, r_redo (ck T) h⟩)
  exact (pss_cons (ps_set (i := 1) sc_Versions_redo.nd rfl (Or.inl rfl) (pe_ix ix_list (pe_fld (va 0) rfl) (pe_fld (va 0) rfl) (fun _ _ => rfl)))
 (pss_cons (s_if (t_isN (va 1)) (pss_one (ps_raise rfl (takes_of rfl rfl rfl rfl) (T.mk0 8 (T.glo 9)))) pss_nil)
 (pss_cons (ps_fld (va 0) (va 1) rfl)
 (pss_one (ps_ret (va 1))))))
theorem ok_Versions_go (T : Fx fa fn K mg) (D_Versions_check : Def P w K mg base 1 (He.ma K (He.ga K "Versions") "_check") ["self", "version"] (sp_check K)) : Def P w K mg base 2 (He.ma K (He.ga K "Versions") "go") ["self", "version"] (sp_go K) := by
  obtain ⟨fd, F⟩ := T.c.def_ 9 (d := df_Versions_go) rfl
  refine Def.of (k := 1) (N := N_Versions_go) F sc_Versions_go (fun _ _ _ _ _ _ us hl => match us, hl with | [_, _], _ => rfl) (fun vs H Q E h => by unfold sp_go at h; split at h <;> first | rfl | exact h.elim) (fun cdv A outer s H vs Q E hr h => ⟨_, ?_, r_go (ck T) h⟩)
  exact (pss_cons (ps_expr (e_meth (va 0) (T.cls 3) (T.meth 4) D_Versions_check (hr.mono (by decide)) (fun σ => passAt (takes_of rfl rfl rfl rfl) σ) (pa_cons (va 1) pa_nil)))
 (pss_cons (ps_set (i := 2) sc_Versions_go.nd rfl (Or.inl rfl) (va 1))
 (pss_cons (ps_set (i := 3) sc_Versions_go.nd rfl (Or.inl rfl) (pe_ix ix_list (pe_fld (va 0) rfl) (va 2) (fun _ _ => rfl)))
 (pss_cons (s_while (passes_of rfl) (t_notN (va 3))
 (pss_cons (ps_asg (va 2) (pg_sub (pe_fld (va 0) rfl) (va 3) set_list))
 (pss_cons (ps_set (i := 2) sc_Versions_go.nd rfl (Or.inl rfl) (va 3))
 (pss_one (ps_set (i := 3) sc_Versions_go.nd rfl (Or.inl rfl) (pe_ix ix_list (pe_fld (va 0) rfl) (va 2) (fun _ _ => rfl)))))))
 (pss_cons (ps_fld (va 0) (va 1) rfl)
 (pss_one (ps_ret (va 1))))))))
theorem ok_Lpool (T : Fx fa fn K mg) : Def P w K mg base 1 (He.ga K "_law_pool") ["_law_script"] (sp_pool K) := by
  obtain ⟨fd, F⟩ := T.c.def_ 10 (d := df_Lpool) rfl
  refine Def.of (k := 0) (N := N_Lpool) F sc_Lpool (fun _ _ _ _ _ _ us hl => match us, hl with | [_], _ => rfl) (fun vs H Q E h => by unfold sp_pool at h; split at h <;> first | rfl | exact h.elim) (fun cdv A outer s H vs Q E hr h => ⟨_, ?_, r_Lpool h⟩)
  exact (pss_one (ps_ret (pe_lst (pa_cons (e_lc (own := [("_law_cell", 1)]) (g := (gName 1)) rfl sc_Lpool.nd (pi_list (va 0)) (blkOk_by (own := [("_law_cell", 1)]) (N := N_Lpool) (sc := defScope s_Lpool) (by decide +kernel)) (fun _ _ _ _ _ => (pg_name (i := 1) sc_Lpool.nd rfl (Or.inl rfl))) (fun _ _ _ _ _ => pts_nil) (fun _ _ _ _ _ => (e_if (t_cmp o_ge (va 1) pe_int (nomark _)) (pe_op o_mul pe_int (va 1)) (pe_op o_sub (pe_op o_mul (pe_un u_neg pe_int) (va 1)) pe_int)))) (pa_cons pe_int (pa_cons pe_int (pa_cons pe_int pa_nil)))))))
theorem ok_Ltake (n : Nat) (T : Fx fa fn K mg) (D_Ltake : Def P w K mg base n (He.ga K "_law_take") ["_law_pool_here", "_law_many"] (sp_take n)) : Def P w K mg base (n + 1) (He.ga K "_law_take") ["_law_pool_here", "_law_many"] (sp_take (n + 1)) := by
  obtain ⟨fd, F⟩ := T.c.def_ 11 (d := df_Ltake) rfl
  refine Def.of (k := n) (N := N_Ltake) F sc_Ltake (fun _ _ _ _ _ _ us hl => match us, hl with | [_, _], _ => rfl) (fun vs H Q E h => by unfold sp_take at h; split at h <;> first | rfl | exact h.elim) (fun cdv A outer s H vs Q E hr h => ⟨_, ?_, r_Ltake (K := K) h⟩)
  exact (pss_cons (s_if (t_cmp o_gt (pe_ix ix_list (va 0) pe_int (fun _ _ => rfl)) pe_int (nomark _)) (pss_cons (ps_set (i := 2) sc_Ltake.nd rfl (Or.inl rfl) (pe_op o_mod (pe_callTy c_int (by rfl) (T.free 10) (by decide +kernel) (pa_cons (pe_ix ix_list (va 0) pe_int (fun _ _ => rfl)) pa_nil)) (va 1)))
 (pss_cons (ps_asg (pe_op o_div (pe_ix ix_list (va 0) pe_int (fun _ _ => rfl)) (va 1)) (pg_sub (va 0) pe_int set_list))
 (pss_one (ps_ret (va 2))))) pss_nil)
 (pss_cons (ps_set (i := 3) sc_Ltake.nd rfl (Or.inl rfl) pe_int)
 (pss_cons (s_if (t_cmp o_lt (pe_ix ix_list (va 0) pe_int (fun _ _ => rfl)) (pe_callB c_lenA (by rfl) (T.free 0) PySem.boot_len (pa_cons (pe_ix ix_list (va 0) pe_int (fun _ _ => rfl)) pa_nil)) (nomark _)) (pss_one (ps_set (i := 3) sc_Ltake.nd rfl (Or.inl rfl) (pe_ix ix_seq (pe_ix ix_list (va 0) pe_int (fun _ _ => rfl)) (pe_ix ix_list (va 0) pe_int (fun _ _ => rfl)) (fun _ _ => rfl)))) pss_nil)
 (pss_cons (ps_asg (pe_op o_add (pe_ix ix_list (va 0) pe_int (fun _ _ => rfl)) pe_int) (pg_sub (va 0) pe_int set_list))
 (pss_cons (s_if (t_cmp o_ge (va 3) (pe_op o_pow pe_int pe_int) (nomark _)) (pss_cons (ps_asg (pe_op o_div (va 3) pe_int) (pg_sub (va 0) pe_int set_list))
 (pss_one (ps_ret (e_call D_Ltake hr rfl (T.glo 11) passL (pa_cons (va 0) (pa_cons (va 1) pa_nil)))))) pss_nil)
 (pss_cons (ps_asg (pe_op o_mod (pe_callTy c_int (by rfl) (T.free 10) (by decide +kernel) (pa_cons (pe_op o_add (pe_op o_add (pe_op o_mul (pe_ix ix_list (va 0) pe_int (fun _ _ => rfl)) pe_int) (pe_op o_mul (va 3) pe_int)) (pe_op o_mul (pe_ix ix_list (va 0) pe_int (fun _ _ => rfl)) pe_int)) pa_nil)) pe_int) (pg_sub (va 0) pe_int set_list))
 (pss_cons (ps_set (i := 4) sc_Ltake.nd rfl (Or.inl rfl) (pe_op o_mod (pe_callTy c_int (by rfl) (T.free 10) (by decide +kernel) (pa_cons (pe_op o_add (pe_op o_add (pe_op o_mul (pe_ix ix_list (va 0) pe_int (fun _ _ => rfl)) (pe_ix ix_list (va 0) pe_int (fun _ _ => rfl))) (pe_op o_mul (pe_ix ix_list (va 0) pe_int (fun _ _ => rfl)) pe_int)) pe_int) pa_nil)) pe_int))
 (pss_one (ps_ret (pe_op o_mod (pe_callTy c_int (by rfl) (T.free 10) (by decide +kernel) (pa_cons (pe_op o_div (va 4) pe_int) pa_nil)) (va 1)))))))))))
theorem no_Ltake (T : Fx fa fn K mg) : Def P w K mg base 0 (He.ga K "_law_take") ["_law_pool_here", "_law_many"] (fun _ _ _ _ => False) := by
  obtain ⟨fd, F⟩ := T.c.def_ 11 (d := df_Ltake) rfl
  exact Def.zero F (fun _ _ _ _ _ _ us hl => match us, hl with | [_, _], _ => rfl)
theorem ok_Lsame (n : Nat) (T : Fx fa fn K mg) (D_Lsame : Def P w K mg base n (He.ga K "_law_same") ["_law_actual", "_law_due_here"] (sp_same K n)) : Def P w K mg base (n + 1) (He.ga K "_law_same") ["_law_actual", "_law_due_here"] (sp_same K (n + 1)) := by
  obtain ⟨fd, F⟩ := T.c.def_ 12 (d := df_Lsame) rfl
  refine Def.of (k := n) (N := N_Lsame) F sc_Lsame (fun _ _ _ _ _ _ us hl => match us, hl with | [_, _], _ => rfl) (fun vs H Q E h => by unfold sp_same at h; split at h <;> first | rfl | exact h.elim) (fun cdv A outer s H vs Q E hr h => ⟨_, ?_, r_LsameB h⟩)
  exact (pss_cons (s_if (t_isN (va 1)) (pss_one (ps_ret (e_isN (va 0)))) pss_nil)
 (pss_cons (s_if (PW.pt (w_or (t_cmp o_ne (pe_callB c_isi (by rfl) (T.free 12) (by decide +kernel) (pa_cons (va 1) (pa_cons (pe_bltn (by rfl) (T.free 5) (by decide +kernel) rfl) pa_nil))) (pe_callB c_isi (by rfl) (T.free 12) (by decide +kernel) (pa_cons (va 0) (pa_cons (pe_bltn (by rfl) (T.free 5) (by decide +kernel) rfl) pa_nil))) (nomark _)) (pw_or1 (t_cmp o_ne (pe_callB c_isi (by rfl) (T.free 12) (by decide +kernel) (pa_cons (va 1) (pa_cons (pe_bltn (by rfl) (T.free 13) (by decide +kernel) rfl) pa_nil))) (pe_callB c_isi (by rfl) (T.free 12) (by decide +kernel) (pa_cons (va 0) (pa_cons (pe_bltn (by rfl) (T.free 13) (by decide +kernel) rfl) pa_nil))) (nomark _))))) (pss_one (ps_ret pe_bl)) pss_nil)
 (pss_cons (s_if (PW.pt (w_or (t_val (pe_callB c_isi (by rfl) (T.free 12) (by decide +kernel) (pa_cons (va 1) (pa_cons (pe_bltn (by rfl) (T.free 5) (by decide +kernel) rfl) pa_nil)))) (pw_or1 (t_val (pe_callB c_isi (by rfl) (T.free 12) (by decide +kernel) (pa_cons (va 1) (pa_cons (pe_bltn (by rfl) (T.free 13) (by decide +kernel) rfl) pa_nil))))))) (pss_one (ps_ret (e_and (pe_cmpR o_eq (pe_callB c_lenA (by rfl) (T.free 0) PySem.boot_len (pa_cons (va 0) pa_nil)) (pe_callB c_lenA (by rfl) (T.free 0) PySem.boot_len (pa_cons (va 1) pa_nil)) (nomark _)) (pe_one (pe_callB (cr_all rfl) (by rfl) (T.free 16) (by decide +kernel) (pa_cons (e_lc (own := [("_law_k", 2)]) (g := (gName 2)) rfl sc_Lsame.nd (pi_range1 rfl (T.free 14) (pa_cons (pe_callB c_lenA (by rfl) (T.free 0) PySem.boot_len (pa_cons (va 1) pa_nil)) pa_nil)) (blkOk_by (own := [("_law_k", 2)]) (N := N_Lsame) (sc := defScope s_Lsame) (by decide +kernel)) (fun _ _ _ _ _ => (pg_name (i := 2) sc_Lsame.nd rfl (Or.inl rfl))) (fun _ _ _ _ _ => pts_nil) (fun _ _ _ _ _ => (e_call D_Lsame hr rfl (T.glo 15) passL (pa_cons (pe_ix ix_seq (va 0) (va 2) (fun _ _ => rfl)) (pa_cons (pe_ix ix_seq (va 1) (va 2) (fun _ _ => rfl)) pa_nil))))) pa_nil)))))) pss_nil)
 (pss_cons (s_if (PW.pt (w_or (t_cmp o_ne (pe_callB c_isi (by rfl) (T.free 12) (by decide +kernel) (pa_cons (va 1) (pa_cons (pe_bltn (by rfl) (T.free 17) (by decide +kernel) rfl) pa_nil))) (pe_callB c_isi (by rfl) (T.free 12) (by decide +kernel) (pa_cons (va 0) (pa_cons (pe_bltn (by rfl) (T.free 17) (by decide +kernel) rfl) pa_nil))) (nomark _)) (pw_or1 (t_cmp o_ne (pe_callB c_isi (by rfl) (T.free 12) (by decide +kernel) (pa_cons (va 1) (pa_cons (pe_bltn (by rfl) (T.free 18) (by decide +kernel) rfl) pa_nil))) (pe_callB c_isi (by rfl) (T.free 12) (by decide +kernel) (pa_cons (va 0) (pa_cons (pe_bltn (by rfl) (T.free 18) (by decide +kernel) rfl) pa_nil))) (nomark _))))) (pss_one (ps_ret pe_bl)) pss_nil)
 (pss_one (ps_ret (e_and (pe_cmpR o_eq (pe_callB c_isi (by rfl) (T.free 12) (by decide +kernel) (pa_cons (va 1) (pa_cons (pe_bltn (by rfl) (T.free 10) (by decide +kernel) rfl) pa_nil))) (pe_callB c_isi (by rfl) (T.free 12) (by decide +kernel) (pa_cons (va 0) (pa_cons (pe_bltn (by rfl) (T.free 10) (by decide +kernel) rfl) pa_nil))) (nomark _)) (pe_one (pe_cmpR o_eq (va 0) (va 1) (nomark _))))))))))
theorem no_Lsame (T : Fx fa fn K mg) : Def P w K mg base 0 (He.ga K "_law_same") ["_law_actual", "_law_due_here"] (fun _ _ _ _ => False) := by
  obtain ⟨fd, F⟩ := T.c.def_ 12 (d := df_Lsame) rfl
  exact Def.zero F (fun _ _ _ _ _ _ us hl => match us, hl with | [_, _], _ => rfl)
theorem ok_Ldue (T : Fx fa fn K mg) : Def P w K mg base 1 (He.ga K "_law_due") ["_law_box", "_law_kind", "_law_number"] sp_due := by
  obtain ⟨fd, F⟩ := T.c.def_ 13 (d := df_Ldue) rfl
  refine Def.of (k := 0) (N := N_Ldue) F sc_Ldue (fun _ _ _ _ _ _ us hl => match us, hl with | [_, _, _], _ => rfl) (fun vs H Q E h => by unfold sp_due at h; split at h <;> first | rfl | exact h.elim) (fun cdv A outer s H vs Q E hr h => ⟨_, ?_, r_due (K := K) h⟩)
  exact (pss_cons (ps_set (i := 3) sc_Ldue.nd rfl (Or.inl rfl) (pe_dget (hu_of hr) (va 0) pe_str (fun _ _ => rfl)))
 (pss_cons (ps_set (i := 4) sc_Ldue.nd rfl (Or.inl rfl) (pe_dget (hu_of hr) (va 0) pe_str (fun _ _ => rfl)))
 (pss_cons (s_if (t_cmp o_eq (va 1) pe_int (nomark _)) (pss_cons (ps_expr (pe_bm PySem.F.plainAttrs_list PySem.F.slot_list_append PySem.F.type_list_append mt_append (va 3) (pa_cons (pe_dget (hu_of hr) (va 0) pe_str (fun _ _ => rfl)) pa_nil)))
 (pss_cons (ps_expr (pe_bm PySem.F.plainAttrs_list PySem.F.slot_list_append PySem.F.type_list_append mt_append (va 4) (pa_cons pe_non pa_nil)))
 (pss_cons (ps_asg (pe_op o_sub (pe_callB call_len_seq (by rfl) (T.free 0) PySem.boot_len (pa_cons (va 3) pa_nil)) pe_int) (pg_sub (va 4) (pe_dget (hu_of hr) (va 0) pe_str (fun _ _ => rfl)) set_list))
 (pss_one (ps_ret (pe_op o_sub (pe_callB call_len_seq (by rfl) (T.free 0) PySem.boot_len (pa_cons (va 3) pa_nil)) pe_int)))))) pss_nil)
 (pss_cons (s_if (t_cmp o_eq (va 1) pe_int (nomark _)) (pss_cons (s_if (t_isN (pe_ix ix_list (va 3) (pe_dget (hu_of hr) (va 0) pe_str (fun _ _ => rfl)) (fun _ _ => rfl))) (pss_one (ps_ret (pe_tup (pa_cons pe_str (pa_cons pe_str pa_nil))))) pss_nil)
 (pss_cons (ps_asg (pe_dget (hu_of hr) (va 0) pe_str (fun _ _ => rfl)) (pg_sub (va 4) (pe_ix ix_list (va 3) (pe_dget (hu_of hr) (va 0) pe_str (fun _ _ => rfl)) (fun _ _ => rfl)) set_list))
 (pss_one (ps_ret (pe_ix ix_list (va 3) (pe_dget (hu_of hr) (va 0) pe_str (fun _ _ => rfl)) (fun _ _ => rfl)))))) pss_nil)
 (pss_cons (s_if (t_cmp o_eq (va 1) pe_int (nomark _)) (pss_one (ps_ret (e_if (t_isN (pe_ix ix_list (va 4) (pe_dget (hu_of hr) (va 0) pe_str (fun _ _ => rfl)) (fun _ _ => rfl))) (pe_tup (pa_cons pe_str (pa_cons pe_str pa_nil))) (pe_ix ix_list (va 4) (pe_dget (hu_of hr) (va 0) pe_str (fun _ _ => rfl)) (fun _ _ => rfl))))) pss_nil)
 (pss_cons (s_if (PW.pt (w_or (t_cmp o_lt (va 2) pe_int (nomark _)) (pw_or1 (t_cmp o_ge (va 2) (pe_callB call_len_seq (by rfl) (T.free 0) PySem.boot_len (pa_cons (va 3) pa_nil)) (nomark _))))) (pss_one (ps_ret (pe_tup (pa_cons pe_str (pa_cons pe_str pa_nil))))) pss_nil)
 (pss_cons (ps_set (i := 5) sc_Ldue.nd rfl (Or.inl rfl) (va 2))
 (pss_cons (ps_for (passes_of rfl) rfl (pi_range1 rfl (T.free 14) (pa_cons (pe_callB call_len_seq (by rfl) (T.free 0) PySem.boot_len (pa_cons (va 3) pa_nil)) pa_nil)) (pg_name (i := 6) sc_Ldue.nd rfl (Or.inl rfl))
 (pss_one (s_if (t_notN (pe_ix ix_list (va 3) (va 5) (fun _ _ => rfl))) (pss_cons (ps_asg (va 5) (pg_sub (va 4) (pe_ix ix_list (va 3) (va 5) (fun _ _ => rfl)) set_list))
 (pss_one (ps_set (i := 5) sc_Ldue.nd rfl (Or.inl rfl) (pe_ix ix_list (va 3) (va 5) (fun _ _ => rfl))))) pss_nil)))
 (pss_one (ps_ret (va 2)))))))))))
theorem ok_Ltold (T : Fx fa fn K mg) (D_Versions_make : Def P w K mg base 1 (He.ma K (He.ga K "Versions") "make") ["self", "state"] (sp_make K)) (D_Versions_undo : Def P w K mg base 1 (He.ma K (He.ga K "Versions") "undo") ["self"] (sp_undo K)) (D_Versions_redo : Def P w K mg base 1 (He.ma K (He.ga K "Versions") "redo") ["self"] (sp_redo K)) (D_Versions_go : Def P w K mg base 2 (He.ma K (He.ga K "Versions") "go") ["self", "version"] (sp_go K)) : Def P w K mg base 3 (He.ga K "_law_told") ["_law_versions", "_law_kind", "_law_number", "_law_state"] (sp_told K) := by
  obtain ⟨fd, F⟩ := T.c.def_ 14 (d := df_Ltold) rfl
  refine Def.of (k := 2) (N := N_Ltold) F sc_Ltold (fun _ _ _ _ _ _ us hl => match us, hl with | [_, _, _, _], _ => rfl) (fun vs H Q E h => by unfold sp_told at h; split at h <;> first | rfl | exact h.elim) (fun cdv A outer s H vs Q E hr h => ⟨_, ?_, r_told (ek T) h⟩)
  exact (pss_one (ps_try_many (tb := fun W => (tSeq (uIfS (tBo (tOp fEq (tV 1) (tC (.int 0)))) (tRet (uMeth (He.ga K "Versions") "make" (sp_make K) (fun _ => E0) (tV 0) (tCons (tV 3) tNil))) tNext)
 (tSeq (uIfS (tBo (tOp fEq (tV 1) (tC (.int 1)))) (tRet (uMeth (He.ga K "Versions") "undo" (sp_undo K) (WE W) (tV 0) tNil)) tNext)
 (tSeq (uIfS (tBo (tOp fEq (tV 1) (tC (.int 2)))) (tRet (uMeth (He.ga K "Versions") "redo" (sp_redo K) (WE W) (tV 0) tNil)) tNext)
 (tRet (uMeth (He.ga K "Versions") "go" (sp_go K) (WE W) (tV 0) (tCons (tV 2) tNil))))))) rfl rfl takes0 (fun W pn xe tk po => (pss_cons (s_if (t_cmp o_eq (va 1) pe_int (nomark _)) (pss_one (ps_ret (e_meth (va 0) (T.cls 3) (T.meth 19) D_Versions_make (hr.mono (by decide)) (fun _ => pass_none (fun _ _ _ _ h => h)) (pa_cons (va 3) pa_nil)))) pss_nil)
 (pss_cons (s_if (t_cmp o_eq (va 1) pe_int (nomark _)) (pss_one (ps_ret (e_meth0 (va 0) (T.cls 3) (T.meth 20) D_Versions_undo (hr.mono (by decide)) (fun σ => passAt tk σ)))) pss_nil)
 (pss_cons (s_if (t_cmp o_eq (va 1) pe_int (nomark _)) (pss_one (ps_ret (e_meth0 (va 0) (T.cls 3) (T.meth 21) D_Versions_redo (hr.mono (by decide)) (fun σ => passAt tk σ)))) pss_nil)
 (pss_one (ps_ret (e_meth (va 0) (T.cls 3) (T.meth 22) D_Versions_go (hr.mono (by decide)) (fun σ => passAt tk σ) (pa_cons (va 2) pa_nil)))))))) (.cons ⟨rfl, by decide, .inl (T.glo 7)⟩ (fun a oe cls d pn _ _ => (pss_one (ps_ret (pe_tup (pa_cons pe_str (pa_cons pe_str pa_nil)))))) (.cons ⟨rfl, by decide, .inl (T.glo 9)⟩ (fun a oe cls d pn _ _ => (pss_one (ps_ret (pe_tup (pa_cons pe_str (pa_cons pe_str pa_nil)))))) (.cons ⟨rfl, by decide, .inl (T.glo 2)⟩ (fun a oe cls d pn _ _ => (pss_one (ps_ret (pe_tup (pa_cons pe_str (pa_cons pe_str pa_nil)))))) .nil)))))
theorem ok_Lseen (T : Fx fa fn K mg) (D_Lsame : Def P w K mg base 2 (He.ga K "_law_same") ["_law_actual", "_law_due_here"] (sp_same K 2)) (D_Versions_state : Def P w K mg base 1 (He.ma K (He.ga K "Versions") "state") ["self"] (sp_state K)) (D_Versions_made_from : Def P w K mg base 1 (He.ma K (He.ga K "Versions") "made_from") ["self"] (sp_made K)) (D_Versions_remembered : Def P w K mg base 1 (He.ma K (He.ga K "Versions") "remembered") ["self"] (sp_rem K)) : Def P w K mg base 3 (He.ga K "_law_seen") ["_law_versions", "_law_box"] (sp_seen K) := by
  obtain ⟨fd, F⟩ := T.c.def_ 15 (d := df_Lseen) rfl
  refine Def.of (k := 2) (N := N_Lseen) F sc_Lseen (fun _ _ _ _ _ _ us hl => match us, hl with | [_, _], _ => rfl) (fun vs H Q E h => by unfold sp_seen at h; split at h <;> first | rfl | exact h.elim) (fun cdv A outer s H vs Q E hr h => ⟨_, ?_, r_seen (ck T) h⟩)
  exact (pss_cons (s_if (PW.pt (w_or (pt_not (t_val (e_call D_Lsame (hr.mono (by decide)) rfl (T.glo 15) passL (pa_cons (pe_fld (va 0) rfl) (pa_cons (pe_dget (hu_of hr) (va 1) pe_str (fun _ _ => rfl)) pa_nil))))) (pw_or1 (pt_not (t_val (e_call D_Lsame (hr.mono (by decide)) rfl (T.glo 15) passL (pa_cons (e_meth0 (va 0) (T.cls 3) (T.meth 23) D_Versions_state (hr.mono (by decide)) (fun _ => pass_none (fun _ _ _ _ h => h))) (pa_cons (pe_ix ix_list (pe_dget (hu_of hr) (va 1) pe_str (fun _ _ => rfl)) (pe_dget (hu_of hr) (va 1) pe_str (fun _ _ => rfl)) (fun _ _ => rfl)) pa_nil)))))))) (pss_one (ps_ret pe_bl)) pss_nil)
 (pss_cons (s_if (pt_not (t_val (e_call D_Lsame (hr.mono (by decide)) rfl (T.glo 15) passL (pa_cons (e_meth0 (va 0) (T.cls 3) (T.meth 24) D_Versions_made_from (hr.mono (by decide)) (fun _ => pass_none (fun _ _ _ _ h => h))) (pa_cons (pe_callTy call_tuple_of (by rfl) (T.free 5) (by decide +kernel) (pa_cons (pe_dget (hu_of hr) (va 1) pe_str (fun _ _ => rfl)) pa_nil)) pa_nil))))) (pss_one (ps_ret pe_bl)) pss_nil)
 (pss_one (ps_ret (e_call D_Lsame (hr.mono (by decide)) rfl (T.glo 15) passL (pa_cons (e_meth0 (va 0) (T.cls 3) (T.meth 25) D_Versions_remembered (hr.mono (by decide)) (fun _ => pass_none (fun _ _ _ _ h => h))) (pa_cons (pe_ix ix_list (pe_dget (hu_of hr) (va 1) pe_str (fun _ _ => rfl)) (pe_dget (hu_of hr) (va 1) pe_str (fun _ _ => rfl)) (fun _ _ => rfl)) pa_nil)))))))
theorem ok_Lno_state (T : Fx fa fn K mg) (D_Versions_state_of : Def P w K mg base 2 (He.ma K (He.ga K "Versions") "state_of") ["self", "version"] (sp_state_of K)) : Def P w K mg base 3 (He.ga K "_law_no_state") ["_law_versions", "_law_number"] (sp_nost K) := by
  obtain ⟨fd, F⟩ := T.c.def_ 16 (d := df_Lno_state) rfl
  refine Def.of (k := 2) (N := N_Lno_state) F sc_Lno_state (fun _ _ _ _ _ _ us hl => match us, hl with | [_, _], _ => rfl) (fun vs H Q E h => by unfold sp_nost at h; split at h <;> first | rfl | exact h.elim) (fun cdv A outer s H vs Q E hr h => ⟨_, ?_, r_nost (ek T) h⟩)
  exact (pss_cons (ps_try_only (tb := fun W => (tDrop (uMeth (He.ga K "Versions") "state_of" (sp_state_of K) (WE W) (tV 0) (tCons (tV 1) tNil)))) (ts := fun _ _ _ => (tRet (tC (.bl true)))) (Wout := (fun _ _ _ _ => False)) rfl rfl ⟨rfl, by decide, .inl (T.glo 2)⟩ takes0 (fun W pn xe tk po => (pss_one (ps_expr (e_meth (va 0) (T.cls 3) (T.meth 26) D_Versions_state_of (hr.mono (by decide)) (fun σ => passAt tk σ) (pa_cons (va 1) pa_nil))))) (fun a oe cls d pn _ _ => (pss_one (ps_ret pe_bl))))
 (pss_one (ps_ret pe_bl)))
theorem ok_law (T : Fx fa fn K mg) (D_Lpool : Def P w K mg base 1 (He.ga K "_law_pool") ["_law_script"] (sp_pool K)) (D_Ltake : Def P w K mg base 2 (He.ga K "_law_take") ["_law_pool_here", "_law_many"] (sp_take 2)) (D_Versions_init : Def P w K mg base 1 (He.ma K (He.ga K "Versions") "__init__") ["self", "state"] (sp_init K)) (D_Ldue : Def P w K mg base 1 (He.ga K "_law_due") ["_law_box", "_law_kind", "_law_number"] sp_due) (D_Ltold : Def P w K mg base 3 (He.ga K "_law_told") ["_law_versions", "_law_kind", "_law_number", "_law_state"] (sp_told K)) (D_Lsame : Def P w K mg base 2 (He.ga K "_law_same") ["_law_actual", "_law_due_here"] (sp_same K 2)) (D_Lseen : Def P w K mg base 3 (He.ga K "_law_seen") ["_law_versions", "_law_box"] (sp_seen K)) (D_Versions_state_of : Def P w K mg base 2 (He.ma K (He.ga K "Versions") "state_of") ["self", "version"] (sp_state_of K)) (D_Lno_state : Def P w K mg base 3 (He.ga K "_law_no_state") ["_law_versions", "_law_number"] (sp_nost K)) {fd : FuncData} (F : FunD K "law" "law" (defArgs s_law) (defBody s_law) (defScope s_law) [] [] (He.ga K "law") fd) : FnOk P w K mg base (L2.CX P w) 4 (He.ga K "law") fd ["_law_script"] (sp_law K) := by
  refine fn_by (k := 3) (N := N_law) F sc_law (fun vs H Q E h => by unfold sp_law at h; split at h <;> first | rfl | exact h.elim) (fun cdv A outer s H vs Q E hr h => ⟨_, ?_, r_law (ck T) h⟩)
  exact (pss_cons (ps_set (i := 1) sc_law.nd rfl (Or.inl rfl) (e_call D_Lpool (hr.mono (by decide)) rfl (T.glo 27) passL (pa_cons (va 0) pa_nil)))
 (pss_cons (ps_set (i := 2) sc_law.nd rfl (Or.inl rfl) (pe_lst (pa_cons (e_call D_Ltake (hr.mono (by decide)) rfl (T.glo 11) passL (pa_cons (va 1) (pa_cons pe_int pa_nil))) pa_nil)))
 (pss_cons (ps_set (i := 3) sc_law.nd rfl (Or.inl rfl) (pe_disp (pps_cons pe_str pe_int (pps_cons pe_str (pe_lst (pa_cons pe_non pa_nil)) (pps_cons pe_str (pe_lst (pa_cons pe_non pa_nil)) (pps_cons pe_str (va 2) pps_nil)))) (by rfl) (by rfl) (fun z => by cases z) (by decide)))
 (pss_cons (ps_set (i := 4) sc_law.nd rfl (Or.inl rfl) (e_make (T.mkr 28) D_Versions_init (hr.mono (by decide)) rfl (T.glo 29) passL (pa_cons (pe_ix ix_list (va 2) pe_int (fun _ _ => rfl)) pa_nil)))
 (pss_cons (ps_for (passes_of rfl) rfl (pi_range1 rfl (T.free 14) (pa_cons (e_call D_Ltake (hr.mono (by decide)) rfl (T.glo 11) passL (pa_cons (va 1) (pa_cons pe_int pa_nil))) pa_nil)) (pg_name (i := 5) sc_law.nd rfl (Or.inl rfl))
 (pss_cons (ps_set (i := 6) sc_law.nd rfl (Or.inl rfl) (pe_op o_mod (e_call D_Ltake (hr.mono (by decide)) rfl (T.glo 11) passL (pa_cons (va 1) (pa_cons pe_int pa_nil))) pe_int))
 (pss_cons (ps_set (i := 7) sc_law.nd rfl (Or.inl rfl) (pe_op o_sub (e_call D_Ltake (hr.mono (by decide)) rfl (T.glo 11) passL (pa_cons (va 1) (pa_cons (pe_op o_add (pe_callB call_len_seq (by rfl) (T.free 0) PySem.boot_len (pa_cons (va 2) pa_nil)) pe_int) pa_nil))) pe_int))
 (pss_cons (ps_set (i := 8) sc_law.nd rfl (Or.inl rfl) (pe_op o_mul (e_call D_Ltake (hr.mono (by decide)) rfl (T.glo 11) passL (pa_cons (va 1) (pa_cons pe_int pa_nil))) (pe_ix ix_tup (pe_tup (pa_cons pe_int (pa_cons (pe_op o_pow pe_int pe_int) pa_nil))) (e_call D_Ltake (hr.mono (by decide)) rfl (T.glo 11) passL (pa_cons (va 1) (pa_cons pe_int pa_nil))) (fun _ _ => rfl))))
 (pss_cons (ps_set (i := 9) sc_law.nd rfl (Or.inl rfl) (e_call D_Ldue (hr.mono (by decide)) rfl (T.glo 30) passL (pa_cons (va 3) (pa_cons (va 6) (pa_cons (va 7) pa_nil)))))
 (pss_cons (s_if (pt_not (t_val (e_call D_Lsame (hr.mono (by decide)) rfl (T.glo 15) passL (pa_cons (e_call D_Ltold (hr.mono (by decide)) rfl (T.glo 31) passL (pa_cons (va 4) (pa_cons (va 6) (pa_cons (va 7) (pa_cons (va 8) pa_nil))))) (pa_cons (va 9) pa_nil))))) (pss_one (ps_ret pe_bl)) pss_nil)
 (pss_cons (s_if (pt_not (t_val (pe_callB c_isi (by rfl) (T.free 12) (by decide +kernel) (pa_cons (va 9) (pa_cons (pe_bltn (by rfl) (T.free 5) (by decide +kernel) rfl) pa_nil))))) (pss_one (ps_dput (hu_of hr) (va 3) pe_str (va 9) rfl)) pss_nil)
 (pss_cons (s_if (t_cmp o_eq (va 6) pe_int (nomark _)) (pss_one (ps_expr (pe_bm PySem.F.plainAttrs_list PySem.F.slot_list_append PySem.F.type_list_append mt_append (va 2) (pa_cons (va 8) pa_nil)))) pss_nil)
 (pss_one (s_if (pt_not (t_val (e_call D_Lseen (hr.mono (by decide)) rfl (T.glo 32) passL (pa_cons (va 4) (pa_cons (va 3) pa_nil))))) (pss_one (ps_ret pe_bl)) pss_nil))))))))))
 (pss_cons (ps_for (passes_of rfl) rfl (pi_range1 rfl (T.free 14) (pa_cons (pe_callB call_len_seq (by rfl) (T.free 0) PySem.boot_len (pa_cons (va 2) pa_nil)) pa_nil)) (pg_name (i := 10) sc_law.nd rfl (Or.inl rfl))
 (pss_one (s_if (pt_not (t_val (e_call D_Lsame (hr.mono (by decide)) rfl (T.glo 15) passL (pa_cons (e_meth (va 4) (T.cls 3) (T.meth 26) D_Versions_state_of (hr.mono (by decide)) (fun _ => pass_none (fun _ _ _ _ h => h)) (pa_cons (va 10) pa_nil)) (pa_cons (pe_ix ix_list (va 2) (va 10) (fun _ _ => rfl)) pa_nil))))) (pss_one (ps_ret pe_bl)) pss_nil)))
 (pss_one (ps_ret (e_and (e_call D_Lno_state (hr.mono (by decide)) rfl (T.glo 33) passL (pa_cons (va 4) (pa_cons (pe_callB call_len_seq (by rfl) (T.free 0) PySem.boot_len (pa_cons (va 2) pa_nil)) pa_nil))) (pe_one (e_call D_Lno_state (hr.mono (by decide)) rfl (T.glo 33) passL (pa_cons (va 4) (pa_cons (pe_un u_neg pe_int) pa_nil)))))))))))))
theorem facts {h : Heap} {f : Addr} (X : K.In h) (G : h.Ns mainGlobals mg) (hfa : mg ("law" : Str) = some (.ref f)) (c : He.SaysD fa fn K) :
    ∃ fd : FuncData, (∀ (s : Shared) (v : Value), BindsTo s fd ⟨[v], []⟩ [("_law_script", v)]) ∧ ∀ base : Heap, K.In base → base.Ns mainGlobals mg → FnOk P w K mg base CX0 4 f fd ["_law_script"] (sp_law K) := by
  have T : Fx fa fn K mg := ⟨⟨h, X, G⟩, c⟩
  obtain ⟨fd, F⟩ := c.def_ 17 (d := df_law) rfl
  have e := hfa.symm.trans (T.glo 44)
  cases e
  have b := FunD.bindsA (ps := ["_law_script"]) F fun _ _ _ _ _ _ us hl => match us, hl with | [_], _ => rfl
  refine ⟨fd, fun s v => b s [v] rfl, fun base _ _ => ?_⟩
  have D_Versions_init : Def P w K mg base 1 (He.ma K (He.ga K "Versions") "__init__") ["self", "state"] (sp_init K) := ok_Versions_init T
  have D_Versions_check : Def P w K mg base 1 (He.ma K (He.ga K "Versions") "_check") ["self", "version"] (sp_check K) := ok_Versions_check T
  have D_Versions_state : Def P w K mg base 1 (He.ma K (He.ga K "Versions") "state") ["self"] (sp_state K) := ok_Versions_state T
  have D_Versions_state_of : Def P w K mg base 2 (He.ma K (He.ga K "Versions") "state_of") ["self", "version"] (sp_state_of K) := ok_Versions_state_of T D_Versions_check
  have D_Versions_made_from : Def P w K mg base 1 (He.ma K (He.ga K "Versions") "made_from") ["self"] (sp_made K) := ok_Versions_made_from T
  have D_Versions_remembered : Def P w K mg base 1 (He.ma K (He.ga K "Versions") "remembered") ["self"] (sp_rem K) := ok_Versions_remembered T
  have D_Versions_make : Def P w K mg base 1 (He.ma K (He.ga K "Versions") "make") ["self", "state"] (sp_make K) := ok_Versions_make T
  have D_Versions_undo : Def P w K mg base 1 (He.ma K (He.ga K "Versions") "undo") ["self"] (sp_undo K) := ok_Versions_undo T
  have D_Versions_redo : Def P w K mg base 1 (He.ma K (He.ga K "Versions") "redo") ["self"] (sp_redo K) := ok_Versions_redo T
  have D_Versions_go : Def P w K mg base 2 (He.ma K (He.ga K "Versions") "go") ["self", "version"] (sp_go K) := ok_Versions_go T D_Versions_check
  have D_Lpool : Def P w K mg base 1 (He.ga K "_law_pool") ["_law_script"] (sp_pool K) := ok_Lpool T
  have D_Ltake : Def P w K mg base 2 (He.ga K "_law_take") ["_law_pool_here", "_law_many"] (sp_take 2) := ok_Ltake 1 T (ok_Ltake 0 T ((no_Ltake T).imp fun vs H Q E h => by unfold sp_take at h; split at h; exact absurd h.1 (by decide); exact h))
  have D_Lsame : Def P w K mg base 2 (He.ga K "_law_same") ["_law_actual", "_law_due_here"] (sp_same K 2) := ok_Lsame 1 T (ok_Lsame 0 T ((no_Lsame T).imp fun vs H Q E h => by unfold sp_same at h; split at h; obtain ⟨d, m, e, _⟩ := h; omega; exact h))
  have D_Ldue : Def P w K mg base 1 (He.ga K "_law_due") ["_law_box", "_law_kind", "_law_number"] sp_due := ok_Ldue T
  have D_Ltold : Def P w K mg base 3 (He.ga K "_law_told") ["_law_versions", "_law_kind", "_law_number", "_law_state"] (sp_told K) := ok_Ltold T D_Versions_make D_Versions_undo D_Versions_redo D_Versions_go
  have D_Lseen : Def P w K mg base 3 (He.ga K "_law_seen") ["_law_versions", "_law_box"] (sp_seen K) := ok_Lseen T D_Lsame D_Versions_state D_Versions_made_from D_Versions_remembered
  have D_Lno_state : Def P w K mg base 3 (He.ga K "_law_no_state") ["_law_versions", "_law_number"] (sp_nost K) := ok_Lno_state T D_Versions_state_of
  exact fn_to0 (ok_law T D_Lpool D_Ltake D_Versions_init D_Ldue D_Ltold D_Lsame D_Lseen D_Versions_state_of D_Lno_state F) (fun _ _ _ _ h => h)
end
abbrev R : PySem.W.OpenRow := PySem.W.OpenLaw.row PySem.Challenge.rw_tongues_k72_versions
abbrev hk : PySem.W.Hook := He.hookD 5 fa fn
def ob (s : PySem.W.SharedT) : He.AlD := He.obsDG 5 fa fn (HandSHeadRun.getT s)
theorem ob_eq (s : PySem.W.SharedT) : ob s = hk.obs s.abs := He.obsDG_eq (HandSHeadRun.getT_eq s)
def loose : List Str := ["TongueError", "NothingToUndo", "NothingToRedo", "NoVersion", "Versions", "_law_pool", "_law_take", "_law_same", "_law_due", "_law_told", "_law_seen", "_law_no_state"]
theorem run (w : World) : HandSHeadRun.RunEq R (PySem.W.view R.prog [15]) hk ob 3000 loose w := by
  intro os
  kernel_rfl
end Co.Vs
open PySem PySem.W PySem.Calls PyProof.Rows
set_option maxRecDepth 100000 in
set_option maxHeartbeats 0 in
theorem PySem.Challenge.cw_tongues_k72_versions_holds : PySem.Challenge.rw_tongues_k72_versions.Holds := by
  w_on; o_law
  refine HandSHeadRun.head_any (r := OpenLaw.row PySem.Challenge.rw_tongues_k72_versions) (q := view (OpenLaw.row PySem.Challenge.rw_tongues_k72_versions).prog [15]) (H := Co.Vs.hk) (ob := Co.Vs.ob) (M := 3000) (loose := Co.Vs.loose) (d := HandSHeadRun.topDef (OpenLaw.row PySem.Challenge.rw_tongues_k72_versions).prog 15) (kwd := []) Co.Vs.ob_eq
    (by kernel_rfl) (fun s => by kernel_rfl) Co.Vs.run (by kernel_rfl) (by kernel_rfl) (by kernel_rfl) (by rfl) (by first | assumption | decide +kernel) (by decide +kernel) ⟨rfl, rfl, rfl, rfl, rfl, by decide +kernel⟩ ?hw ?hc
  case hw => w_witness2
  case hc =>
    refine L2.walk_ofE (l := PySem.Challenge.rw_tongues_k72_versions) (n := 63) (k := 4) (x := "_law_script") (CX := L2.CX0) rfl (by decide) (by kernel_rfl) ⟨rfl, by decide, by decide⟩ ?F (fun _ _ _ _ z => z)
    intro w mg fa h Y G hmg0
    obtain ⟨K, KX, c⟩ := Y
    have hmg : mg ("law" : PySem.Str) = some (.ref fa) := by
      have e : (HandSHeadRun.topDef (OpenLaw.row PySem.Challenge.rw_tongues_k72_versions).prog 15).name = ("law" : PySem.Str) := by kernel_rfl
      rw [← e]
      exact hmg0
    obtain ⟨fd, hb, hF⟩ := Co.Vs.facts (P := (PySem.Challenge.rw_tongues_k72_versions).prog) (w := w) KX G hmg c
    exact ⟨K, fd, (Co.Vs.sp_law K), KX, hb, fun H a ns hl _ hS => ⟨ns, hS, hl, fun _ => rfl⟩, hF⟩
end
