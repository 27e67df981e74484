import PyProof.Rows.All
import Wide.All
import OpenK.AllK
import Wide.FinOn
import PyProof.EqAt
import PyProof.EqKinds
import PyProof.TupleCall
import HandS.ForMost
import HandS.ForExc
import HandS.TryMany
import HandS.IsInst
import HandS.Flow
import HandS.Small
import HandS.CallSlots
import HandS.ExcIs
import HandS.Defaults
import HandS.Head0
import HandS.Head1
import HandS.Head2
import HandS.HeadEnd
import HandS.HeadHook1
import HandS.HeadHook2
import Lean
import HandS.StrMore
import HandS.DictComp
import HandS.Conv
import KE.GoesEnum
import KE.GoesMore
import PySem.Challenge.RW_tongues_k05_whole_rows_of_changes
set_option Elab.async false
set_option linter.all false
set_option maxRecDepth 100000
section
set_option maxHeartbeats 4000000
namespace Co
open PySem PySem.Spec PyProof.Rows L2
section
variable {X : Cx} {a b : Expr} {ta tb : TE} {pos : Pos}
theorem PE.imp {e : Expr} {t t' : TE} (h : PE X e t) (i : ∀ σ H Q, t' σ H Q → t σ H Q) : PE X e t' := ⟨fun pins s σ H Q I q => h.run pins s σ H Q I (i σ H Q q)⟩
theorem PT.imp {e : Expr} {t t' : TT} (h : PT X e t) (i : ∀ σ H Q, t' σ H Q → t σ H Q) : PT X e t' := ⟨fun pins s σ H Q I q => h.run pins s σ H Q I (i σ H Q q)⟩
theorem PW.imp {e : Expr} {t t' : TT} (h : PW X e t) (i : ∀ σ H Q, t' σ H Q → t σ H Q) : PW X e t' := ⟨fun wh pins s σ H Q I q => h.run wh pins s σ H Q I (i σ H Q q)⟩
theorem PS.imp {st : Stmt} {t t' : TS} (h : PS X st t) (i : ∀ D σ H, t' D σ H → t D σ H) : PS X st t' := ⟨fun pins s σ H D I q => h.run pins s σ H D I (i D σ H q)⟩
def tV (i : Nat) : TE := fun σ H Q => match σ[i]? with
  | some (some v) => Q v H
  | _ => False
theorem v_of {i : Nat} {σ : L2.St} {H : Hp} {Q : VK} (h : tV i σ H Q) : tVar i σ H Q := by
  unfold tV at h
  split at h
  · exact ⟨_, by assumption, h⟩
  · exact h.elim
theorem va (i : Nat) {x : Str} {pos : Pos} (hN : X.N[i]? = some x := by rfl) (hv : Vis X.env.scope x := by first | exact Or.inl rfl | exact Or.inr (Or.inl rfl) | exact Or.inr (Or.inr rfl)) (hd : (x == ("__debug__" : Str)) = false := by decide)
    (hcd : (x == ("__classdict__" : Str)) = false := by decide) : PE X (.Name x pos) (tV i) := PE.imp (pe_var hN hv hd hcd) fun _ _ _ => v_of
theorem OpR.imp {f : Value → Value → Sem Value} {r r' : R2} (h : OpR X f r) (i : ∀ x y H Q, r' x y H Q → r x y H Q) : OpR X f r' := fun pins s σ H x y v u Q I rx ry q => h pins s σ H x y v u Q I rx ry (i _ _ _ _ q)
theorem CallR.imp {f : Value} {r r' : List V → Hp → VK → Prop} (h : CallR X f r) (i : ∀ xs H Q, r' xs H Q → r xs H Q) : CallR X f r' := fun pins s σ H xs us Q I rx q => h pins s σ H xs us Q I rx (i _ _ _ q)
def fII (g : Int → Int → V) : R2 := fun x y H Q => match x, y with
  | .int i, .int j => Q (g i j) H
  | _, _ => False
theorem fII_of {g : Int → Int → V} {x y : V} {H : Hp} {Q : VK} (h : fII g x y H Q) : rI0 g x y H Q := by
  unfold fII at h
  split at h
  · exact ⟨_, _, rfl, rfl, h⟩
  · exact h.elim
def fIC (C : Int → Int → Prop) (g : Int → Int → V) : R2 := fun x y H Q => match x, y with
  | .int i, .int j => C i j ∧ Q (g i j) H
  | _, _ => False
theorem fIC_of {C : Int → Int → Prop} {g : Int → Int → V} {x y : V} {H : Hp} {Q : VK} (h : fIC C g x y H Q) : rI C g x y H Q := by
  unfold fIC at h
  split at h
  · exact ⟨_, _, rfl, rfl, h.1, h.2⟩
  · exact h.elim
def fAdd : R2 := fII fun i j => .int (i + j)
def fSub : R2 := fII fun i j => .int (i - j)
def fMul : R2 := fIC CMul fun i j => .int (i * j)
def fMod : R2 := fIC (fun _ j => 0 < j) fun i j => .int (i % j)
def fDiv : R2 := fIC CDiv fun i j => .int (i / j)
def fPow : R2 := fIC CPow fun i j => .int (i ^ j.toNat)
theorem o_add : OpR X (binaryOp .Add) fAdd := OpR.imp op_add fun _ _ _ _ => fII_of
theorem o_sub : OpR X (binaryOp .Sub) fSub := OpR.imp op_sub fun _ _ _ _ => fII_of
theorem o_mul : OpR X (binaryOp .Mult) fMul := OpR.imp op_mul fun _ _ _ _ => fIC_of
theorem o_mod : OpR X (binaryOp .Mod) fMod := OpR.imp op_mod fun _ _ _ _ => fIC_of
theorem o_div : OpR X (binaryOp .FloorDiv) fDiv := OpR.imp op_fdiv fun _ _ _ _ => fIC_of
theorem o_pow : OpR X (binaryOp .Pow) fPow := OpR.imp op_pow fun _ _ _ _ => fIC_of
def fLt : R2 := fII fun i j => .bl (decide (i < j))
def fLe : R2 := fII fun i j => .bl (decide (i ≤ j))
def fGt : R2 := fII fun i j => .bl (decide (j < i))
def fGe : R2 := fII fun i j => .bl (decide (j ≤ i))
theorem o_lt : OpR X (compareOp .Lt) fLt := OpR.imp op_lt fun _ _ _ _ => fII_of
theorem o_le : OpR X (compareOp .LtE) fLe := OpR.imp op_le fun _ _ _ _ => fII_of
theorem o_gt : OpR X (compareOp .Gt) fGt := OpR.imp op_gt fun _ _ _ _ => fII_of
theorem o_ge : OpR X (compareOp .GtE) fGe := OpR.imp op_ge fun _ _ _ _ => fII_of
def fAddS : R2 := fun x y H Q => match x, y with
  | .str i, .str j => i.length + j.length ≤ sizeLine ∧ Q (.str (i ++ j)) H
  | _, _ => False
theorem o_addS : OpR X (binaryOp .Add) fAddS := OpR.imp op_add_str fun x y H Q h => by
  unfold fAddS at h
  split at h
  · exact ⟨_, _, rfl, rfl, h.1, h.2⟩
  · exact h.elim
def eqS : V → V → Option Bool
  | .non, .non => some true | .non, .int _ => some false | .int _, .non => some false | .non, .bl _ => some false | .bl _, .non => some false | .non, .str _ => some false | .str _, .non => some false
  | .int i, .int j => some (decide (i = j)) | .bl i, .bl j => some (decide (i = j)) | .str i, .str j => some (decide (i = j))
  | .int _, .str _ => some false | .str _, .int _ => some false | .bl _, .str _ => some false | .str _, .bl _ => some false
  | _, _ => none
theorem eqS_of {x y : V} {b : Bool} (h : eqS x y = some b) : scal x y = true ∧ decide (x = y) = b := by
  cases x <;> cases y <;> simp only [eqS, Option.some.injEq, reduceCtorEq] at h <;> subst h <;> simp [scal]
def fEq : R2 := fun x y H Q => match eqS x y with
  | some b => Q (.bl b) H
  | none => False
def fNe : R2 := fun x y H Q => match eqS x y with
  | some b => Q (.bl (!b)) H
  | none => False
theorem o_eq : OpR X (compareOp .Eq) fEq := OpR.imp op_eq fun x y H Q h => by
  unfold fEq at h
  split at h
  · rename_i b e
    obtain ⟨h1, h2⟩ := eqS_of e
    exact ⟨h1, by rw [h2]; exact h⟩
  · exact h.elim
theorem o_ne : OpR X (compareOp .NotEq) fNe := OpR.imp op_ne fun x y H Q h => by
  unfold fNe at h
  split at h
  · rename_i b e
    obtain ⟨h1, h2⟩ := eqS_of e
    exact ⟨h1, by rw [h2]; exact h⟩
  · exact h.elim
def fNeg : V → Hp → VK → Prop := fun x H Q => match x with
  | .int i => Q (.int (-i)) H
  | _ => False
theorem u_neg : UnR X (unaryOp .USub) fNeg := fun pins s σ H x v Q I r h => by
  unfold fNeg at h
  split at h
  · exact un_neg pins s σ H _ v Q I r ⟨_, rfl, h⟩
  · exact h.elim
def fIsN : V → V := fun x => match x with
  | .non => .bl true
  | _ => .bl false
theorem fIsN_eq (x : V) : fIsN x = .bl (decide (x = .non)) := by cases x <;> simp [fIsN]
def tIs (ta : TE) : TE := fun σ H Q => ta σ H fun x H1 => Q (fIsN x) H1
def fNotN : V → V := fun x => match x with
  | .non => .bl false
  | _ => .bl true
theorem fNotN_eq (x : V) : fNotN x = .bl (!decide (x = .non)) := by cases x <;> simp [fNotN]
def tNt (ta : TE) : TE := fun σ H Q => ta σ H fun x H1 => Q (fNotN x) H1
theorem e_isN {j pos' pos} (ha : PE X a ta) : PE X (.Compare a [.Is] [.Constant .none j pos'] pos) (tIs ta) := PE.imp (pe_cmp (pc_isN ha)) fun σ H Q h => by
  unfold tIs at h
  simp only [fIsN_eq] at h
  exact h
theorem e_notN {j pos' pos} (ha : PE X a ta) : PE X (.Compare a [.IsNot] [.Constant .none j pos'] pos) (tNt ta) := PE.imp (pe_cmp (pc_notN ha)) fun σ H Q h => by
  unfold tNt at h
  simp only [fNotN_eq] at h
  exact h
def tBo (t : TE) : TT := fun σ H Q => t σ H fun x H1 => match x with
  | .bl c => Q c H1
  | _ => False
theorem bl_fun {Q : Bool → Hp → Prop} : (fun (x : V) (H1 : Hp) => ∃ c, x = .bl c ∧ Q c H1) = fun x H1 => match x with
  | .bl c => Q c H1
  | _ => False := by
  funext x H1
  cases x <;> simp
theorem t_val {e : Expr} {t : TE} (h : PE X e t) (he : ∀ whole, isTrue e X.env whole = (do let v ← whole; standAt e.pos; holding [v] (truthy v)) := by intro _; rfl) : PT X e (tBo t) := PT.imp (pt_val h he) fun σ H Q h => by
  unfold tB
  rw [bl_fun]
  exact h
theorem t_cmp {op : CmpOp} {r : R2} (ho : OpR X (compareOp op) r) (ha : PE X a ta) (hb : PE X b tb) (hm : behindInMarks op b = false) : PT X (.Compare a [op] [b] pos) (tBo (tOp r ta tb)) := PT.imp (pt_cmpR ho ha hb hm) fun σ H Q h => by
  unfold tTest
  rw [bl_fun]
  exact h
def two (c : Bool) (p q : Prop) : Prop := (c = true → p) ∧ (c = false → q)
theorem two_eq {c : Bool} {p q : Prop} : (if c = true then p else q) = two c p q := by
  cases c <;> simp [two]
theorem twoT {p q : Prop} (h : p) : two true p q := ⟨fun _ => h, fun e => nomatch e⟩
theorem twoF {p q : Prop} (h : q) : two false p q := ⟨fun e => (nomatch e), fun _ => h⟩
theorem two_of {c : Bool} {p q : Prop} (h1 : c = true → p) (h2 : c = false → q) : two c p q := ⟨h1, h2⟩
def uAnd (t u : TT) : TT := fun σ H Q => t σ H fun c H1 => two c (u σ H1 Q) (Q false H1)
def uOr (t u : TT) : TT := fun σ H Q => t σ H fun c H1 => two c (Q true H1) (u σ H1 Q)
theorem w_and {tA tB' : TT} {rest : List Expr} (ha : PT X a tA) (hb : PW X (.BoolOp .And (b :: rest) pos) tB') : PW X (.BoolOp .And (a :: b :: rest) pos) (uAnd tA tB') := PW.imp (pw_and ha hb) fun σ H Q h => by
  unfold tAnd
  simp only [two_eq]
  exact h
theorem w_or {tA tB' : TT} {rest : List Expr} (ha : PT X a tA) (hb : PW X (.BoolOp .Or (b :: rest) pos) tB') : PW X (.BoolOp .Or (a :: b :: rest) pos) (uOr tA tB') := PW.imp (pw_or ha hb) fun σ H Q h => by
  unfold tOr
  simp only [two_eq]
  exact h
def bv (x : V) (k : Bool → Prop) : Prop := match x with
  | .bl c => k c
  | _ => False
theorem bv_eq {x : V} {k : Bool → Prop} : (∃ c, x = .bl c ∧ k c) = bv x k := by cases x <;> simp [bv]
def uAndV (ta tb : TE) : TE := fun σ H Q => ta σ H fun x H1 => bv x fun c => two c (tb σ H1 Q) (Q (.bl false) H1)
def uOrV (ta tb : TE) : TE := fun σ H Q => ta σ H fun x H1 => bv x fun c => two c (Q (.bl true) H1) (tb σ H1 Q)
def uNotV (ta : TE) : TE := fun σ H Q => ta σ H fun x H1 => bv x fun c => Q (.bl (!c)) H1
theorem e_and {rest : List Expr} (ha : PE X a ta) (hb : PE X (.BoolOp .And (b :: rest) pos) tb) : PE X (.BoolOp .And (a :: b :: rest) pos) (uAndV ta tb) := PE.imp (pe_and ha hb) fun σ H Q h => by
  unfold tAndV
  simp only [bv_eq, two_eq]
  exact h
theorem e_or {rest : List Expr} (ha : PE X a ta) (hb : PE X (.BoolOp .Or (b :: rest) pos) tb) : PE X (.BoolOp .Or (a :: b :: rest) pos) (uOrV ta tb) := PE.imp (pe_or ha hb) fun σ H Q h => by
  unfold tOrV
  simp only [bv_eq, two_eq]
  exact h
theorem e_not (ha : PE X a ta) : PE X (.UnaryOp .Not a pos) (uNotV ta) := PE.imp (pe_not ha) fun σ H Q h => by
  unfold tNotV
  simp only [bv_eq]
  exact h
def uIf (t : TT) (ta tb : TE) : TE := fun σ H Q => t σ H fun c H1 => two c (ta σ H1 Q) (tb σ H1 Q)
theorem e_if {c : Expr} {tA : TT} (hc : PT X c tA) (ha : PE X a ta) (hb : PE X b tb) : PE X (.IfExp c a b pos) (uIf tA ta tb) := PE.imp (pe_ifExp hc ha hb) fun σ H Q h => by
  unfold tIf
  simp only [two_eq]
  exact h
def uIfS (c : TT) (t u : TS) : TS := fun D σ H => c σ H fun b H1 => two b (t D σ H1) (u D σ H1)
theorem s_if {c : Expr} {p q : List Stmt} {tc : TT} {t u : TS} (hc : PT X c tc) (ha : PSs X p t) (hb : PSs X q u) : PS X (.If c p q pos) (uIfS tc t u) := PS.imp (ps_if hc ha hb) fun D σ H h => by
  unfold tIfS
  simp only [two_eq]
  exact h
def uChain (r r' : R2) (ta tb tc : TE) : TE := fun σ H Q => ta σ H fun x H1 => tb σ H1 fun y H2 => r x y H2 fun z H3 => bv z fun k => two k (tc σ H3 fun w' H4 => r' y w' H4 Q) (Q (.bl false) H3)
theorem e_chain {op op' : CmpOp} {r r' : R2} {c : Expr} {tc : TE} (ho : OpR X (compareOp op) r) (ho' : OpR X (compareOp op') r') (ha : PE X a ta) (hb : PE X b tb) (hc : PE X c tc)
    (hm : lastMarks [op, op'] [b, c] = false := by with_unfolding_all rfl) : PE X (.Compare a [op, op'] [b, c] pos) (uChain r r' ta tb tc) := PE.imp (pe_chain ho ho' ha hb hc hm) fun σ H Q h => by
  unfold tChain
  simp only [bv_eq, two_eq]
  exact h
theorem t_chain {op op' : CmpOp} {r r' : R2} {c : Expr} {tc : TE} (ho : OpR X (compareOp op) r) (ho' : OpR X (compareOp op') r') (ha : PE X a ta) (hb : PE X b tb) (hc : PE X c tc)
    (hm : lastMarks [op, op'] [b, c] = false := by with_unfolding_all rfl) : PT X (.Compare a [op, op'] [b, c] pos) (tBo (uChain r r' ta tb tc)) := PT.imp (pt_chain ho ho' ha hb hc hm) fun σ H Q h => by
  unfold tTest tChain
  simp only [bl_fun, bv_eq, two_eq]
  exact h
def cInt : List V → Hp → VK → Prop := fun xs H Q => match xs with
  | [.int i] => Q (.int i) H
  | [.bl k] => Q (.int (if k then 1 else 0)) H
  | _ => False
theorem c_int : CallR X (.type "int") cInt := CallR.imp call_int1 fun xs H Q h => by
  unfold cInt at h
  split at h
  · exact .inl ⟨_, rfl, h⟩
  · exact .inr ⟨_, rfl, h⟩
  · exact h.elim
end
structure Def (P : Program) (w : World) (K : PySem.W.Frag) (mg : Str → Option Value) (base : Heap) (k : Nat) (f : Addr) (ps : List Str) (sp : Sp) : Prop where
  ex : ∃ fd, FnOk P w K mg base (L2.CX P w) k f fd ps sp ∧ Binds K fd ps []
  kp : PySem.W.keepIn K (.ref f) = true
section
variable {P : Program} {w : World} {K : PySem.W.Frag} {mg : Str → Option Value} {base : Heap} {k : Nat} {f : Addr} {ps : List Str} {sp : Sp}
theorem Def.mono {j : Nat} (d : Def P w K mg base j f ps sp) (h : j ≤ k) : Def P w K mg base k f ps sp := ⟨let ⟨fd, F, b⟩ := d.ex; ⟨fd, F.mono h, b⟩, d.kp⟩
theorem Def.imp {sp' : Sp} (d : Def P w K mg base k f ps sp) (h : ∀ vs H Q E, sp' vs H Q E → sp vs H Q E) : Def P w K mg base k f ps sp' := ⟨let ⟨fd, F, b⟩ := d.ex; ⟨fd, F.imp h, b⟩, d.kp⟩
theorem Def.of {x qual : Str} {params : Arguments} {body : List Stmt} {scope : Scope} {fd : FuncData} {N : List Str} (F : FunD K x qual params body scope [] [] f fd) (S : FnScope N ps scope)
    (hb : ∀ (kV doc pm : Value) (an : Option Addr) (cdv ct : Value) (us : List Value), us.length = ps.length → bindArgs (PySem.W.fnOf x qual params body scope .none kV doc pm an cdv ct) ⟨us, []⟩ = pure (ps.zip us))
    (len : ∀ vs H Q E, sp vs H Q E → vs.length = ps.length)
    (hbody : ∀ (cdv : Value) (A : Around) (outer : List Env) (s : Shared) (H : Hp) (vs : List V) (Q : VK) (E : XK), Room k (A.deeper (envOfC qual scope s.heap.objs.size f cdv)) → sp vs H Q E →
      ∃ t, PSs (cxOf (L2.CX P w) P w K mg base N qual scope f cdv A outer s H E) body t ∧ t { nx := fun _ H' => Q .non H', rt := Q } (start N vs) H) : Def P w K mg base (k + 1) f ps sp :=
  ⟨⟨fd, F.ok S len hbody, FunD.bindsN F hb⟩, F.kp⟩
theorem Def.zero {x qual : Str} {params : Arguments} {body : List Stmt} {scope : Scope} {fd : FuncData} (F : FunD K x qual params body scope [] [] f fd)
    (hb : ∀ (kV doc pm : Value) (an : Option Addr) (cdv ct : Value) (us : List Value), us.length = ps.length → bindArgs (PySem.W.fnOf x qual params body scope .none kV doc pm an cdv ct) ⟨us, []⟩ = pure (ps.zip us)) : Def P w K mg base 0 f ps (fun _ _ _ _ => False) :=
  ⟨⟨fd, ⟨fun _ _ _ _ h => h.elim, fun _ _ _ _ _ _ _ _ _ _ _ _ _ h => h.elim⟩, FunD.bindsN F hb⟩, F.kp⟩
end
section
variable {X : Cx} {k : Nat} {f C : Addr} {ps : List Str} {sp : Sp} {E : XK} {x m : Str} {p pos apos : Pos} {e o : Expr} {es : List Expr} {ta : TE} {t : TA}
def uCall (sp : Sp) (E : XK) (t : TA) : TE := fun σ H Q => t σ H fun vs H1 => sp vs H1 Q E
theorem e_call (d : Def X.prog X.w X.K X.mg X.base k f ps sp) (hr : Room k X.A) (hg : Gl X x) (hm : X.mg x = some (.ref f)) (hx : Passes (L2.CX X.prog X.w) X E)
    (ha : PA X (e :: es) t) (hdb : (x == ("__debug__" : Str)) = false := by decide) (he : starEach (e :: es) X.env = (false, eval e X.env) :: starEach es X.env := by rfl) (hpl : (backTo pos (starEach es X.env)).any (·.1) = false := by rfl) :
    PE X (.Call (.Name x p) (e :: es) [] pos) (uCall sp E t) := by
  obtain ⟨fd, F, b⟩ := d.ex
  refine PE.imp (pe_call (pos := pos) (p := p) F hr hg hm d.kp b .nil hx ha hdb he hpl) fun σ H Q h => ?_
  unfold tCall
  simp only [List.append_nil]
  exact h
theorem e_call0 (d : Def X.prog X.w X.K X.mg X.base k f ps sp) (hr : Room k X.A) (hg : Gl X x) (hm : X.mg x = some (.ref f)) (hx : Passes (L2.CX X.prog X.w) X E)
    (hdb : (x == ("__debug__" : Str)) = false := by decide) : PE X (.Call (.Name x p) [] [] pos) (uCall sp E tNil) := by
  obtain ⟨fd, F, b⟩ := d.ex
  exact PE.imp (pe_call0 F hr hg hm d.kp b .nil hx hdb) fun σ H Q h => h
def uCallS (sp : Sp) (E : L2.St → XK) (t : TA) : TE := fun σ H Q => t σ H fun vs H1 => sp vs H1 Q (E σ)
theorem e_callS {E : L2.St → XK} (d : Def X.prog X.w X.K X.mg X.base k f ps sp) (hr : Room k X.A) (hg : Gl X x) (hm : X.mg x = some (.ref f)) (hx : ∀ σ, PassesAt (L2.CX X.prog X.w) X σ (E σ))
    (ha : PA X (e :: es) t) (hdb : (x == ("__debug__" : Str)) = false := by decide) (he : starEach (e :: es) X.env = (false, eval e X.env) :: starEach es X.env := by rfl) (hpl : (backTo pos (starEach es X.env)).any (·.1) = false := by rfl) :
    PE X (.Call (.Name x p) (e :: es) [] pos) (uCallS sp E t) := by
  obtain ⟨fd, F, b⟩ := d.ex
  exact pe_callS F hr hg hm d.kp b hx ha hdb he hpl
def uMeth (C : Addr) (m : Str) (sp : Sp) (E : L2.St → XK) (ta : TE) (t : TA) : TE := fun σ H Q => ta σ H fun x H1 => ∃ a dx fs, x = .ref a ∧ H1 a = some (.ins C dx fs) ∧ fs.lookup m = none ∧ t σ H1 fun vs H2 => sp (x :: vs) H2 Q (E σ)
theorem e_meth {pl : Sem Bool} {E : L2.St → XK} (he : PE X o ta) (c : Cls X.K C) (hm : Meth X.K C m f) (d : Def X.prog X.w X.K X.mg X.base k f ps sp) (hr : Room k X.A) (hx : ∀ σ, PassesAt (L2.CX X.prog X.w) X σ (E σ)) (ha : PA X (e :: es) t)
    (hst : starEach (e :: es) X.env = (false, eval e X.env) :: starEach es X.env := by rfl) (hpl : (backTo pos (starEach es X.env)).any (·.1) = false := by rfl)
    (ht : eval (.Call (.Attribute o m apos) (e :: es) [] pos) X.env = (do
      let ov ← eval o X.env
      standAt apos.atName
      let (f, first) ← holding [ov] (getMethod ov m pl)
      callWith pos f first (backTo pos (starEach (e :: es) X.env)) (backToKw pos (keywordEach [] X.env))) := by rfl) :
    PE X (.Call (.Attribute o m apos) (e :: es) [] pos) (uMeth C m sp E ta t) := by
  obtain ⟨fd, F, b⟩ := d.ex
  refine ⟨fun pins s σ H Q I h => ?_⟩
  refine PySem.W.methodCall_KW (pl := pl) (thn (he.run pins s σ H _ I h) fun u s1 ⟨x, H1, I1, rx, a, dx, fs, ex, ea, l, q⟩ => ?_) ht
  subst ex
  obtain rfl : u = Value.ref a := rx
  refine getmeth_ok I1 ea c hm l ?_
  refine PySem.W.callWith_K (first := [.ref a]) (h₀ := X.base) I.ok.mod.kin hm.kp (thn (ha.run pos pins s1 σ H1 _ I1 q) fun us s2 ⟨vs, H2, I2, r, q2⟩ => ⟨I2.kIn, ?_⟩) hst hpl
  exact run_fnS (us := .ref a :: us) (vs := .ref a :: vs) F hr b (hx σ) I2 (.cons rfl r) q2
theorem e_meth0 {pl : Sem Bool} {E : L2.St → XK} (he : PE X o ta) (c : Cls X.K C) (hm : Meth X.K C m f) (d : Def X.prog X.w X.K X.mg X.base k f ps sp) (hr : Room k X.A) (hx : ∀ σ, PassesAt (L2.CX X.prog X.w) X σ (E σ))
    (ht : eval (.Call (.Attribute o m apos) [] [] pos) X.env = (do
      let ov ← eval o X.env
      standAt apos.atName
      let (f, first) ← holding [ov] (getMethod ov m pl)
      callWith pos f first (backTo pos (starEach [] X.env)) (backToKw pos (keywordEach [] X.env))) := by rfl) :
    PE X (.Call (.Attribute o m apos) [] [] pos) (uMeth C m sp E ta tNil) := by
  obtain ⟨fd, F, b⟩ := d.ex
  refine ⟨fun pins s σ H Q I h => ?_⟩
  refine PySem.W.methodCall_KW (pl := pl) (thn (he.run pins s σ H _ I h) fun u s1 ⟨x, H1, I1, rx, a, dx, fs, ex, ea, l, q⟩ => ?_) ht
  subst ex
  obtain rfl : u = Value.ref a := rx
  refine getmeth_ok I1 ea c hm l ?_
  exact PySem.W.callWith_K0 (first := [.ref a]) I1.kIn hm.kp (run_fnS (us := [.ref a]) (vs := [.ref a]) F hr b (hx σ) I1 (.cons rfl .nil) q)
theorem pass_none {σ : L2.St} {W : L2.St → XK} (h : ∀ σ c d H, ¬ W σ c d H) : PassesAt (L2.CX X.prog X.w) X σ (W σ) := fun _ _ _ _ _ _ c => by
  obtain ⟨_, _, _, _, _, _, _, _, _, _, _, _, z⟩ := c
  exact (h _ _ _ _ z).elim
theorem mk_own0 {bmB : List Value} {B newId initId : String} (F : ExcBaseFacts B newId initId bmB) (q : PySem.W.excIn X.K C bmB newId = true) (gC : X.mg x = some (.ref C)) (kC : PySem.W.keepIn X.K (.ref C) = true) (r : Raises X (.ref C)) (hg : Gl X x)
    (hdb : (x == ("__debug__" : Str)) = false := by decide) : PMk X (.Call (.Name x p) [] [] pos) (fun _ H Q => Q (.ref C) none H) := by
  intro pins s σ H Q I h
  refine wpAny_Call_Name_kw (ld_glob I hg gC ?_ hdb)
  refine PySem.W.callWith_K0 I.kIn kC ?_
  show wpAny _ _ (call (.ref C) []) _ _ _
  obtain ⟨bm, N, nm, qn, bs, hdct, sn, sub, ab, col, dd, k0, k1, k2, k3, k5, mN, hC, hN, hni, T⟩ := exc_obj I.kIn q
  refine wpAny_call_exc_subT F T hC hN hni (fun h' e hm => ?_) (by show 0 ≤ sizeLine; rw [sizeLine_eq]; omega)
  exact mk_of I hm r h (I.hok.gone hm.new)
end
end Co
end

section
set_option maxHeartbeats 4000000
namespace Co
open PySem PySem.Spec PyProof.Rows L2
abbrev St := L2.St
section
variable {X : Cx} {a b : Expr} {ta tb : TE} {pos : Pos}
theorem t_pc {op : CmpOp} {t : TE} (h : PC X op a b t) (h1 : behindInMarks op b = false := by first | exact nobehind _ (by decide) (by decide) | rfl) : PT X (.Compare a [op] [b] pos) (tBo t) := PT.imp (pt_cmp h h1) fun σ H Q h => by
  unfold tB
  rw [bl_fun]
  exact h
theorem t_isN {j pos' pos} (ha : PE X a ta) : PT X (.Compare a [.Is] [.Constant .none j pos'] pos) (tBo (tIs ta)) := PT.imp (pt_cmp (pc_isN ha)) fun σ H Q h => by
  unfold tB
  rw [bl_fun]
  unfold tBo tIs at h
  simp only [fIsN_eq] at h
  exact h
theorem t_notN {j pos' pos} (ha : PE X a ta) : PT X (.Compare a [.IsNot] [.Constant .none j pos'] pos) (tBo (tNt ta)) := PT.imp (pt_cmp (pc_notN ha)) fun σ H Q h => by
  unfold tB
  rw [bl_fun]
  unfold tBo tNt at h
  simp only [fNotN_eq] at h
  exact h
def tTru (K : PySem.W.Frag) (ta : TE) : TT := fun σ H Q => ta σ H fun x H' => ∃ k, TruV K x H' k ∧ Q k H'
def sRaise (W : WX) (c : Value) : TS := fun _ σ H => W c none σ H
def uMake (C : Addr) (sp : Sp) (E : XK) (t : TA) : TE := fun σ H Q => t σ H fun vs H1 => ∀ x dx, H1 x = none → H1 dx = none → dx ≠ x →
  sp (.ref x :: vs) (upd (upd H1 dx (.own x)) x (.ins C dx [])) (fun v H2 => v = .non ∧ Q (.ref x) H2) E
theorem e_make {k : Nat} {f C : Addr} {ps : List Str} {sp : Sp} {E : XK} {x : Str} {p pos : Pos} {e : Expr} {es : List Expr} {t : TA} (M : Mk X.K C f) (d : Def X.prog X.w X.K X.mg X.base k f ps sp) (hr : Room (k + 1) X.A) (hg : Gl X x) (hm : X.mg x = some (.ref C)) (hx : Passes (L2.CX X.prog X.w) X E)
    (ha : PA X (e :: es) t) (hdb : (x == ("__debug__" : Str)) = false := by decide) (he : starEach (e :: es) X.env = (false, eval e X.env) :: starEach es X.env := by rfl) (hpl : (backTo pos (starEach es X.env)).any (·.1) = false := by rfl) :
    PE X (.Call (.Name x p) (e :: es) [] pos) (uMake C sp E t) := by
  obtain ⟨fd, F, b⟩ := d.ex
  refine PE.imp (pe_make (pos := pos) (p := p) M F hr hg hm b .nil hx ha hdb he hpl) fun σ H Q h => ?_
  unfold tMake
  simp only [List.append_nil]
  exact h
theorem e_make0 {k : Nat} {f C : Addr} {ps : List Str} {sp : Sp} {E : XK} {x : Str} {p pos : Pos} (M : Mk X.K C f) (d : Def X.prog X.w X.K X.mg X.base k f ps sp) (hr : Room (k + 1) X.A) (hg : Gl X x) (hm : X.mg x = some (.ref C)) (hx : Passes (L2.CX X.prog X.w) X E)
    (hdb : (x == ("__debug__" : Str)) = false := by decide) : PE X (.Call (.Name x p) [] [] pos) (uMake C sp E tNil) := by
  obtain ⟨fd, F, b⟩ := d.ex
  refine PE.imp (pe_make0 (pos := pos) (p := p) M F hr hg hm b .nil hx hdb) fun σ H Q h => ?_
  exact h
def cMin2 : List V → Hp → VK → Prop := fun xs H Q => match xs with
  | [.int i, .int j] => Q (.int (if j < i then j else i)) H
  | _ => False
theorem c_min2 (hc : X.calm = true) : CallR X (.builtin "min") cMin2 := CallR.imp (call_min2 hc) fun xs H Q h => by
  unfold cMin2 at h
  split at h
  · exact ⟨_, _, rfl, h⟩
  · exact h.elim
def cMax2 : List V → Hp → VK → Prop := fun xs H Q => match xs with
  | [.int i, .int j] => Q (.int (if j > i then j else i)) H
  | _ => False
theorem c_max2 (hc : X.calm = true) : CallR X (.builtin "max") cMax2 := CallR.imp (call_max2 hc) fun xs H Q h => by
  unfold cMax2 at h
  split at h
  · exact ⟨_, _, rfl, h⟩
  · exact h.elim
def cLenS : List V → Hp → VK → Prop := fun xs H Q => match xs with
  | [.str z] => z.length ≤ sizeLine ∧ Q (.int z.length) H
  | _ => False
theorem c_lenS : CallR X (.builtin "len") cLenS := CallR.imp call_len_str fun xs H Q h => by
  unfold cLenS at h
  split at h
  · exact ⟨_, rfl, h.1, h.2⟩
  · exact h.elim
def rLenQ (K : PySem.W.Frag) : List V → Hp → VK → Prop := fun xs H Q => ∃ p ys, xs = [.ref p] ∧ (SqL K H p ys ∨ SqT K H p ys) ∧ Q (.int ys.length) H
def rLenD : List V → Hp → VK → Prop := fun xs H Q => ∃ a kvs, xs = [V.ref a] ∧ H a = some (.dK kvs) ∧ Q (.int kvs.length) H
def rTupOf (K : PySem.W.Frag) : List V → Hp → VK → Prop := fun xs H Q => ∃ p ys, xs = [.ref p] ∧ ((SqL K H p ys ∧ ∀ l, H l = none → Q (.ref l) (upd H l (.tup ys))) ∨ (SqT K H p ys ∧ Q (.ref p) H))
def rListOf (K : PySem.W.Frag) : List V → Hp → VK → Prop := fun xs H Q => ∃ p ys, xs = [.ref p] ∧ (SqL K H p ys ∨ SqT K H p ys) ∧ ∀ l, H l = none → Q (.ref l) (upd H l (.lst ys))
def tJoin (K : PySem.W.Frag) (ts tl : TE) : TE := fun σ H Q => ts σ H fun x H1 => (∃ z, x = .str z) ∧ tl σ H1 fun y H2 => ∃ (a : Str) (p : Addr) (ys : List Str), x = .str a ∧ y = .ref p ∧ (SqL K H2 p (ys.map V.str) ∨ SqT K H2 p (ys.map V.str)) ∧ True ∧ Q (.str (Txt.join a ys)) H2
def isiS : V → String → Option Bool
  | .non, c => if c = "tuple" ∨ c = "list" ∨ c = "dict" ∨ c = "int" ∨ c = "str" ∨ c = "bool" then some false else none
  | .bl _, c => if c = "bool" ∨ c = "int" then some true else if c = "tuple" ∨ c = "list" ∨ c = "dict" ∨ c = "str" then some false else none
  | .int _, c => if c = "int" then some true else if c = "tuple" ∨ c = "list" ∨ c = "dict" ∨ c = "str" ∨ c = "bool" then some false else none
  | .str _, c => if c = "str" then some true else if c = "tuple" ∨ c = "list" ∨ c = "dict" ∨ c = "int" ∨ c = "bool" then some false else none
  | _, _ => none
def isiR (t c : String) : Prop := (t = "list" ∨ t = "tuple" ∨ t = "dict") ∧ (c = "tuple" ∨ c = "list" ∨ c = "dict" ∨ c = "int" ∨ c = "str" ∨ c = "bool")
def cIsi (K : PySem.W.Frag) : List V → Hp → VK → Prop := fun xs H Q => match xs with
  | [.ref p, .ty c] => ∃ t, TyX K H (.ref p) (.type t) ∧ isiR t c ∧ Q (.bl (decide (t = c))) H
  | [x, .ty c] => (match isiS x c with
    | some b => Q (.bl b) H
    | none => False)
  | _ => False
theorem isi_kit {K : PySem.W.Frag} {t c : String} (h : isiR t c) : PySem.W.kitOne K (.type t) (.type c) = some (decide (t = c)) := by
  obtain ⟨h1, h2⟩ := h
  rcases h1 with rfl | rfl | rfl <;> rcases h2 with rfl | rfl | rfl | rfl | rfl | rfl <;> exact kit_ty (by decide +kernel)
theorem isiS_ok {K : PySem.W.Frag} {H : Hp} {x : V} {c : String} {b : Bool} (h : isiS x c = some b) : ∃ t, TyX K H x (.type t) ∧ PySem.W.kitOne K (.type t) (.type c) = some b := by
  cases x <;> simp only [isiS] at h
  case non =>
    split at h
    · rename_i q
      cases h
      rcases q with rfl | rfl | rfl | rfl | rfl | rfl <;> exact ⟨"NoneType", .base .non, kit_ty (by decide +kernel)⟩
    · cases h
  case bl v =>
    split at h
    · rename_i q
      cases h
      rcases q with rfl | rfl <;> exact ⟨"bool", .base (.bl v), kit_ty (by decide +kernel)⟩
    · split at h
      · rename_i q
        cases h
        rcases q with rfl | rfl | rfl | rfl <;> exact ⟨"bool", .base (.bl v), kit_ty (by decide +kernel)⟩
      · cases h
  case int v =>
    split at h
    · rename_i q
      cases h
      subst q
      exact ⟨"int", .base (.int v), kit_ty (by decide +kernel)⟩
    · split at h
      · rename_i q
        cases h
        rcases q with rfl | rfl | rfl | rfl | rfl <;> exact ⟨"int", .base (.int v), kit_ty (by decide +kernel)⟩
      · cases h
  case str v =>
    split at h
    · rename_i q
      cases h
      subst q
      exact ⟨"str", .base (.str v), kit_ty (by decide +kernel)⟩
    · split at h
      · rename_i q
        cases h
        rcases q with rfl | rfl | rfl | rfl | rfl <;> exact ⟨"str", .base (.str v), kit_ty (by decide +kernel)⟩
      · cases h
  all_goals cases h
theorem c_isi : CallR X (.builtin "isinstance") (cIsi X.K) := CallR.imp call_isi fun xs H Q h => by
  unfold cIsi at h
  split at h
  · obtain ⟨t, ty, r, q⟩ := h
    exact ⟨_, _, _, _, _, rfl, .ty _, ty, isi_kit r, q⟩
  · split at h
    · rename_i b e
      obtain ⟨t, ty, k⟩ := isiS_ok (K := X.K) (H := H) e
      exact ⟨_, _, _, _, _, rfl, .ty _, ty, k, h⟩
    · exact h.elim
  · exact h.elim
theorem tyx_l {K : PySem.W.Frag} {H : Hp} {p : Addr} {xs : List V} (h : SqL K H p xs) : TyX K H (.ref p) (.type "list") := by
  rcases h with (h | ⟨o, h⟩) | ⟨o, its, n, h, c, _⟩
  · exact .base (.lst h)
  · exact .base (.frz h)
  · exact .kList h c
theorem tyx_t {K : PySem.W.Frag} {H : Hp} {p : Addr} {xs : List V} (h : SqT K H p xs) : TyX K H (.ref p) (.type "tuple") := by
  rcases h with (h | ⟨o, h⟩) | ⟨o, its, n, h, c, _⟩
  · exact .base (.tup h)
  · exact .fTuple h
  · exact .kTuple h c
def SqA (K : PySem.W.Frag) (H : Hp) (a : Addr) (xs : List V) : Prop := SqL K H a xs ∨ SqT K H a xs
def iSeq (K : PySem.W.Frag) (tl : TE) : TI := fun σ H R => tl σ H fun x H1 => ∃ a, x = .ref a ∧ (((∃ xs, SqL K H1 a xs) ∧ R (Itl K a) H1) ∨ ((∃ xs, SqT K H1 a xs) ∧ R (Itt K a) H1))
theorem pi_seq {tg l : Expr} {tl : TE} (hl : PE X l tl) : PI X tg l (iSeq X.K tl) := by
  refine ⟨fun pins s σ H R I h => ?_⟩
  refine thn (hl.run pins s σ H _ I h) fun v s1 ⟨x, H1, I1, r1, q1⟩ => ?_
  obtain ⟨a, e, q⟩ := q1
  subst e
  cases r1
  rcases q with ⟨⟨xs, hq⟩, q⟩ | ⟨⟨xs, hq⟩, q⟩
  · obtain ⟨its, rv, p, hz⟩ := I1.list hq
    refine wpAny_pyIter_list p.isList ?_
    refine ⟨s1.heap.objs.size, [s1.heap.objs.size], _, _, H1, rfl, I1.kept (t' := s1.toks) fun b o e => Heap.get?_push_of_some _ e, turn_list a _, ⟨_, Heap.get?_push_size _ rfl, rfl, rfl⟩, fun b hb => ?_, q⟩
    have e : b = s1.heap.objs.size := by simpa using hb
    subst e
    exact I1.fpOk (Nat.le_refl _) (I1.hok.fresh (Nat.le_refl _))
  · obtain ⟨its, rv, p, hz⟩ := I1.tuple hq
    refine wpAny_pyIter_tuple (show s1.heap.IsTuple a its.toArray from p) ?_
    refine ⟨s1.heap.objs.size, [s1.heap.objs.size], _, _, H1, rfl, I1.kept (t' := s1.toks) fun b o e => Heap.get?_push_of_some _ e, turn_tuple a _, ⟨_, Heap.get?_push_size _ rfl, rfl, rfl⟩, fun b hb => ?_, q⟩
    have e : b = s1.heap.objs.size := by simpa using hb
    subst e
    exact I1.fpOk (Nat.le_refl _) (I1.hok.fresh (Nat.le_refl _))
end
structure Fx (fa : List He.Fa) (fn : List He.DefD) (K : PySem.W.Frag) (mg : Str → Option Value) : Prop where
  ex : ∃ h : Heap, K.In h ∧ h.Ns mainGlobals mg
  c : He.SaysD fa fn K
section
variable {fa : List He.Fa} {fn : List He.DefD} {K : PySem.W.Frag} {mg : Str → Option Value}
theorem Fx.glo (T : Fx fa fn K mg) (i : Nat) {x : Str} (h : fa[i]? = some (.glo x) := by rfl) : mg x = some (.ref (He.ga K x)) := let ⟨_, KX, G⟩ := T.ex; He.glo_ok KX G (T.c.fact i h)
theorem Fx.free (T : Fx fa fn K mg) (i : Nat) {x : Str} (h : fa[i]? = some (.free x) := by rfl) : mg x = none := let ⟨_, KX, G⟩ := T.ex; He.free_ok KX G (T.c.fact i h)
theorem Fx.cls (T : Fx fa fn K mg) (i : Nat) {x : Str} (h : fa[i]? = some (.cls x) := by rfl) : Cls K (He.ga K x) := He.cls_ok (T.c.fact i h)
end
end Co
end

section
set_option maxHeartbeats 4000000
namespace Co
open PySem PySem.Spec PyProof.Rows L2
section
variable {fa : List He.Fa} {fn : List He.DefD} {K : PySem.W.Frag} {mg : Str → Option Value}
theorem Fx.noat (T : Fx fa fn K mg) (i : Nat) {x f : Str} (h : fa[i]? = some (.noat x f) := by rfl) : NoAttr K (He.ga K x) f := He.noat_ok (T.c.fact i h)
theorem Fx.meth (T : Fx fa fn K mg) (i : Nat) {x m : Str} (h : fa[i]? = some (.meth x m) := by rfl) : Meth K (He.ga K x) m (He.ma K (He.ga K x) m) := He.meth_ok (T.c.fact i h)
theorem Fx.mkr (T : Fx fa fn K mg) (i : Nat) {x : Str} (h : fa[i]? = some (.mkr x) := by rfl) : Mk K (He.ga K x) (He.ma K (He.ga K x) "__init__") := He.mkr_ok (T.c.fact i h)
theorem Fx.exm (T : Fx fa fn K mg) (i : Nat) {x y : Str} {b : Bool} (h : fa[i]? = some (.exm x y b) := by rfl) : PySem.W.exmOne K (.ref (He.ga K x)) (.ref (He.ga K y)) = some b := He.exm_ok (T.c.fact i h)
theorem Fx.mk0 (T : Fx fa fn K mg) (i : Nat) {X : Cx} {x : Str} {p pos : Pos} (gC : X.mg x = some (.ref (He.ga X.K x))) (e1 : X.K = K := by rfl) (hg : Gl X x := by rfl) (h : fa[i]? = some (.exc x) := by rfl)
    (hdb : (x == ("__debug__" : Str)) = false := by decide) : PMk X (.Call (.Name x p) [] [] pos) (fun _ H Q => Q (.ref (He.ga K x)) none H) := by
  subst e1
  obtain ⟨q1, q2, q3, q4⟩ := He.exc_ok (T.c.fact i h)
  exact mk_own0 PySem.F.excBase_ValueError q1 gC q2 (raises_own q3 q4) hg hdb
end
def uLc (wi : TI) (g : TG) (tt : TT) (te : TE) (vs : List Nat) : TE := fun σ H Q => wi σ H fun J H1 => ∀ D, H1 D = none → ∃ W : Nat → Nat → Hp → Prop, (∃ m, W 0 m (upd H1 D (.lst []))) ∧ ∀ i m H, W i m H →
  (J.stop i H ∧ Q (.ref D) H) ∨ (J.go i H ∧ ∃ Nx : Hp → Prop, (∀ H', Nx H' → ∃ m', m' < m ∧ W (i + 1) m' H') ∧ ∀ x H', J.yld i H x H' → g x (wipe σ vs) H' fun σ2 H2 => wipe σ2 vs = wipe σ vs ∧ tt σ2 H2 fun b H3 =>
    two b (te σ2 H3 fun y H4 => ∃ acc, H4 D = some (.lst acc) ∧ acc.length < sizeLine ∧ Nx (upd H4 D (.lst (acc ++ [y])))) (Nx H3))
theorem lc_eq {wi : TI} {g : TG} {tt : TT} {te : TE} {vs : List Nat} : tLc wi g tt te vs = uLc wi g tt te vs := by
  unfold tLc uLc
  simp only [two_eq]
section
variable {X : Cx}
theorem e_lc {elt tg iter : Expr} {ifs : List Expr} {scope : Scope} {own : List (Str × Nat)} {pos : Pos} {wi : TI} {g : TG} {tt : TT} {te : TE} (hc : X.calm = true) (hN : X.N.Nodup) (hi : PI X tg iter wi) (ok : BlkOk X.N X.env.scope scope own)
    (hg : ∀ (s : Shared) (H : Hp) (C : Addr) (cl : List (Str × Addr)) (fp : List Addr), PG (X.blk s H scope (compEnvC scope cl C X.env) fp) tg g) (ht : ∀ (s : Shared) (H : Hp) (C : Addr) (cl : List (Str × Addr)) (fp : List Addr), PTs (X.blk s H scope (compEnvC scope cl C X.env) fp) ifs tt)
    (he : ∀ (s : Shared) (H : Hp) (C : Addr) (cl : List (Str × Addr)) (fp : List Addr), PE (X.blk s H scope (compEnvC scope cl C X.env) fp) elt te) (hs : ∀ x, foldedSetIterable iter X.env x = pure x := by intro _; rfl) :
    PE X (.ListComp elt [⟨tg, iter, ifs, 0⟩] scope pos) (uLc wi g tt te (own.map (·.2))) := lc_eq ▸ pe_lc hc hN hi ok hg ht he hs
theorem s_setLc {i : Nat} {y : Str} {py : Pos} {elt tg iter : Expr} {ifs : List Expr} {scope : Scope} {own : List (Str × Nat)} {pos spos : Pos} {wi : TI} {g : TG} {tt : TT} {te : TE} (hc : X.calm = true) (hN : X.N.Nodup) (hy : X.N[i]? = some y) (hyl : X.env.scope.names.lookup y = some .local)
    (hsw : swapsWith (.ListComp elt [⟨tg, iter, ifs, 0⟩] scope pos) (some (.Name y py)) spos.line X.env = pure true) (hi : PI X tg iter wi) (ok : BlkOk X.N X.env.scope scope own)
    (hg : ∀ (s : Shared) (H : Hp) (C : Addr) (cl : List (Str × Addr)) (fp : List Addr), PG (X.blk s H scope (compEnvC scope cl C X.env) fp) tg g) (ht : ∀ (s : Shared) (H : Hp) (C : Addr) (cl : List (Str × Addr)) (fp : List Addr), PTs (X.blk s H scope (compEnvC scope cl C X.env) fp) ifs tt)
    (he : ∀ (s : Shared) (H : Hp) (C : Addr) (cl : List (Str × Addr)) (fp : List Addr), PE (X.blk s H scope (compEnvC scope cl C X.env) fp) elt te) (hs : ∀ x, foldedSetIterable iter X.env x = pure x := by intro _; rfl) :
    PS X (.Assign [.Name y py] (.ListComp elt [⟨tg, iter, ifs, 0⟩] scope pos) spos) (tAsg (uLc wi g tt te (own.map (·.2))) (gName i)) := lc_eq ▸ ps_setLc hc hN hy hyl hsw hi ok hg ht he hs
end
def LcTurn (g : TG) (tt : TT) (te : TE) (vs : List Nat) (σ : St) (D : Addr) (x : V) (H : Hp) (Nx : Hp → Prop) : Prop :=
  g x (wipe σ vs) H fun σ2 H2 => wipe σ2 vs = wipe σ vs ∧ tt σ2 H2 fun b H3 =>
    two b (te σ2 H3 fun y H4 => ∃ acc, H4 D = some (.lst acc) ∧ acc.length < sizeLine ∧ Nx (upd H4 D (.lst (acc ++ [y])))) (Nx H3)
theorem lcL {K : PySem.W.Frag} {tl : TE} {g : TG} {tt : TT} {te : TE} {vs : List Nat} {σ : St} {H : Hp} {Q : VK} (h : tl σ H fun x H1 => ∃ a xs, x = .ref a ∧ SqL K H1 a xs ∧ ∀ D, H1 D = none → ∃ Pv : Nat → Hp → Prop, Pv 0 (upd H1 D (.lst [])) ∧
      (∀ i H, i ≤ xs.length → Pv i H → SqL K H a xs) ∧ (∀ i x H, xs[i]? = some x → Pv i H → LcTurn g tt te vs σ D x H (Pv (i + 1))) ∧ ∀ H, Pv xs.length H → Q (.ref D) H)
    (mono : ∀ Q Q' : VK, (∀ v H1, Q v H1 → Q' v H1) → tl σ H Q → tl σ H Q') : uLc (iList K tl) g tt te vs σ H Q := by
  refine mono _ _ (fun v H1 q => ?_) h
  obtain ⟨a, xs, e, hx, k⟩ := q
  subst e
  refine ⟨a, rfl, ⟨xs, hx⟩, fun D hD => ?_⟩
  obtain ⟨Pv, h0, hl, hs, hd⟩ := k D hD
  refine ⟨fun i m H => m = xs.length - i ∧ i ≤ xs.length ∧ Pv i H, ⟨xs.length, by simp, Nat.zero_le _, h0⟩, ?_⟩
  rintro i m H ⟨rfl, hi, p⟩
  have q := hl i H hi p
  by_cases hlt : i < xs.length
  · refine .inr ⟨⟨xs, xs[i], q, by simp [hlt]⟩, Pv (i + 1), fun H' p' => ⟨xs.length - (i + 1), by omega, rfl, hlt, p'⟩, fun x H' y => ?_⟩
    obtain ⟨e, y⟩ := y
    subst e
    exact hs i x _ (y xs q) p
  · have e : i = xs.length := by omega
    subst e
    exact .inl ⟨⟨xs, q, Nat.le_refl _⟩, hd H p⟩
theorem lcR {ta : TA} {g : TG} {tt : TT} {te : TE} {vs : List Nat} {σ : St} {H : Hp} {Q : VK} (h : ta σ H fun xs H1 => ∃ n : Int, xs = [.int n] ∧ -(2 ^ 62) ≤ n ∧ n < 2 ^ 62 ∧ ∀ D, H1 D = none → ∃ Pv : Nat → Hp → Prop, Pv 0 (upd H1 D (.lst [])) ∧
      (∀ (i : Nat) H, i < n.toNat → Pv i H → LcTurn g tt te vs σ D (.int (i : Int)) H (Pv (i + 1))) ∧ ∀ H, Pv n.toNat H → Q (.ref D) H)
    (mono : ∀ Q Q' : List V → Hp → Prop, (∀ v H1, Q v H1 → Q' v H1) → ta σ H Q → ta σ H Q') : uLc (iRng1 ta) g tt te vs σ H Q := by
  refine mono _ _ (fun v H1 q => ?_) h
  obtain ⟨n, e, h1, h2, k⟩ := q
  subst e
  refine ⟨n, rfl, h1, h2, fun D hD => ?_⟩
  obtain ⟨Pv, h0, hs, hd⟩ := k D hD
  refine ⟨fun i m H => m = n.toNat - i ∧ i ≤ n.toNat ∧ Pv i H, ⟨n.toNat, by simp, Nat.zero_le _, h0⟩, ?_⟩
  rintro i m H ⟨rfl, hi, p⟩
  by_cases hlt : i < n.toNat
  · refine .inr ⟨hlt, Pv (i + 1), fun H' p' => ⟨n.toNat - (i + 1), by omega, rfl, hlt, p'⟩, fun x H' y => ?_⟩
    obtain ⟨e, y⟩ := y
    subst e y
    rw [Int.zero_add]
    exact hs i _ hlt p
  · have e : i = n.toNat := by omega
    subst e
    exact .inl ⟨Nat.le_refl _, hd H p⟩
theorem forL {K : PySem.W.Frag} {a : Addr} {xs : List V} {g : TG} {tb : TS} {D : Ends} {σ : St} {H : Hp} (hq : SqL K H a xs) (Pv : Nat → St → Hp → Prop) (h0 : Pv 0 σ H) (hl : ∀ i σ H, i ≤ xs.length → Pv i σ H → SqL K H a xs)
    (hs : ∀ i x σ H, xs[i]? = some x → Pv i σ H → g x σ H fun σ2 H2 => tb { D with nx := Pv (i + 1), ct := Pv (i + 1), bk := D.nx } σ2 H2) (hd : ∀ σ H, Pv xs.length σ H → D.nx σ H) : tFor (iList K (fun _ H Q => Q (.ref a) H)) g tb D σ H :=
  ⟨a, rfl, ⟨xs, hq⟩, for_list Pv h0 hl hs hd⟩
theorem forL_of {K : PySem.W.Frag} {tl : TE} {g : TG} {tb : TS} {D : Ends} {σ : St} {H : Hp} {a : Addr} {xs : List V} (hv : ∀ Q : VK, Q (.ref a) H → tl σ H Q) (hq : SqL K H a xs) (Pv : Nat → St → Hp → Prop) (h0 : Pv 0 σ H) (hl : ∀ i σ H, i ≤ xs.length → Pv i σ H → SqL K H a xs)
    (hs : ∀ i x σ H, xs[i]? = some x → Pv i σ H → g x σ H fun σ2 H2 => tb { D with nx := Pv (i + 1), ct := Pv (i + 1), bk := D.nx } σ2 H2) (hd : ∀ σ H, Pv xs.length σ H → D.nx σ H) : tFor (iList K tl) g tb D σ H :=
  hv _ ⟨a, rfl, ⟨xs, hq⟩, for_list Pv h0 hl hs hd⟩
theorem forA_of {K : PySem.W.Frag} {tl : TE} {g : TG} {tb : TS} {D : Ends} {σ : St} {H : Hp} {a : Addr} {xs : List V} (hv : ∀ Q : VK, Q (.ref a) H → tl σ H Q) (hq : SqA K H a xs) (Pv : Nat → St → Hp → Prop) (h0 : Pv 0 σ H) (hl : ∀ i σ H', i ≤ xs.length → Pv i σ H' → Same H H')
    (hs : ∀ i x σ H, xs[i]? = some x → Pv i σ H → g x σ H fun σ2 H2 => tb { D with nx := Pv (i + 1), ct := Pv (i + 1), bk := D.nx } σ2 H2) (hd : ∀ σ H, Pv xs.length σ H → D.nx σ H) : tFor (iSeq K tl) g tb D σ H := by
  refine hv _ ⟨a, rfl, ?_⟩
  rcases hq with hq | hq
  · exact .inl ⟨⟨xs, hq⟩, for_list Pv h0 (fun i σ' H' hi p => (hl i σ' H' hi p).seq hq) hs hd⟩
  · refine .inr ⟨⟨xs, hq⟩, for_tup Pv h0 (fun i σ' H' hi p => ?_) hs hd⟩
    have e := hl i σ' H' hi p
    rcases hq with (h | ⟨o, h⟩) | h
    · exact .inl (.inl (e _ _ h))
    · exact .inl (.inr ⟨o, e _ _ h⟩)
    · exact .inr h
def Fr (S : List Addr) (H H' : Hp) : Prop := ∀ b o, H b = some o → b ∉ S → H' b = some o
theorem Fr.refl (S : List Addr) (H : Hp) : Fr S H H := fun _ _ h _ => h
theorem Fr.trans {S : List Addr} {H H1 H2 : Hp} (a : Fr S H H1) (b : Fr S H1 H2) : Fr S H H2 := fun c o h n => b c o (a c o h n) n
theorem Fr.mono {S S' : List Addr} {H H1 : Hp} (a : Fr S H H1) (h : ∀ b ∈ S, b ∈ S') : Fr S' H H1 := fun c o e n => a c o e fun z => n (h c z)
theorem Fr.of {S : List Addr} {H H' : Hp} (a : Same H H') : Fr S H H' := fun b o h _ => a b o h
theorem Fr.at1 {p q : Addr} {H H' : Hp} {o : HO} (a : Fr [p] H H') (h : H q = some o) (n : q ≠ p) : H' q = some o := a q o h (by simp [n])
theorem Fr.at0 {q : Addr} {H H' : Hp} {o : HO} (a : Fr [] H H') (h : H q = some o) : H' q = some o := a q o h (by simp)
theorem Fr.same {H H' : Hp} (a : Fr [] H H') : Same H H' := fun b o h => a b o h (by simp)
theorem Fr.new {S : List Addr} {H H' : Hp} {p : Addr} {o : HO} (a : Fr S H H') (h : H' p = none) : Fr S H (upd H' p o) := fun b u e n => by
  have q := a b u e n
  rw [upd_ne (ne_of_none q h)]
  exact q
theorem Fr.wr {S : List Addr} {H H' : Hp} {p : Addr} {o : HO} (a : Fr S H H') (h : p ∈ S) : Fr S H (upd H' p o) := fun b u e n => by
  rw [upd_ne (show b ≠ p from fun z => n (by rw [z]; exact h))]
  exact a b u e n
theorem Fr.loc {S : List Addr} {H H' : Hp} {p : Addr} {o : HO} (a : Fr S H H') (h : H p = none) : Fr S H (upd H' p o) := fun b u e n => by
  rw [upd_ne (ne_of_none e h)]
  exact a b u e n
theorem same_new {H H' : Hp} {p : Addr} {o : HO} (a : Same H H') (h : H' p = none) : Same H (upd H' p o) := fun b u e => by
  rw [upd_ne (ne_of_none (a b u e) h)]
  exact a b u e
theorem same_loc {H H' : Hp} {p : Addr} {o : HO} (a : Same H H') (h : H p = none) : Same H (upd H' p o) := fun b u e => by
  rw [upd_ne (ne_of_none e h)]
  exact a b u e
theorem same_fr {M H H' : Hp} {S : List Addr} (a : Same M H) (b : Fr S H H') (h : ∀ p ∈ S, M p = none) : Same M H' := fun c o e => b c o (a c o e) fun z => by
  rw [h c z] at e
  cases e
theorem same_fr1 {M H H' : Hp} {p : Addr} (a : Same M H) (b : Fr [p] H H') (h : M p = none) : Same M H' := same_fr a b fun q hq => by
  have e : q = p := by simpa using hq
  rw [e]
  exact h
theorem same_grow {M H : Hp} {p : Addr} {o : HO} (a : Same M H) (h : H p = some o) : Same (upd M p o) H := fun b u e => by
  by_cases z : b = p
  · subst z
    rw [upd_same] at e
    cases e
    exact h
  · rw [upd_ne z] at e
    exact a b u e
theorem same_grow0 {M : Hp} {p : Addr} {o : HO} (h : M p = none) : Same M (upd M p o) := fun b u e => by
  rw [upd_ne (ne_of_none e h)]
  exact e
theorem keep_new {H : Hp} {p q : Addr} {o o' : HO} (h : H p = none) (e : H q = some o) : upd H p o' q = some o := by
  rw [upd_ne (ne_of_none e h)]
  exact e
theorem keep_ne {H : Hp} {p q : Addr} {o o' : HO} (n : q ≠ p) (e : H q = some o) : upd H p o' q = some o := by
  rw [upd_ne n]
  exact e
theorem sqT_same {K : PySem.W.Frag} {H H' : Hp} {a : Addr} {xs : List V} (e : Same H H') (h : SqT K H a xs) : SqT K H' a xs := by
  rcases h with (h | ⟨o, h⟩) | h
  · exact .inl (.inl (e _ _ h))
  · exact .inl (.inr ⟨o, e _ _ h⟩)
  · exact .inr h
mutual
theorem dp_mono {K : PySem.W.Frag} {H H' : Hp} (e : Same H H') : ∀ {d : PyData} {v : V}, Dp K H v d → Dp K H' v d
  | .none, _, h => by cases h; exact .non
  | .bool b, _, h => by cases h; exact .bl b
  | .int i, _, h => by cases h; exact .int i
  | .str x, _, h => by cases h; exact .str x
  | .list ds, _, h => by
    cases h with
    | lst hs ha => exact .lst (e.seq hs) (dpAll_mono e ha)
  | .tuple ds, _, h => by
    cases h with
    | tup hs ha => exact .tup (sqT_same e hs) (dpAll_mono e ha)
  | .dict _, _, h => by cases h
theorem dpAll_mono {K : PySem.W.Frag} {H H' : Hp} (e : Same H H') : ∀ {ds : List PyData} {vs : List V}, DpAll K H vs ds → DpAll K H' vs ds
  | [], _, h => by cases h; exact .nil
  | d :: ds, _, h => by
    cases h with
    | cons h1 h2 => exact .cons (dp_mono e h1) (dpAll_mono e h2)
end
theorem dpAll_length {K : PySem.W.Frag} {H : Hp} : ∀ {ds : List PyData} {vs : List V}, DpAll K H vs ds → vs.length = ds.length
  | [], _, h => by cases h; rfl
  | d :: ds, _, h => by
    cases h with
    | cons h1 h2 => simp [dpAll_length h2]
theorem dpAll_get {K : PySem.W.Frag} {H : Hp} : ∀ {ds : List PyData} {vs : List V} {i : Nat} {d : PyData}, DpAll K H vs ds → ds[i]? = some d → ∃ v, vs[i]? = some v ∧ Dp K H v d
  | [], _, _, _, h, e => by simp at e
  | d :: ds, _, 0, _, h, e => by
    cases h with
    | cons h1 h2 =>
      simp at e
      subst e
      exact ⟨_, rfl, h1⟩
  | d :: ds, _, i + 1, _, h, e => by
    cases h with
    | cons h1 h2 => exact dpAll_get (i := i) h2 (by simpa using e)
theorem dpAll_append {K : PySem.W.Frag} {H : Hp} : ∀ {ds es : List PyData} {vs ws : List V}, DpAll K H vs ds → DpAll K H ws es → DpAll K H (vs ++ ws) (ds ++ es)
  | [], _, _, _, h, h' => by cases h; exact h'
  | d :: ds, _, _, _, h, h' => by
    cases h with
    | cons h1 h2 => exact .cons h1 (dpAll_append h2 h')
theorem atNat {α : Type} {xs : List α} {i : Int} {v : α} (h0 : 0 ≤ i) (h : xs[i.toNat]? = some v) : atI xs i = some v := by
  have e : i = ((i.toNat : Nat) : Int) := by omega
  rw [e]
  exact atI_nat h
end Co
end

section
set_option maxHeartbeats 4000000
namespace Co
open PySem PySem.Spec PyProof.Rows L2
section
variable {X : Cx}
def LenR (K : PySem.W.Frag) (H : Hp) (p : Addr) (n : Nat) : Prop := (∃ ys, SqA K H p ys ∧ n = ys.length) ∨ ∃ kvs, H p = some (.dK kvs) ∧ n = kvs.length
def cLenA (K : PySem.W.Frag) : List V → Hp → VK → Prop := fun xs H Q => match xs with
  | [.str z] => z.length ≤ sizeLine ∧ Q (.int z.length) H
  | [.ref p] => ∃ n, LenR K H p n ∧ Q (.int (n : Nat)) H
  | _ => False
theorem c_lenA : CallR X (.builtin "len") (cLenA X.K) := CallR.imp (CallR.or call_len_seq (CallR.or call_len_str call_lenD)) fun xs H Q h => by
  unfold cLenA at h
  split at h
  · exact .inr (.inl ⟨_, rfl, h⟩)
  · obtain ⟨n, ⟨ys, hs, rfl⟩ | ⟨kvs, hs, rfl⟩, q⟩ := h
    · exact .inl ⟨_, _, rfl, hs, q⟩
    · exact .inr (.inr ⟨_, _, rfl, hs, q⟩)
  · exact h.elim
end
theorem lenL {K : PySem.W.Frag} {H : Hp} {p : Addr} {ys : List V} (h : H p = some (.lst ys)) : LenR K H p ys.length := .inl ⟨_, .inl (SqL.of h), rfl⟩
theorem lenT {K : PySem.W.Frag} {H : Hp} {p : Addr} {ys : List V} (h : SqT K H p ys) : LenR K H p ys.length := .inl ⟨_, .inr h, rfl⟩
structure Pool (H : Hp) (p q : Addr) (ns : List Int) (i d s : Int) : Prop where
  hp : H p = some (.lst [.ref q, .int i, .int d, .int s])
  hq : H q = some (.lst (ns.map V.int))
  ne : q ≠ p
  nn : ∀ n ∈ ns, 0 ≤ n
  hi : 0 ≤ i
  hd : 0 ≤ d
  hs : 0 ≤ s
  hs2 : s < 2147483647
def PoolAt (H : Hp) (p q : Addr) : Prop := ∃ ns i d s, Pool H p q ns i d s
def sp_pool (K : PySem.W.Frag) : Sp := fun vs H Q _ => match vs with
  | [.ref a] => ∃ ns : List Int, SqL K H a (ns.map V.int) ∧ ns.length ≤ 63 ∧ ∀ p q H', H p = none → H q = none → PoolAt H' p q → Same H H' → Q (.ref p) H'
  | _ => False
def sp_take (n : Nat) : Sp := fun vs H Q _ => match vs with
  | [.ref p, .int m] => 0 < n ∧ ∃ q, (∃ ns i d s, Pool H p q ns i d s ∧ (n = 1 → 0 < d)) ∧ 0 < m ∧ m < 1073741824 ∧ ∀ (r : Int) H', 0 ≤ r → r < m → PoolAt H' p q → Fr [p] H H' → Q (.int r) H'
  | _ => False
def t_Lpool (K : PySem.W.Frag) : TS :=
 (tRet (tLst (tCons (uLc (iList K (tV 0)) (gName 1) tYes (uIf (tBo (tOp fGe (tV 1) (tC (.int 0)))) (tOp fMul (tC (.int 2)) (tV 1)) (tOp fSub (tOp fMul (tUn fNeg (tC (.int 2))) (tV 1)) (tC (.int 1)))) ([("_law_cell", 1)].map (·.2))) (tCons (tC (.int 0)) (tCons (tC (.int 0)) (tCons (tC (.int 17)) tNil))))))
def t_Ltake (K : PySem.W.Frag) (sp : Sp) : TS :=
 (tSeq (uIfS (tBo (tOp fGt (tOp (rIxL K) (tV 0) (tC (.int 2))) (tC (.int 0)))) (tSeq (tAsg (tOp fMod (tCB cInt (tCons (tOp (rIxL K) (tV 0) (tC (.int 2))) tNil)) (tV 1)) (gName 2))
 (tSeq (tAsg (tOp fDiv (tOp (rIxL K) (tV 0) (tC (.int 2))) (tV 1)) (gSub (tV 0) (tC (.int 2)) rSetL))
 (tRet (tV 2)))) tNext)
 (tSeq (tAsg (tC (.int 0)) (gName 3))
 (tSeq (uIfS (tBo (tOp fLt (tOp (rIxL K) (tV 0) (tC (.int 1))) (tCB (cLenA K) (tCons (tOp (rIxL K) (tV 0) (tC (.int 0))) tNil)))) (tAsg (tOp (rIx K) (tOp (rIxL K) (tV 0) (tC (.int 0))) (tOp (rIxL K) (tV 0) (tC (.int 1)))) (gName 3)) tNext)
 (tSeq (tAsg (tOp fAdd (tOp (rIxL K) (tV 0) (tC (.int 1))) (tC (.int 1))) (gSub (tV 0) (tC (.int 1)) rSetL))
 (tSeq (uIfS (tBo (tOp fGe (tV 3) (tOp fPow (tC (.int 10)) (tC (.int 18))))) (tSeq (tAsg (tOp fDiv (tV 3) (tC (.int 2))) (gSub (tV 0) (tC (.int 2)) rSetL))
 (tRet (uCall sp E0 (tCons (tV 0) (tCons (tV 1) tNil))))) tNext)
 (tSeq (tAsg (tOp fMod (tCB cInt (tCons (tOp fAdd (tOp fAdd (tOp fMul (tOp (rIxL K) (tV 0) (tC (.int 3))) (tC (.int 48271))) (tOp fMul (tV 3) (tC (.int 69621)))) (tOp fMul (tOp (rIxL K) (tV 0) (tC (.int 1))) (tC (.int 613)))) tNil)) (tC (.int 2147483647))) (gSub (tV 0) (tC (.int 3)) rSetL))
 (tSeq (tAsg (tOp fMod (tCB cInt (tCons (tOp fAdd (tOp fAdd (tOp fMul (tOp (rIxL K) (tV 0) (tC (.int 3))) (tOp (rIxL K) (tV 0) (tC (.int 3)))) (tOp fMul (tOp (rIxL K) (tV 0) (tC (.int 3))) (tC (.int 7919)))) (tC (.int 104729))) tNil)) (tC (.int 1000000007))) (gName 4))
 (tRet (tOp fMod (tCB cInt (tCons (tOp fDiv (tV 4) (tC (.int 3))) tNil)) (tV 1))))))))))
abbrev Dn (Q : VK) : Ends := { nx := fun _ H' => Q .non H', rt := Q }
theorem PoolAt.fr {H H' : Hp} {p q : Addr} {S : List Addr} (h : PoolAt H p q) (f : Fr S H H') (n1 : p ∉ S) (n2 : q ∉ S) : PoolAt H' p q := by
  obtain ⟨ns, i, d, s, P⟩ := h
  exact ⟨ns, i, d, s, ⟨f _ _ P.hp n1, f _ _ P.hq n2, P.ne, P.nn, P.hi, P.hd, P.hs, P.hs2⟩⟩
theorem PoolAt.same {H H' : Hp} {p q : Addr} (h : PoolAt H p q) (f : Same H H') : PoolAt H' p q := h.fr (S := []) (Fr.of f) (by simp) (by simp)
theorem PoolAt.take {H : Hp} {p q : Addr} (h : PoolAt H p q) : ∃ ns i d s, Pool H p q ns i d s ∧ (2 = 1 → 0 < d) := by
  obtain ⟨ns, i, d, s, P⟩ := h
  exact ⟨ns, i, d, s, P, fun e => absurd e (by decide)⟩
theorem PoolAt.ex {H : Hp} {p q : Addr} (h : PoolAt H p q) : (∃ o, H p = some o) ∧ (∃ o, H q = some o) ∧ p ≠ q := by
  obtain ⟨ns, i, d, s, P⟩ := h
  exact ⟨⟨_, P.hp⟩, ⟨_, P.hq⟩, P.ne.symm⟩
theorem len_pool {K : PySem.W.Frag} : ∀ vs H Q E, sp_pool K vs H Q E → vs.length = 1 := fun vs H Q E h => by
  unfold sp_pool at h
  split at h
  · rfl
  · exact h.elim
theorem len_take {n : Nat} : ∀ vs H Q E, sp_take n vs H Q E → vs.length = 2 := fun vs H Q E h => by
  unfold sp_take at h
  split at h
  · rfl
  · exact h.elim
theorem mapInt_get {ns : List Int} {i : Nat} {x : V} (h : (ns.map V.int)[i]? = some x) : ∃ z, x = .int z ∧ ns[i]? = some z := by
  rw [List.getElem?_map] at h
  cases e : ns[i]? with
  | none => rw [e] at h; cases h
  | some z => rw [e] at h; exact ⟨z, (Option.some.inj h).symm, rfl⟩
theorem r_Lpool {K : PySem.W.Frag} {vs : List V} {H : Hp} {Q : VK} {E : XK} (h : sp_pool K vs H Q E) : t_Lpool K (Dn Q) (start ["_law_script", "_law_cell"] vs) H := by
  unfold sp_pool at h
  split at h
  · rename_i a
    obtain ⟨ns, hs, hl, k⟩ := h
    unfold t_Lpool tRet tLst tCons
    refine lcL ?_ (fun Q Q' i q => i _ _ q)
    refine ⟨a, _, rfl, hs, fun D hD => ?_⟩
    refine ⟨fun i H' => ∃ ms : List Int, H' D = some (.lst (ms.map V.int)) ∧ (∀ n ∈ ms, 0 ≤ n) ∧ ms.length ≤ i ∧ Same H H', ⟨[], upd_same, by simp, Nat.le_refl _, same_new (Same.refl H) hD⟩, fun i H' _ ⟨_, _, _, _, s⟩ => s.seq hs, ?_, ?_⟩
    · rintro i x H' hx ⟨ms, h1, h2, h3, s⟩
      have hil : i < ns.length := by
        have := (List.getElem?_eq_some_iff.mp hx).1
        simpa using this
      obtain ⟨z, rfl, -⟩ := mapInt_get hx
      refine ⟨rfl, ⟨fun _ => ?_, fun e => nomatch e⟩⟩
      have fin : ∀ w : Int, 0 ≤ w → ∃ acc, H' D = some (.lst acc) ∧ acc.length < sizeLine ∧ ∃ ms : List Int, (upd H' D (.lst (acc ++ [V.int w]))) D = some (.lst (ms.map V.int)) ∧ (∀ n ∈ ms, 0 ≤ n) ∧ ms.length ≤ i + 1 ∧ Same H (upd H' D (.lst (acc ++ [V.int w]))) := fun w hw => by
        refine ⟨_, h1, ?_, ms ++ [w], ?_, ?_, ?_, same_loc s hD⟩
        · rw [List.length_map]
          exact small1000 (by omega)
        · rw [upd_same, List.map_append]
          rfl
        · intro n hn
          rcases List.mem_append.mp hn with hn | hn
          · exact h2 n hn
          · simp at hn
            omega
        · simp
          omega
      refine ⟨fun e => ?_, fun e => ?_⟩
      · have e' : 0 ≤ z := of_decide_eq_true e
        exact ⟨.inl ⟨by decide, by decide⟩, fin _ (by omega)⟩
      · have e' : ¬ 0 ≤ z := of_decide_eq_false e
        exact ⟨.inl ⟨by decide, by decide⟩, fin _ (by omega)⟩
    · rintro H' ⟨ms, h1, h2, h3, s⟩
      refine ⟨by show 4 ≤ sizeLine; rw [sizeLine_eq]; omega, fun p hp => ?_⟩
      refine k p D _ (s.free hp) hD ⟨ms, 0, 0, 17, ⟨upd_same, keep_new hp h1, ne_of_none h1 hp, h2, by decide, by decide, by decide, by decide⟩⟩ (same_new s hp)
  · exact h.elim
theorem r_Ltake {K : PySem.W.Frag} {n : Nat} {vs : List V} {H : Hp} {Q : VK} {E : XK} (h : sp_take (n + 1) vs H Q E) : t_Ltake K (sp_take n) (Dn Q) (start ["_law_pool_here", "_law_many", "_law_digit", "_law_cell", "_law_mixed"] vs) H := by
  unfold sp_take at h
  split at h
  · rename_i p m
    obtain ⟨_, q, ⟨ns, i, d, s, P, hd1⟩, hm, hm2, k⟩ := h
    refine ⟨_, _, _, _, rfl, rfl, SqL.of P.hp, rfl, ⟨fun e => ?_, fun e => ?_⟩⟩
    · have e' : 0 < d := of_decide_eq_true e
      refine ⟨_, _, _, _, rfl, rfl, SqL.of P.hp, rfl, ⟨hm, ?_⟩⟩
      refine ⟨_, _, _, _, rfl, rfl, SqL.of P.hp, rfl, ⟨⟨hm, hm2⟩, ?_⟩⟩
      refine ⟨_, _, _, _, rfl, rfl, P.hp, rfl, ?_⟩
      refine k _ _ (Int.emod_nonneg _ (by omega)) (Int.emod_lt_of_pos _ hm) ⟨ns, i, d / m, s, ⟨upd_same, keep_ne P.ne P.hq, P.ne, P.nn, P.hi, Int.ediv_nonneg P.hd (by omega), P.hs, P.hs2⟩⟩ ?_
      exact (Fr.refl _ _).wr (by simp)
    · have e' : ¬ 0 < d := of_decide_eq_false e
      have hn : n ≠ 0 := fun z => by
        subst z
        exact e' (hd1 rfl)
      refine ⟨_, _, _, _, rfl, rfl, SqL.of P.hp, rfl, ?_⟩
      refine ⟨_, _, _, _, rfl, rfl, SqL.of P.hp, rfl, ⟨_, lenL P.hq, ?_⟩⟩
      have tail : ∀ c : Int, 0 ≤ c → ∀ σ' : St, σ' = [some (.ref p), some (.int m), none, some (.int c), none] →
          (tSeq (tAsg (tOp fAdd (tOp (rIxL K) (tV 0) (tC (.int 1))) (tC (.int 1))) (gSub (tV 0) (tC (.int 1)) rSetL))
 (tSeq (uIfS (tBo (tOp fGe (tV 3) (tOp fPow (tC (.int 10)) (tC (.int 18))))) (tSeq (tAsg (tOp fDiv (tV 3) (tC (.int 2))) (gSub (tV 0) (tC (.int 2)) rSetL))
 (tRet (uCall (sp_take n) E0 (tCons (tV 0) (tCons (tV 1) tNil))))) tNext)
 (tSeq (tAsg (tOp fMod (tCB cInt (tCons (tOp fAdd (tOp fAdd (tOp fMul (tOp (rIxL K) (tV 0) (tC (.int 3))) (tC (.int 48271))) (tOp fMul (tV 3) (tC (.int 69621)))) (tOp fMul (tOp (rIxL K) (tV 0) (tC (.int 1))) (tC (.int 613)))) tNil)) (tC (.int 2147483647))) (gSub (tV 0) (tC (.int 3)) rSetL))
 (tSeq (tAsg (tOp fMod (tCB cInt (tCons (tOp fAdd (tOp fAdd (tOp fMul (tOp (rIxL K) (tV 0) (tC (.int 3))) (tOp (rIxL K) (tV 0) (tC (.int 3)))) (tOp fMul (tOp (rIxL K) (tV 0) (tC (.int 3))) (tC (.int 7919)))) (tC (.int 104729))) tNil)) (tC (.int 1000000007))) (gName 4))
 (tRet (tOp fMod (tCB cInt (tCons (tOp fDiv (tV 4) (tC (.int 3))) tNil)) (tV 1))))))) (Dn Q) σ' H := by
        rintro c hc σ' rfl
        refine ⟨_, _, _, _, rfl, rfl, SqL.of P.hp, rfl, ?_⟩
        refine ⟨_, _, _, _, rfl, rfl, P.hp, rfl, ?_⟩
        refine ⟨⟨by decide, by decide, by decide⟩, ⟨fun e2 => ?_, fun e2 => ?_⟩⟩
        · have e3 : (10 : Int) ^ (Int.toNat 18) ≤ c := of_decide_eq_true e2
          have e4 : (10 : Int) ^ (Int.toNat 18) = 1000000000000000000 := by decide
          refine ⟨⟨by decide, by decide⟩, ?_⟩
          refine ⟨_, _, _, _, rfl, rfl, upd_same, rfl, ?_⟩
          refine ⟨by omega, q, ⟨ns, i + 1, c / 2, s, ⟨upd_same, keep_ne P.ne (keep_ne P.ne P.hq), P.ne, P.nn, by have := P.hi; omega, by omega, P.hs, P.hs2⟩, fun _ => by omega⟩, hm, hm2, fun r H' h0 h1 h2 h3 => ?_⟩
          exact k r H' h0 h1 h2 ((((Fr.refl [p] H).wr (by simp)).wr (by simp)).trans h3)
        · refine ⟨_, _, _, _, rfl, rfl, SqL.of upd_same, rfl, ⟨.inr ⟨by decide, by decide⟩, ⟨.inr ⟨by decide, by decide⟩, ?_⟩⟩⟩
          refine ⟨_, _, _, _, rfl, rfl, SqL.of upd_same, rfl, ⟨.inr ⟨by decide, by decide⟩, ⟨(show (0 : Int) < 2147483647 by decide), ?_⟩⟩⟩
          refine ⟨_, _, _, _, rfl, rfl, upd_same, rfl, ?_⟩
          have hs1 : 0 ≤ (s * 48271 + c * 69621 + (i + 1) * 613) % 2147483647 ∧ (s * 48271 + c * 69621 + (i + 1) * 613) % 2147483647 < 2147483647 := by omega
          refine ⟨_, _, _, _, rfl, rfl, SqL.of upd_same, rfl, ?_⟩
          refine ⟨_, _, _, _, rfl, rfl, SqL.of upd_same, rfl, ⟨.inl ⟨by show -(2 ^ 64) < (s * 48271 + c * 69621 + (i + 1) * 613) % 2147483647; omega, by show (s * 48271 + c * 69621 + (i + 1) * 613) % 2147483647 < 2 ^ 64; omega⟩, ?_⟩⟩
          refine ⟨_, _, _, _, rfl, rfl, SqL.of upd_same, rfl, ⟨.inr ⟨by decide, by decide⟩, ⟨(show (0 : Int) < 1000000007 by decide), ?_⟩⟩⟩
          refine ⟨⟨by decide, by decide⟩, ⟨hm, ?_⟩⟩
          refine k _ _ (Int.emod_nonneg _ (by omega)) (Int.emod_lt_of_pos _ hm) ⟨ns, i + 1, d, (s * 48271 + c * 69621 + (i + 1) * 613) % 2147483647, ⟨upd_same, keep_ne P.ne (keep_ne P.ne P.hq), P.ne, P.nn, by have := P.hi; omega, P.hd, hs1.1, hs1.2⟩⟩ ?_
          exact ((Fr.refl [p] H).wr (by simp)).wr (by simp)
      refine ⟨fun e2 => ?_, fun e2 => ?_⟩
      · have e3 : i < ((ns.map V.int).length : Nat) := of_decide_eq_true e2
        rw [List.length_map] at e3
        have hi := P.hi
        have hil : i.toNat < ns.length := by omega
        refine ⟨_, _, _, _, rfl, rfl, SqL.of P.hp, rfl, ?_⟩
        refine ⟨_, _, _, _, rfl, rfl, SqL.of P.hp, rfl, ?_⟩
        refine .inl ⟨_, _, _, .int ns[i.toNat], rfl, rfl, SqL.of P.hq, atNat hi (by rw [List.getElem?_map, List.getElem?_eq_getElem hil]; rfl), ?_⟩
        exact tail _ (P.nn _ (List.getElem_mem hil)) _ rfl
      · exact tail 0 (by decide) _ rfl
  · exact h.elim
end Co
end

section
set_option maxHeartbeats 4000000
namespace Co
open PySem PySem.Spec PyProof.Rows L2
def dle : Nat → PyData → Prop
  | _, .none => True
  | _, .bool _ => True
  | _, .int _ => True
  | _, .str _ => True
  | n + 1, .list ds => ds.length ≤ 1000000 ∧ ∀ d ∈ ds, dle n d
  | n + 1, .tuple ds => ds.length ≤ 1000000 ∧ ∀ d ∈ ds, dle n d
  | _, _ => False
def sp_same (K : PySem.W.Frag) (n : Nat) : Sp := fun vs H Q _ => match vs with
  | [x, y] => ∃ d m, n = m + 1 ∧ dle m d ∧ Dp K H x d ∧ Dp K H y d ∧ ∀ H', Same H H' → Q (.bl true) H'
  | _ => False
theorem len_same {K : PySem.W.Frag} {n : Nat} : ∀ vs H Q E, sp_same K n vs H Q E → vs.length = 2 := fun vs H Q E h => by
  unfold sp_same at h
  split at h
  · rfl
  · exact h.elim
def sp_isint : Sp := fun vs H Q _ => match vs with
  | [.int i] => Q (.bl true) H
  | _ => False
theorem len_isint : ∀ vs H Q E, sp_isint vs H Q E → vs.length = 1 := fun vs H Q E h => by
  unfold sp_isint at h
  split at h
  · rfl
  · exact h.elim
def t_Lis_integer (K : PySem.W.Frag) : TS :=
 (tRet (uAndV (tCB (cIsi K) (tCons (tV 0) (tCons (tC (.ty "int")) tNil))) (uNotV (tCB (cIsi K) (tCons (tV 0) (tCons (tC (.ty "bool")) tNil))))))
theorem r_Lis_integer {K : PySem.W.Frag} {x : Str} {vs : List V} {H : Hp} {Q : VK} {E : XK} (h : sp_isint vs H Q E) : t_Lis_integer K (Dn Q) (start [x] vs) H := by
  unfold sp_isint at h
  split at h
  · exact ⟨fun _ => h, fun e => nomatch e⟩
  · exact h.elim
theorem ixA {K : PySem.W.Frag} {H : Hp} {a : Addr} {xs : List V} {i : Nat} {v : V} {Q : VK} (h : SqA K H a xs) (e : xs[i]? = some v) (q : Q v H) : rIx K (.ref a) (.int (i : Int)) H Q := by
  rcases h with h | h
  · exact .inl ⟨_, _, _, _, rfl, rfl, h, atI_nat e, q⟩
  · exact .inr (.inl ⟨_, _, _, _, rfl, rfl, h, atI_nat e, q⟩)
theorem sqA_same {K : PySem.W.Frag} {H H' : Hp} {a : Addr} {xs : List V} (e : Same H H') (h : SqA K H a xs) : SqA K H' a xs := h.elim (fun h => .inl (e.seq h)) fun h => .inr (sqT_same e h)
abbrev tAlls (K : PySem.W.Frag) (sp : Sp) : TE := tCB (rAll K) (tCons (uLc (iRng1 (tCons (tCB (cLenA K) (tCons (tV 1) tNil)) tNil)) (gName 2) tYes (uCall sp E0 (tCons (tOp (rIx K) (tV 0) (tV 2)) (tCons (tOp (rIx K) (tV 1) (tV 2)) tNil))) ([("_law_k", 2)].map (·.2))) tNil)
theorem all_same {K : PySem.W.Frag} {n : Nat} {a b : Addr} {z : Option V} {xs ys : List V} {ds : List PyData} {H : Hp} {Q : VK} (ha : SqA K H a xs) (hb : SqA K H b ys) (dx : DpAll K H xs ds) (dy : DpAll K H ys ds) (hl : ds.length ≤ 1000000) (hd : ∀ d ∈ ds, dle n d)
    (k : ∀ H', Same H H' → Q (.bl true) H') : tAlls K (sp_same K (n + 1)) [some (.ref a), some (.ref b), z] H Q := by
  have lx := dpAll_length dx
  have ly := dpAll_length dy
  unfold tAlls tCB tCons
  refine lcR ?_ (fun Q Q' i ⟨n, h, q⟩ => ⟨n, h, i _ _ q⟩)
  refine ⟨ys.length, .inl ⟨ys, hb, rfl⟩, _, rfl, by omega, by omega, fun D hD => ⟨fun i H' => H' D = some (.lst ((List.replicate i true).map V.bl)) ∧ Same H H', ⟨upd_same, same_new (Same.refl H) hD⟩, ?_, ?_⟩⟩
  · rintro i H' hi ⟨h1, s⟩
    have hi' : i < ds.length := by omega
    obtain ⟨x, ex, px⟩ := dpAll_get dx (List.getElem?_eq_getElem hi')
    obtain ⟨y, ey, py⟩ := dpAll_get dy (List.getElem?_eq_getElem hi')
    refine ⟨rfl, ⟨fun _ => ?_, fun e => nomatch e⟩⟩
    refine ixA (sqA_same s ha) ex ?_
    refine ixA (sqA_same s hb) ey ?_
    refine ⟨_, n, rfl, hd _ (List.getElem_mem hi'), dp_mono s px, dp_mono s py, fun H2 s2 => ?_⟩
    refine ⟨_, s2 _ _ h1, ?_, ?_, same_loc (s.trans s2) hD⟩
    · rw [List.length_map, List.length_replicate]
      have : sizeLine = 16777216 := sizeLine_eq
      omega
    · rw [upd_same, List.replicate_succ', List.map_append]
      rfl
  · rintro H' ⟨h1, s⟩
    refine ⟨D, _, rfl, SqL.of h1, ?_⟩
    have e : (List.replicate ((ys.length : Int)).toNat true).all id = true := by
      rw [List.all_eq_true]
      intro x hx
      exact (List.mem_replicate.mp hx).2
    rw [e]
    exact k _ s
def t_LsameA (K : PySem.W.Frag) (sp : Sp) : TS :=
 (tSeq (uIfS (tBo (tCB (cIsi K) (tCons (tV 1) (tCons (tC (.ty "tuple")) tNil)))) (tSeq (uIfS (uOr (tNot (tBo (tCB (cIsi K) (tCons (tV 0) (tCons (tC (.ty "tuple")) tNil))))) (tBo (tOp fNe (tCB (cLenA K) (tCons (tV 0) tNil)) (tCB (cLenA K) (tCons (tV 1) tNil))))) (tRet (tC (.bl false))) tNext)
 (tRet (tCB (rAll K) (tCons (uLc (iRng1 (tCons (tCB (cLenA K) (tCons (tV 1) tNil)) tNil)) (gName 2) tYes (uCall sp E0 (tCons (tOp (rIx K) (tV 0) (tV 2)) (tCons (tOp (rIx K) (tV 1) (tV 2)) tNil))) ([("_law_k", 2)].map (·.2))) tNil)))) tNext)
 (tSeq (uIfS (tBo (tCB (cIsi K) (tCons (tV 1) (tCons (tC (.ty "list")) tNil)))) (tSeq (uIfS (uOr (tNot (tBo (tCB (cIsi K) (tCons (tV 0) (tCons (tC (.ty "list")) tNil))))) (tBo (tOp fNe (tCB (cLenA K) (tCons (tV 0) tNil)) (tCB (cLenA K) (tCons (tV 1) tNil))))) (tRet (tC (.bl false))) tNext)
 (tRet (tCB (rAll K) (tCons (uLc (iRng1 (tCons (tCB (cLenA K) (tCons (tV 1) tNil)) tNil)) (gName 2) tYes (uCall sp E0 (tCons (tOp (rIx K) (tV 0) (tV 2)) (tCons (tOp (rIx K) (tV 1) (tV 2)) tNil))) ([("_law_k", 2)].map (·.2))) tNil)))) tNext)
 (tSeq (uIfS (tBo (tIs (tV 1))) (tRet (tIs (tV 0))) tNext)
 (tSeq (uIfS (tBo (tCB (cIsi K) (tCons (tV 1) (tCons (tC (.ty "bool")) tNil)))) (tRet (uAndV (tCB (cIsi K) (tCons (tV 0) (tCons (tC (.ty "bool")) tNil))) (tOp fEq (tV 0) (tV 1)))) tNext)
 (tSeq (uIfS (tBo (tCB (cIsi K) (tCons (tV 1) (tCons (tC (.ty "str")) tNil)))) (tRet (uAndV (tCB (cIsi K) (tCons (tV 0) (tCons (tC (.ty "str")) tNil))) (tOp fEq (tV 0) (tV 1)))) tNext)
 (tRet (uAndV (uCall sp_isint E0 (tCons (tV 0) tNil)) (tOp fEq (tV 0) (tV 1)))))))))
def t_LsameB (K : PySem.W.Frag) (sp : Sp) : TS :=
 (tSeq (uIfS (tBo (tIs (tV 1))) (tRet (tIs (tV 0))) tNext)
 (tSeq (uIfS (uOr (tBo (tOp fNe (tCB (cIsi K) (tCons (tV 1) (tCons (tC (.ty "tuple")) tNil))) (tCB (cIsi K) (tCons (tV 0) (tCons (tC (.ty "tuple")) tNil))))) (tBo (tOp fNe (tCB (cIsi K) (tCons (tV 1) (tCons (tC (.ty "list")) tNil))) (tCB (cIsi K) (tCons (tV 0) (tCons (tC (.ty "list")) tNil)))))) (tRet (tC (.bl false))) tNext)
 (tSeq (uIfS (uOr (tBo (tCB (cIsi K) (tCons (tV 1) (tCons (tC (.ty "tuple")) tNil)))) (tBo (tCB (cIsi K) (tCons (tV 1) (tCons (tC (.ty "list")) tNil))))) (tRet (uAndV (tOp fEq (tCB (cLenA K) (tCons (tV 0) tNil)) (tCB (cLenA K) (tCons (tV 1) tNil))) (tCB (rAll K) (tCons (uLc (iRng1 (tCons (tCB (cLenA K) (tCons (tV 1) tNil)) tNil)) (gName 2) tYes (uCall sp E0 (tCons (tOp (rIx K) (tV 0) (tV 2)) (tCons (tOp (rIx K) (tV 1) (tV 2)) tNil))) ([("_law_k", 2)].map (·.2))) tNil)))) tNext)
 (tSeq (uIfS (uOr (tBo (tOp fNe (tCB (cIsi K) (tCons (tV 1) (tCons (tC (.ty "bool")) tNil))) (tCB (cIsi K) (tCons (tV 0) (tCons (tC (.ty "bool")) tNil))))) (tBo (tOp fNe (tCB (cIsi K) (tCons (tV 1) (tCons (tC (.ty "str")) tNil))) (tCB (cIsi K) (tCons (tV 0) (tCons (tC (.ty "str")) tNil)))))) (tRet (tC (.bl false))) tNext)
 (tRet (uAndV (tOp fEq (tCB (cIsi K) (tCons (tV 1) (tCons (tC (.ty "int")) tNil))) (tCB (cIsi K) (tCons (tV 0) (tCons (tC (.ty "int")) tNil)))) (tOp fEq (tV 0) (tV 1))))))))
theorem isi_l {K : PySem.W.Frag} {H : Hp} {p : Addr} {xs : List V} {c : String} {Q : VK} (h : SqL K H p xs) (hc : c = "tuple" ∨ c = "list" ∨ c = "dict" ∨ c = "int" ∨ c = "str" ∨ c = "bool") (q : Q (.bl (decide ("list" = c))) H) : cIsi K [.ref p, .ty c] H Q := ⟨"list", tyx_l h, ⟨.inl rfl, hc⟩, q⟩
theorem isi_t {K : PySem.W.Frag} {H : Hp} {p : Addr} {xs : List V} {c : String} {Q : VK} (h : SqT K H p xs) (hc : c = "tuple" ∨ c = "list" ∨ c = "dict" ∨ c = "int" ∨ c = "str" ∨ c = "bool") (q : Q (.bl (decide ("tuple" = c))) H) : cIsi K [.ref p, .ty c] H Q := ⟨"tuple", tyx_t h, ⟨.inr (.inl rfl), hc⟩, q⟩
theorem two1 {c : Bool} {p q : Prop} (e : c = true) (h : p) : two c p q := by
  subst e
  exact twoT h
theorem two0 {c : Bool} {p q : Prop} (e : c = false) (h : q) : two c p q := by
  subst e
  exact twoF h
local macro_rules | `(tactic| walk_at "no") => `(tactic| refine ⟨fun e => absurd e (by decide), fun _ => ?_⟩)
local macro_rules | `(tactic| walk_at "yes") => `(tactic| refine ⟨fun _ => ?_, fun e => absurd e (by decide)⟩)
local macro_rules | `(tactic| walk_at "isl") => `(tactic| refine ⟨"list", tyx_l (by assumption), ⟨.inl rfl, by decide⟩, ?_⟩)
local macro_rules | `(tactic| walk_at "ist") => `(tactic| refine ⟨"tuple", tyx_t (by assumption), ⟨.inr (.inl rfl), by decide⟩, ?_⟩)
theorem r_LsameB {K : PySem.W.Frag} {n : Nat} {x y : Str} {vs : List V} {H : Hp} {Q : VK} {E : XK} (h : sp_same K (n + 1) vs H Q E) : t_LsameB K (sp_same K n) (Dn Q) (start [x, y, "_law_k"] vs) H := by
  unfold sp_same at h
  split at h
  · obtain ⟨d, m, e, hd, h1, h2, k⟩ := h
    cases e
    cases d with
    | none =>
      cases h1
      cases h2
      exact ⟨fun _ => k _ (Same.refl _), fun e => nomatch e⟩
    | bool b =>
      cases h1
      cases h2
      refine ⟨fun e => (nomatch e), fun _ => ?_⟩
      walk_at "no"; walk_at "no"
      walk_at "no"; walk_at "no"
      walk_at "no"; walk_at "no"
      refine ⟨fun _ => ?_, fun e => (nomatch e)⟩
      show Q (.bl (decide (b = b))) H
      rw [decide_eq_true rfl]
      exact k _ (Same.refl _)
    | int i =>
      cases h1
      cases h2
      refine ⟨fun e => (nomatch e), fun _ => ?_⟩
      walk_at "no"; walk_at "no"
      walk_at "no"; walk_at "no"
      walk_at "no"; walk_at "no"
      refine ⟨fun _ => ?_, fun e => (nomatch e)⟩
      show Q (.bl (decide (i = i))) H
      rw [decide_eq_true rfl]
      exact k _ (Same.refl _)
    | str i =>
      cases h1
      cases h2
      refine ⟨fun e => (nomatch e), fun _ => ?_⟩
      walk_at "no"; walk_at "no"
      walk_at "no"; walk_at "no"
      walk_at "no"; walk_at "no"
      refine ⟨fun _ => ?_, fun e => (nomatch e)⟩
      show Q (.bl (decide (i = i))) H
      rw [decide_eq_true rfl]
      exact k _ (Same.refl _)
    | list ds =>
      cases n with
      | zero => exact hd.elim
      | succ m =>
      cases h1 with
      | lst hx dx =>
      cases h2 with
      | lst hy dy =>
      refine ⟨fun e => (nomatch e), fun _ => ?_⟩
      walk_at "isl"; walk_at "isl"; walk_at "no"; walk_at "isl"; walk_at "isl"; walk_at "no"
      walk_at "isl"; walk_at "no"; walk_at "isl"; walk_at "yes"
      refine ⟨_, .inl ⟨_, .inl hx, rfl⟩, _, .inl ⟨_, .inl hy, rfl⟩, ?_⟩
      refine two1 (decide_eq_true ?_) ?_
      · rw [dpAll_length dx, dpAll_length dy]
      · exact all_same (.inl hx) (.inl hy) dx dy hd.1 hd.2 k
    | tuple ds =>
      cases n with
      | zero => exact hd.elim
      | succ m =>
      cases h1 with
      | tup hx dx =>
      cases h2 with
      | tup hy dy =>
      refine ⟨fun e => (nomatch e), fun _ => ?_⟩
      walk_at "ist"; walk_at "ist"; walk_at "no"; walk_at "ist"; walk_at "ist"; walk_at "no"
      walk_at "ist"; walk_at "yes"; walk_at "yes"
      refine ⟨_, .inl ⟨_, .inr hx, rfl⟩, _, .inl ⟨_, .inr hy, rfl⟩, ?_⟩
      refine two1 (decide_eq_true ?_) ?_
      · rw [dpAll_length dx, dpAll_length dy]
      · exact all_same (.inr hx) (.inr hy) dx dy hd.1 hd.2 k
    | dict _ => cases h1
  · exact h.elim
theorem r_LsameA {K : PySem.W.Frag} {n : Nat} {x y : Str} {vs : List V} {H : Hp} {Q : VK} {E : XK} (h : sp_same K (n + 1) vs H Q E) : t_LsameA K (sp_same K n) (Dn Q) (start [x, y, "_law_k"] vs) H := by
  unfold sp_same at h
  split at h
  · obtain ⟨d, m, e, hd, h1, h2, k⟩ := h
    cases e
    cases d with
    | none =>
      cases h1
      cases h2
      walk_at "no"; walk_at "no"
      exact ⟨fun _ => k _ (Same.refl _), fun e => nomatch e⟩
    | bool b =>
      cases h1
      cases h2
      walk_at "no"; walk_at "no"
      refine ⟨fun e => (nomatch e), fun _ => ?_⟩
      walk_at "yes"; walk_at "yes"
      show Q (.bl (decide (b = b))) H
      rw [decide_eq_true rfl]
      exact k _ (Same.refl _)
    | int i =>
      cases h1
      cases h2
      walk_at "no"; walk_at "no"
      refine ⟨fun e => (nomatch e), fun _ => ?_⟩
      walk_at "no"; walk_at "no"
      walk_at "yes"
      show Q (.bl (decide (i = i))) H
      rw [decide_eq_true rfl]
      exact k _ (Same.refl _)
    | str i =>
      cases h1
      cases h2
      walk_at "no"; walk_at "no"
      refine ⟨fun e => (nomatch e), fun _ => ?_⟩
      walk_at "no"; walk_at "yes"; walk_at "yes"
      show Q (.bl (decide (i = i))) H
      rw [decide_eq_true rfl]
      exact k _ (Same.refl _)
    | list ds =>
      cases n with
      | zero => exact hd.elim
      | succ m =>
      cases h1 with
      | lst hx dx =>
      cases h2 with
      | lst hy dy =>
      walk_at "isl"; walk_at "no"; walk_at "isl"; walk_at "yes"; walk_at "isl"; walk_at "no"
      refine ⟨_, .inl ⟨_, .inl hx, rfl⟩, _, .inl ⟨_, .inl hy, rfl⟩, ?_⟩
      refine two0 ?_ ?_
      · rw [dpAll_length dx, dpAll_length dy]
        simp
      · exact all_same (.inl hx) (.inl hy) dx dy hd.1 hd.2 k
    | tuple ds =>
      cases n with
      | zero => exact hd.elim
      | succ m =>
      cases h1 with
      | tup hx dx =>
      cases h2 with
      | tup hy dy =>
      walk_at "ist"; walk_at "yes"; walk_at "ist"; walk_at "no"
      refine ⟨_, .inl ⟨_, .inr hx, rfl⟩, _, .inl ⟨_, .inr hy, rfl⟩, ?_⟩
      refine two0 ?_ ?_
      · rw [dpAll_length dx, dpAll_length dy]
        simp
      · exact all_same (.inr hx) (.inr hy) dx dy hd.1 hd.2 k
    | dict _ => cases h1
  · exact h.elim
end Co
end

section
set_option maxHeartbeats 4000000
namespace Co
open PySem PySem.Spec PyProof.Rows L2
theorem zip_lookup : ∀ {ks : List Str} {vs : List V} {f : Str} {i : Nat} {v : V}, ks.findIdx? (fun g => decide (g = f)) = some i → vs[i]? = some v → (ks.zip vs).lookup f = some v
  | [], _, _, _, _, h, _ => by simp at h
  | k :: ks, [], _, _, _, _, h => by simp at h
  | k :: ks, w :: vs, f, i, v, h, e => by
    rw [List.zip_cons_cons]
    by_cases z : k = f
    · subst z
      simp [List.findIdx?_cons] at h
      subst h
      simp at e
      subst e
      simp [List.lookup]
    · rw [List.findIdx?_cons] at h
      simp only [decide_eq_false z, Bool.false_eq_true, if_false] at h
      rw [Option.map_eq_some_iff] at h
      obtain ⟨j, h1, h2⟩ := h
      subst h2
      have e' : (f == k) = false := beq_eq_false_iff_ne.mpr fun q => z q.symm
      rw [List.lookup_cons, e']
      exact zip_lookup h1 (by simpa using e)
theorem zip_none : ∀ {ks : List Str} {vs : List V} {f : Str}, ks.all (fun g => decide (g ≠ f)) = true → (ks.zip vs).lookup f = none
  | [], _, _, _ => rfl
  | k :: ks, [], _, _ => rfl
  | k :: ks, w :: vs, f, h => by
    rw [List.all_cons, Bool.and_eq_true] at h
    have e' : (f == k) = false := beq_eq_false_iff_ne.mpr fun q => of_decide_eq_true h.1 q.symm
    rw [List.zip_cons_cons, List.lookup_cons, e']
    exact zip_none h.2
theorem zip_putF : ∀ {ks : List Str} {vs : List V} {f : Str} {i : Nat} {v : V}, ks.findIdx? (fun g => decide (g = f)) = some i → i < vs.length → putF f v (ks.zip vs) = ks.zip (vs.set i v)
  | [], _, _, _, _, h, _ => by simp at h
  | k :: ks, [], _, _, _, _, h => by simp at h
  | k :: ks, w :: vs, f, i, v, h, e => by
    rw [List.zip_cons_cons]
    by_cases z : k = f
    · subst z
      simp [List.findIdx?_cons] at h
      subst h
      simp [putF]
    · rw [List.findIdx?_cons] at h
      simp only [decide_eq_false z, Bool.false_eq_true, if_false] at h
      rw [Option.map_eq_some_iff] at h
      obtain ⟨j, h1, h2⟩ := h
      subst h2
      show (if k = f then _ else _) = _
      rw [if_neg z, zip_putF h1 (by simpa using e), List.set_cons_succ, List.zip_cons_cons]
theorem zip_new : ∀ {ks : List Str} {vs : List V} {f : Str} {v : V}, ks.all (fun g => decide (g ≠ f)) = true → ks.length = vs.length → putF f v (ks.zip vs) = (ks ++ [f]).zip (vs ++ [v])
  | [], [], f, v, _, _ => rfl
  | [], _ :: _, _, _, _, e => by simp at e
  | _ :: _, [], _, _, _, e => by simp at e
  | k :: ks, w :: vs, f, v, h, e => by
    rw [List.all_cons, Bool.and_eq_true] at h
    rw [List.zip_cons_cons]
    show (if k = f then _ else _) = _
    rw [if_neg (of_decide_eq_true h.1), zip_new h.2 (by simpa using e)]
    rfl
theorem zip_val {κ : Type} [DecidableEq κ] : ∀ {ks : List κ} {vs : List V} {f : κ} {i : Nat} {v : V}, ks.findIdx? (fun g => decide (g = f)) = some i → vs[i]? = some v → valV (ks.zip vs) f = some v
  | [], _, _, _, _, h, _ => by simp at h
  | k :: ks, [], _, _, _, _, h => by simp at h
  | k :: ks, w :: vs, f, i, v, h, e => by
    rw [List.zip_cons_cons]
    by_cases z : k = f
    · subst z
      simp [List.findIdx?_cons] at h
      subst h
      simp at e
      subst e
      exact valV_pos rfl
    · rw [List.findIdx?_cons] at h
      simp only [decide_eq_false z, Bool.false_eq_true, if_false] at h
      rw [Option.map_eq_some_iff] at h
      obtain ⟨j, h1, h2⟩ := h
      subst h2
      rw [valV_neg (p := (k, w)) z]
      exact zip_val h1 (by simpa using e)
theorem putK_pos {κ : Type} [DecidableEq κ] {p : κ × V} {r : List (κ × V)} {k : κ} {v : V} (e : p.1 = k) (hn : ∀ q ∈ r, q.1 ≠ k) : putK (p :: r) k v = (k, v) :: r := by
  unfold putK
  have h : ((p :: r).any fun kv => decide (kv.1 = k)) = true := by simp [e]
  rw [if_pos h, List.map_cons, if_pos e]
  congr 1
  · rw [e]
  · rw [List.map_congr_left (g := id) fun q hq => by rw [if_neg (hn q hq)]; rfl]
    simp
theorem zip_mem_fst {κ : Type} : ∀ {ks : List κ} {vs : List V} {q : κ × V}, q ∈ ks.zip vs → q.1 ∈ ks := fun {ks vs q} h => (List.of_mem_zip (a := q.1) (b := q.2) h).1
theorem zip_putK {κ : Type} [DecidableEq κ] : ∀ {ks : List κ} {vs : List V} {f : κ} {i : Nat} {v : V}, ks.Nodup → ks.findIdx? (fun g => decide (g = f)) = some i → i < vs.length → putK (ks.zip vs) f v = ks.zip (vs.set i v)
  | [], _, _, _, _, _, h, _ => by simp at h
  | k :: ks, [], _, _, _, _, _, h => by simp at h
  | k :: ks, w :: vs, f, i, v, hn, h, e => by
    rw [List.nodup_cons] at hn
    rw [List.zip_cons_cons]
    by_cases z : k = f
    · subst z
      simp [List.findIdx?_cons] at h
      subst h
      rw [putK_pos rfl fun q hq (e : q.1 = k) => hn.1 (by rw [← e]; exact zip_mem_fst hq)]
      rfl
    · rw [List.findIdx?_cons] at h
      simp only [decide_eq_false z, Bool.false_eq_true, if_false] at h
      rw [Option.map_eq_some_iff] at h
      obtain ⟨j, h1, h2⟩ := h
      subst h2
      have ih := zip_putK (v := v) hn.2 h1 (vs := vs) (by simpa using e)
      rw [List.set_cons_succ, List.zip_cons_cons, ← ih]
      unfold putK
      have ha : ((((k, w) : κ × V) :: ks.zip vs).any fun kv => decide (kv.1 = f)) = ((ks.zip vs).any fun kv => decide (kv.1 = f)) := by
        rw [List.any_cons, decide_eq_false z, Bool.false_or]
      rw [ha]
      split
      · rw [List.map_cons, if_neg z]
      · rfl
theorem mergeK_zip : ∀ {ks : List Key} {vs : List V} {acc : List (Key × V)}, ks.Nodup → (∀ k ∈ ks, valV acc k = none) → mergeK acc (ks.zip vs) = acc ++ ks.zip vs
  | [], _, _, _, _ => by simp [mergeK]
  | k :: ks, [], _, _, _ => by simp [mergeK]
  | k :: ks, v :: vs, acc, hn, h => by
    rw [List.nodup_cons] at hn
    rw [List.zip_cons_cons]
    show mergeK (putK acc k v) (ks.zip vs) = _
    have hk := h k List.mem_cons_self
    rw [putK_new v hk, mergeK_zip hn.2 fun j hj => ?_]
    · simp
    · rw [valV_snoc k j v acc hk]
      rw [if_neg (show ¬ j = k from fun e => hn.1 (by rw [← e]; exact hj))]
      exact h j (List.mem_cons_of_mem _ hj)
theorem mergeK_zip0 {ks : List Key} {vs : List V} (h : ks.Nodup) : mergeK [] (ks.zip vs) = ks.zip vs := mergeK_zip h fun _ _ => rfl
def uWhile (c : TT) (tb : TS) : TS := fun D σ H => ∃ W : Nat → St → Hp → Prop, (∃ m, W m σ H) ∧ ∀ m σ H, W m σ H →
  c σ H fun b H1 => two b (tb { D with nx := fun σ' H' => ∃ m', m' < m ∧ W m' σ' H', ct := fun σ' H' => ∃ m', m' < m ∧ W m' σ' H', bk := D.nx } σ H1) (D.nx σ H1)
theorem s_while {X : Cx} {pos : Pos} {c : Expr} {body : List Stmt} {tc : TT} {tb : TS} (hp : PassesOwn (model X.prog X.w) X.A X.env X.xe) (hc : PT X c tc) (hb : PSs X body tb) : PS X (.While c body [] pos) (uWhile tc tb) := by
  have hc' : PT X c fun σ H Q => tc σ H Q := hc
  refine ⟨fun pins s σ H D I h => ?_⟩
  obtain ⟨W, ⟨m0, w0⟩, turn⟩ := h
  refine wpAny_While (codeAny_whileLoop (fun n s' => ∃ σ' H', Inv X pins σ' H' s' ∧ W n σ' H') ?_ m0 ⟨σ, H, I, w0⟩)
  rintro n s1 ⟨σ1, H1, I1, w1⟩
  refine wpAny_passesOwn hp (thn (hc.run pins s1 σ1 H1 _ I1 (turn n σ1 H1 w1)) fun b s2 ⟨H2, I2, q2⟩ => ?_)
  cases b with
  | true =>
    rw [if_pos rfl]
    refine wpAny_passesOwn hp (thn (hb.run pins s2 σ1 H2 _ I2 (q2.1 rfl)) fun f s3 q3 => ?_)
    cases f with
    | next =>
      obtain ⟨σ3, H3, I3, m', hm, w3⟩ := q3
      exact ⟨m', hm, σ3, H3, I3, w3⟩
    | cont =>
      obtain ⟨σ3, H3, I3, m', hm, w3⟩ := q3
      exact ⟨m', hm, σ3, H3, I3, w3⟩
    | brk => exact q3
    | ret v => exact q3
  | false =>
    rw [if_neg Bool.false_ne_true]
    exact wpAny_execs_nil ⟨σ1, H2, I2, q2.2 rfl⟩
theorem fn_to0 {P : Program} {w : World} {K : PySem.W.Frag} {mg : Str → Option Value} {base : Heap} {k : Nat} {f : Addr} {fd : FuncData} {ps : List Str} {sp : Sp} (F : FnOk P w K mg base (L2.CX P w) k f fd ps sp) (hE : ∀ vs H Q E, sp vs H Q E → sp vs H Q E0) : FnOk P w K mg base CX0 k f fd ps sp :=
  ⟨F.len, fun A outer s H args us vs Q E hr he hb hv hs => codeAny_mono (F.run A outer s H args us vs Q E0 hr he hb hv (hE _ _ _ _ hs)) fun r s' hq => by
    cases r with
    | error e =>
      obtain ⟨_, _, _, _, _, _, _, _, _, _, _, _, z⟩ := (show L2.CX P w outer H s E0 e s' from hq)
      exact z.elim
    | ok fl => cases fl <;> exact hq⟩
theorem fn_by {P : Program} {w : World} {K : PySem.W.Frag} {mg : Str → Option Value} {base : Heap} {k : Nat} {f : Addr} {ps : List Str} {sp : Sp} {x qual : Str} {params : Arguments} {body : List Stmt} {scope : Scope} {fd : FuncData} {N : List Str} (F : FunD K x qual params body scope [] [] f fd) (S : FnScope N ps scope)
    (len : ∀ vs H Q E, sp vs H Q E → vs.length = ps.length)
    (hbody : ∀ (cdv : Value) (A : Around) (outer : List Env) (s : Shared) (H : Hp) (vs : List V) (Q : VK) (E : XK), Room k (A.deeper (envOfC qual scope s.heap.objs.size f cdv)) → sp vs H Q E →
      ∃ t, PSs (cxOf (L2.CX P w) P w K mg base N qual scope f cdv A outer s H E) body t ∧ t { nx := fun _ H' => Q .non H', rt := Q } (start N vs) H) : FnOk P w K mg base (L2.CX P w) (k + 1) f fd ps sp := F.ok S len hbody
end Co
end

section
set_option maxHeartbeats 4000000
namespace Co
open PySem PySem.Spec PyProof.Rows L2
abbrev S (l : List Nat) : Str := ⟨l.toArray⟩
theorem S_cps (l : List Nat) : (S l).cps.toList = l := rfl
theorem S_len (l : List Nat) : (S l).length = l.length := by show l.toArray.size = _; simp
theorem S_eq (z : Str) : z = S z.cps.toList := by cases z; rfl
theorem S_inj {a b : List Nat} (h : S a = S b) : a = b := by
  have := congrArg (fun z => z.cps.toList) h
  simpa using this
section
variable {X : Cx}
theorem MtR.imp {id : String} {r r' : V → List V → Hp → VK → Prop} (h : MtR X id r) (i : ∀ x xs H Q, r' x xs H Q → r x xs H Q) : MtR X id r' := fun pins s σ H x xs v us Q I rx rs q => h pins s σ H x xs v us Q I rx rs (i _ _ _ _ q)
def rSS (g : Str → Str → V) : V → List V → Hp → VK → Prop := fun x xs H Q => match x, xs with
  | .str a, [.str b] => Q (g a b) H
  | _, _ => False
theorem rSS_of {g : Str → Str → V} {x : V} {xs : List V} {H : Hp} {Q : VK} (h : rSS g x xs H Q) : ∃ a b, x = .str a ∧ xs = [.str b] ∧ Q (g a b) H := by
  unfold rSS at h
  split at h
  · exact ⟨_, _, rfl, rfl, h⟩
  · exact h.elim
abbrev rCountS := rSS fun a b => .int (Txt.count a b)
abbrev rRfindS := rSS fun a b => .int (Txt.rfind a b)
theorem m_count : MtR X "str.count" rCountS := MtR.imp mt_count fun _ _ _ _ => rSS_of
theorem m_rfind : MtR X "str.rfind" rRfindS := MtR.imp mt_rfind fun _ _ _ _ => rSS_of
def rJoinS (K : PySem.W.Frag) : V → List V → Hp → VK → Prop := fun x xs H Q => match x, xs with
  | .str a, [.ref p] => ∃ ys : List Str, SqA K H p (ys.map V.str) ∧ (ys.map (·.length)).sum + ys.length * a.length ≤ 16777216 ∧ Q (.str (Txt.join a ys)) H
  | _, _ => False
theorem m_join : MtR X "str.join" (rJoinS X.K) := MtR.imp mt_join fun x xs H Q h => by
  unfold rJoinS at h
  split at h
  · obtain ⟨ys, h1, h2, h3⟩ := h
    exact ⟨_, _, ys, rfl, rfl, h1, h2, h3⟩
  · exact h.elim
end
theorem S_app (a b : List Nat) : S a ++ S b = S (a ++ b) := by
  show Str.append _ _ = _
  unfold Str.append
  simp
theorem joinS : ∀ ls : List (List Nat), Str.join (S []) (ls.map S) = S ls.flatten
  | [] => rfl
  | [a] => by simp [Str.join]
  | a :: b :: r => by
    have ih := joinS (b :: r)
    rw [List.map_cons, List.map_cons, Str.join]
    rw [List.map_cons] at ih
    rw [ih, S_app, S_app]
    simp
    intro x
    exact absurd x (by simp)
theorem joinT (ls : List (List Nat)) : Txt.join (S []) (ls.map S) = S ls.flatten := (PySem.StrLaws.glued_eq_join _ _).trans (joinS ls)
theorem cutS_nat {l : List Nat} {a b : Nat} (h : b ≤ l.length) (h2 : a ≤ l.length) : cutS (S l) (some (a : Int)) (some (b : Int)) = S ((l.drop a).take (b - a)) := by
  unfold cutS
  rw [HT.sIx_nat, HT.sIx_nat, S_len, Nat.min_eq_left h, Nat.min_eq_left h2]
theorem cutS_to {l : List Nat} {b : Nat} (h : b ≤ l.length) : cutS (S l) none (some (b : Int)) = S (l.take b) := by
  unfold cutS
  rw [HT.sIx_nat, HT.sIx_none, S_len, Nat.min_eq_left h]
  simp
theorem cutS_from {l : List Nat} {a : Nat} (h : a ≤ l.length) : cutS (S l) (some (a : Int)) none = S (l.drop a) := by
  unfold cutS
  rw [HT.sIx_nat, HT.sIx_none, S_len, Nat.min_eq_left h]
  show S (((l.drop a)).take (l.length - a)) = _
  rw [List.take_of_length_le (by simp)]
theorem oneD {p : Prop} [Decidable p] {T E : Prop} (h : p → T) (k : ¬ p → E) : two (decide p) T E := ⟨fun e => h (of_decide_eq_true e), fun e => k (of_decide_eq_false e)⟩
theorem notD {p : Prop} [Decidable p] {T E : Prop} (h : ¬ p → T) (k : p → E) : two (!decide p) T E := by
  by_cases z : p
  · rw [decide_eq_true z]
    exact ⟨fun e => (nomatch e), fun _ => k z⟩
  · rw [decide_eq_false z]
    exact ⟨fun _ => h z, fun e => (nomatch e)⟩
theorem andD {p q : Prop} [Decidable p] [Decidable q] {T E : Prop} (h : p ∧ q → T) (k : ¬ (p ∧ q) → E) : two (decide p) (two (decide q) T E) (two false T E) :=
  oneD (fun a => oneD (fun b => h ⟨a, b⟩) fun b => k fun z => b z.2) fun a => twoF (k fun z => a z.1)
theorem orD {p q : Prop} [Decidable p] [Decidable q] {T E : Prop} (h : p ∨ q → T) (k : ¬ (p ∨ q) → E) : two (decide p) (two true T E) (two (decide q) T E) :=
  oneD (fun a => twoT (h (.inl a))) fun a => oneD (fun b => h (.inr b)) fun b => k fun z => z.elim a b
def cMinW : List V → Hp → VK → Prop := fun xs H Q => match xs with
  | [.int i, .int j] => ∀ k : Int, k ≤ i → k ≤ j → (k = i ∨ k = j) → Q (.int k) H
  | _ => False
def cMaxW : List V → Hp → VK → Prop := fun xs H Q => match xs with
  | [.int i, .int j] => ∀ k : Int, i ≤ k → j ≤ k → (k = i ∨ k = j) → Q (.int k) H
  | _ => False
section
variable {X : Cx}
theorem c_minW (hc : X.calm = true) : CallR X (.builtin "min") cMinW := CallR.imp (c_min2 hc) fun xs H Q h => by
  unfold cMinW at h
  unfold cMin2
  split at h
  · rename_i i j
    show Q _ _
    by_cases z : j < i
    · rw [if_pos z]
      exact h j (by omega) (by omega) (.inr rfl)
    · rw [if_neg z]
      exact h i (by omega) (by omega) (.inl rfl)
  · exact h.elim
theorem c_maxW (hc : X.calm = true) : CallR X (.builtin "max") cMaxW := CallR.imp (c_max2 hc) fun xs H Q h => by
  unfold cMaxW at h
  unfold cMax2
  split at h
  · rename_i i j
    show Q _ _
    by_cases z : j > i
    · rw [if_pos z]
      exact h j (by omega) (by omega) (.inr rfl)
    · rw [if_neg z]
      exact h i (by omega) (by omega) (.inl rfl)
  · exact h.elim
end
def uAug (i : Nat) (te : TE) (f : V → V → Option V) : TS := fun D σ H => match σ[i]? with
  | some (some x) => te σ H fun y H1 => (match f x y with
    | some z => D.nx (σ.set i (some z)) H1
    | none => False)
  | _ => False
def iiAdd : V → V → Option V
  | .int i, .int j => some (.int (i + j))
  | _, _ => none
def iiSub : V → V → Option V
  | .int i, .int j => some (.int (i - j))
  | _, _ => none
theorem PIp.imp {X : Cx} {op : Operator} {t t' : TIp} (h : PIp X op t) (i : ∀ x y H Q, t' x y H Q → t x y H Q) : PIp X op t' := fun pins s σ H x y v u Q I r1 r2 q => h pins s σ H x y v u Q I r1 r2 (i _ _ _ _ q)
theorem uAug_of {i : Nat} {te : TE} {f : V → V → Option V} {D : Ends} {σ : St} {H : Hp} (h : uAug i te f D σ H) : tAug i te (fun x y H1 Q => match f x y with
    | some z => Q z H1
    | none => False) D σ H := by
  unfold uAug at h
  split at h
  · exact ⟨_, by assumption, h⟩
  · exact h.elim
section
variable {X : Cx} {i : Nat} {x : Str} {e : Expr} {te : TE} {pos pos' : Pos}
theorem s_augadd (hN : X.N.Nodup) (hi : X.N[i]? = some x) (hx : Loc X.env.scope x) (he : PE X e te) (hf : X.fn x = true ∨ X.env.scope.names.lookup x = some .local := by first | exact .inl rfl | exact .inr rfl | assumption) :
    PS X (.AugAssign (.Name x pos') .Add e pos) (uAug i te iiAdd) := PS.imp (ps_aug hN hi hx he (PIp.imp ip_add fun x y H Q h => by
  split at h
  · rename_i z e
    unfold iiAdd at e
    split at e
    · cases e
      exact ⟨_, _, rfl, rfl, h⟩
    · cases e
  · exact h.elim) hf) fun _ _ _ => uAug_of
theorem s_augsub (hN : X.N.Nodup) (hi : X.N[i]? = some x) (hx : Loc X.env.scope x) (he : PE X e te) (hf : X.fn x = true ∨ X.env.scope.names.lookup x = some .local := by first | exact .inl rfl | exact .inr rfl | assumption) :
    PS X (.AugAssign (.Name x pos') .Sub e pos) (uAug i te iiSub) := PS.imp (ps_aug hN hi hx he (PIp.imp ip_sub fun x y H Q h => by
  split at h
  · rename_i z e
    unfold iiSub at e
    split at e
    · cases e
      exact ⟨_, _, rfl, rfl, h⟩
    · cases e
  · exact h.elim) hf) fun _ _ _ => uAug_of
end
structure Walks (J : It) (P : Hp → Prop) (xs : List V) : Prop where
  stop : ∀ i H, P H → xs.length ≤ i → J.stop i H
  go : ∀ i H, P H → i < xs.length → J.go i H
  yld : ∀ i H x H', P H → i < xs.length → J.yld i H x H' → H' = H ∧ xs[i]? = some x
abbrev rgV (lo : Int) (n : Nat) : List V := (List.range n).map fun (k : Nat) => V.int (lo + (k : Int))
theorem wk_rng {lo : Int} {n : Nat} : Walks (Itr lo n) (fun _ => True) (rgV lo n) where
  stop := fun i H _ h => by simpa [Itr] using h
  go := fun i H _ h => by simpa [Itr] using h
  yld := fun i H x H' _ h y => by
    obtain ⟨e, y⟩ := y
    refine ⟨e, ?_⟩
    have h' : i < n := by simpa using h
    rw [y]
    simp [h']
abbrev chV (l : List Nat) : List V := l.map fun c => V.str (S [c])
theorem wk_str {l : List Nat} : Walks (Its (S l)) (fun _ => True) (chV l) where
  stop := fun i H _ h => by simpa [Its] using h
  go := fun i H _ h => by simpa [Its] using h
  yld := fun i H x H' _ h y => by
    obtain ⟨e, c, h1, h2⟩ := y
    refine ⟨e, ?_⟩
    have h3 : l[i]? = some c := by simpa using h1
    rw [h2]
    simp [h3]
theorem wk_list {K : PySem.W.Frag} {a : Addr} {xs : List V} : Walks (Itl K a) (fun H => SqL K H a xs) xs where
  stop := fun i H h hi => ⟨xs, h, hi⟩
  go := fun i H h hi => ⟨xs, xs[i], h, by simp [hi]⟩
  yld := fun i H x H' h hi y => ⟨y.1, y.2 xs h⟩
theorem wk_tup {K : PySem.W.Frag} {a : Addr} {xs : List V} : Walks (Itt K a) (fun H => SqT K H a xs) xs where
  stop := fun i H h hi => ⟨xs, h, hi⟩
  go := fun i H h hi => ⟨xs, xs[i], h, by simp [hi]⟩
  yld := fun i H x H' h hi y => ⟨y.1, y.2 xs h⟩
def LcBody (J : It) (g : TG) (tt : TT) (te : TE) (vs : List Nat) (σ : St) (H1 : Hp) (QD : Addr → Hp → Prop) : Prop :=
    ∀ D, H1 D = none → ∃ W : Nat → Nat → Hp → Prop, (∃ m, W 0 m (upd H1 D (.lst []))) ∧ ∀ i m H, W i m H →
  (J.stop i H ∧ QD D H) ∨ (J.go i H ∧ ∃ Nx : Hp → Prop, (∀ H', Nx H' → ∃ m', m' < m ∧ W (i + 1) m' H') ∧ ∀ x H', J.yld i H x H' → g x (wipe σ vs) H' fun σ2 H2 => wipe σ2 vs = wipe σ vs ∧ tt σ2 H2 fun b H3 =>
    two b (te σ2 H3 fun y H4 => ∃ acc, H4 D = some (.lst acc) ∧ acc.length < sizeLine ∧ Nx (upd H4 D (.lst (acc ++ [y])))) (Nx H3))
theorem lcW {J : It} {P : Hp → Prop} {xs : List V} {g : TG} {tt : TT} {te : TE} {vs : List Nat} {σ : St} {H1 : Hp} {QD : Addr → Hp → Prop} (w : Walks J P xs) (h : ∀ D, H1 D = none → ∃ Pv : Nat → Hp → Prop, Pv 0 (upd H1 D (.lst [])) ∧ (∀ i H, i ≤ xs.length → Pv i H → P H) ∧
      (∀ i x H, xs[i]? = some x → Pv i H → LcTurn g tt te vs σ D x H (Pv (i + 1))) ∧ ∀ H, Pv xs.length H → QD D H) : LcBody J g tt te vs σ H1 QD := by
  intro D hD
  obtain ⟨Pv, h0, hl, hs, hd⟩ := h D hD
  refine ⟨fun i m H => m = xs.length - i ∧ i ≤ xs.length ∧ Pv i H, ⟨xs.length, by simp, Nat.zero_le _, h0⟩, ?_⟩
  rintro i m H ⟨rfl, hi, p⟩
  have q := hl i H hi p
  by_cases hlt : i < xs.length
  · refine .inr ⟨w.go i H q hlt, Pv (i + 1), fun H' p' => ⟨xs.length - (i + 1), by omega, rfl, hlt, p'⟩, fun x H' y => ?_⟩
    obtain ⟨e, y2⟩ := w.yld i H x H' q hlt y
    subst e
    exact hs i x _ y2 p
  · have e : i = xs.length := by omega
    subst e
    exact .inl ⟨w.stop _ H q (Nat.le_refl _), hd H p⟩
theorem forW {J : It} {P : Hp → Prop} {xs : List V} {g : TG} {tb : TS} {D : Ends} {σ : St} {H : Hp} (w : Walks J P xs) (Pv : Nat → St → Hp → Prop) (h0 : Pv 0 σ H) (hl : ∀ i σ H, i ≤ xs.length → Pv i σ H → P H)
    (hs : ∀ i x σ H, xs[i]? = some x → Pv i σ H → g x σ H fun σ2 H2 => tb { D with nx := Pv (i + 1), ct := Pv (i + 1), bk := D.nx } σ2 H2) (hd : ∀ σ H, Pv xs.length σ H → D.nx σ H) :
    ∃ W : Nat → Nat → St → Hp → Prop, (∃ m, W 0 m σ H) ∧ ∀ i m σ H, W i m σ H →
  (J.stop i H ∧ D.nx σ H) ∨ (J.go i H ∧ ∃ N : St → Hp → Prop, (∀ σ' H', N σ' H' → ∃ m', m' < m ∧ W (i + 1) m' σ' H') ∧ ∀ x H', J.yld i H x H' → g x σ H' fun σ2 H2 => tb { D with nx := N, ct := N, bk := D.nx } σ2 H2) := by
  refine ⟨fun i m σ H => m = xs.length - i ∧ i ≤ xs.length ∧ Pv i σ H, ⟨xs.length, by simp, Nat.zero_le _, h0⟩, ?_⟩
  rintro i m σ H ⟨rfl, hi, p⟩
  have q := hl i σ H hi p
  by_cases hlt : i < xs.length
  · refine .inr ⟨w.go i H q hlt, Pv (i + 1), fun σ' H' p' => ⟨xs.length - (i + 1), by omega, rfl, hlt, p'⟩, fun x H' y => ?_⟩
    obtain ⟨e, y2⟩ := w.yld i H x H' q hlt y
    subst e
    exact hs i x σ _ y2 p
  · have e : i = xs.length := by omega
    subst e
    exact .inl ⟨w.stop _ H q (Nat.le_refl _), hd σ H p⟩
theorem forA {K : PySem.W.Frag} {g : TG} {tb : TS} {D : Ends} {σ : St} {H : Hp} {a : Addr} {xs : List V} (hq : SqA K H a xs) (Pv : Nat → St → Hp → Prop) (h0 : Pv 0 σ H) (hl : ∀ i σ H', i ≤ xs.length → Pv i σ H' → SqA K H' a xs)
    (hs : ∀ i x σ H, xs[i]? = some x → Pv i σ H → g x σ H fun σ2 H2 => tb { D with nx := Pv (i + 1), ct := Pv (i + 1), bk := D.nx } σ2 H2) (hd : ∀ σ H, Pv xs.length σ H → D.nx σ H) (hlt : ∀ H', SqA K H' a xs → (SqL K H a xs → SqL K H' a xs) ∧ (SqT K H a xs → SqT K H' a xs)) : tFor (iSeq K (fun _ H Q => Q (.ref a) H)) g tb D σ H := by
  refine ⟨a, rfl, ?_⟩
  rcases hq with hq | hq
  · exact .inl ⟨⟨xs, hq⟩, forW wk_list Pv h0 (fun i σ' H' hi p => (hlt _ (hl i σ' H' hi p)).1 hq) hs hd⟩
  · exact .inr ⟨⟨xs, hq⟩, forW wk_tup Pv h0 (fun i σ' H' hi p => (hlt _ (hl i σ' H' hi p)).2 hq) hs hd⟩
theorem none_of {H H' : Hp} {p : Addr} (s : Same H H') (h : H' p = none) : H p = none := by
  cases e : H p with
  | none => rfl
  | some o =>
    rw [s p o e] at h
    cases h
structure Rw {α : Type} (f : α → List V) (H : Hp) (vs : List V) (as : List α) : Prop where
  len : vs.length = as.length
  at_ : ∀ (i : Nat) (a : α), as[i]? = some a → ∃ l, vs[i]? = some (V.ref l) ∧ H l = some (.tup (f a))
theorem Rw.nil {α : Type} {f : α → List V} {H : Hp} : Rw f H [] [] := ⟨rfl, fun i a h => by simp at h⟩
theorem Rw.app {α : Type} {f : α → List V} {H : Hp} {vs ws : List V} {as bs : List α} (h : Rw f H vs as) (k : Rw f H ws bs) : Rw f H (vs ++ ws) (as ++ bs) := by
  refine ⟨by simp [h.len, k.len], fun i a e => ?_⟩
  rw [List.getElem?_append] at e
  rw [List.getElem?_append, h.len]
  split at e
  · rename_i hi
    rw [if_pos hi]
    exact h.at_ i a e
  · rename_i hi
    rw [if_neg hi]
    exact k.at_ _ a e
theorem Rw.one {α : Type} {f : α → List V} {H : Hp} {l : Addr} {a : α} (h : H l = some (.tup (f a))) : Rw f H [.ref l] [a] := ⟨rfl, fun i b e => by
  cases i with
  | zero =>
    simp at e
    subst e
    exact ⟨l, rfl, h⟩
  | succ n => simp at e⟩
def Kt (H H' : Hp) : Prop := ∀ b ys, H b = some (.tup ys) → H' b = some (.tup ys)
theorem Kt.refl (H : Hp) : Kt H H := fun _ _ h => h
theorem Kt.trans {H H1 H2 : Hp} (a : Kt H H1) (b : Kt H1 H2) : Kt H H2 := fun c ys h => b c ys (a c ys h)
theorem Kt.same {H H' : Hp} (a : Same H H') : Kt H H' := fun c ys h => a c _ h
theorem Kt.new {H : Hp} {p : Addr} {o : HO} (h : H p = none) : Kt H (upd H p o) := fun b ys e => keep_new h e
theorem Kt.lst {H : Hp} {p : Addr} {o : HO} {xs : List V} (h : H p = some (.lst xs)) : Kt H (upd H p o) := fun b ys e => keep_ne (fun z => by subst z; rw [h] at e; cases e) e
theorem Kt.fr {H H' : Hp} {S : List Addr} (a : Fr S H H') (h : ∀ p ∈ S, ∀ ys, H p ≠ some (.tup ys)) : Kt H H' := fun b ys e => a b _ e fun z => h b z ys e
theorem Rw.kt {α : Type} {f : α → List V} {H H' : Hp} {vs : List V} {as : List α} (h : Rw f H vs as) (k : Kt H H') : Rw f H' vs as := ⟨h.len, fun i a e => let ⟨l, h1, h2⟩ := h.at_ i a e; ⟨l, h1, k _ _ h2⟩⟩
theorem Rw.get {α : Type} {f : α → List V} {H : Hp} {vs : List V} {as : List α} {i : Nat} {x : V} (h : Rw f H vs as) (e : vs[i]? = some x) : ∃ a l, as[i]? = some a ∧ x = .ref l ∧ H l = some (.tup (f a)) := by
  have hi := (List.getElem?_eq_some_iff.mp e).1
  rw [h.len] at hi
  obtain ⟨l, h1, h2⟩ := h.at_ i as[i] (by simp [hi])
  rw [e] at h1
  cases h1
  exact ⟨_, l, by simp [hi], rfl, h2⟩
theorem Rw.take {α : Type} {f : α → List V} {H : Hp} {vs : List V} {as : List α} {i : Nat} {l : Addr} {a : α} (h : Rw f H vs (as.take i)) (e : as[i]? = some a) (k : H l = some (.tup (f a))) : Rw f H (vs ++ [.ref l]) (as.take (i + 1)) := by
  rw [List.take_add_one, e]
  exact h.app (Rw.one k)
theorem lcRw {α : Type} {f : α → List V} {as : List α} {J : It} {P : Hp → Prop} {xs : List V} {n : Nat} {te : TE} {vs : List Nat} {σ : St} {H1 : Hp} {QD : Addr → Hp → Prop} (w : Walks J P xs) (hlen : xs.length = as.length) (hz : as.length ≤ 1000000) (hP : ∀ H', Same H1 H' → P H')
    (hs : ∀ (i : Nat) x a H' Q', xs[i]? = some x → as[i]? = some a → Same H1 H' → (∀ l, H' l = none → Q' (V.ref l) (upd H' l (.tup (f a)))) → wipe ((wipe σ vs).set n (some x)) vs = wipe σ vs ∧ te ((wipe σ vs).set n (some x)) H' Q')
    (k : ∀ D ys H', H1 D = none → H' D = some (.lst ys) → Rw f H' ys as → Same H1 H' → QD D H') : LcBody J (gName n) tYes te vs σ H1 QD := by
  refine lcW w fun D hD => ?_
  refine ⟨fun i H' => ∃ ys, H' D = some (.lst ys) ∧ Rw f H' ys (as.take i) ∧ Same H1 H', ⟨[], upd_same, by rw [List.take_zero]; exact Rw.nil, same_new (Same.refl _) hD⟩, fun i H' _ ⟨_, _, _, s⟩ => hP _ s, ?_, ?_⟩
  · rintro i x H' hx ⟨ys, h1, h2, h3⟩
    have hi : i < as.length := by
      rw [← hlen]
      exact (List.getElem?_eq_some_iff.mp hx).1
    have ha : as[i]? = some as[i] := by simp [hi]
    obtain ⟨z1, z2⟩ := hs i x _ H' (fun y H4 => ∃ acc, H4 D = some (.lst acc) ∧ acc.length < sizeLine ∧ ∃ ys, (upd H4 D (.lst (acc ++ [y]))) D = some (.lst ys) ∧ Rw f (upd H4 D (.lst (acc ++ [y]))) ys (as.take (i + 1)) ∧ Same H1 (upd H4 D (.lst (acc ++ [y])))) hx ha h3 (fun l hl => by
      have e1 : (upd H' l (.tup (f as[i]))) D = some (.lst ys) := keep_new hl h1
      refine ⟨ys, e1, ?_, _, upd_same, ?_, ?_⟩
      · rw [h2.len, List.length_take, sizeLine_eq]
        omega
      · refine Rw.take (h2.kt ((Kt.new hl).trans (Kt.lst e1))) ha ?_
        exact (Kt.lst e1) _ _ upd_same
      · exact same_loc (same_new h3 hl) hD)
    exact ⟨z1, ⟨fun _ => z2, fun e => (nomatch e)⟩⟩
  · rintro H' ⟨ys, h1, h2, h3⟩
    rw [hlen, List.take_length] at h2
    exact k D ys H' hD h1 h2 h3
theorem lcVal {ws : List V} {J : It} {P : Hp → Prop} {xs : List V} {n : Nat} {te : TE} {vs : List Nat} {σ : St} {H1 : Hp} {QD : Addr → Hp → Prop} (w : Walks J P xs) (hlen : xs.length = ws.length) (hz : ws.length ≤ 1000000) (hP : ∀ H', Same H1 H' → P H')
    (hs : ∀ (i : Nat) x y H' Q', xs[i]? = some x → ws[i]? = some y → Same H1 H' → Q' y H' → wipe ((wipe σ vs).set n (some x)) vs = wipe σ vs ∧ te ((wipe σ vs).set n (some x)) H' Q')
    (k : ∀ D H', H1 D = none → H' D = some (.lst ws) → Same H1 H' → QD D H') : LcBody J (gName n) tYes te vs σ H1 QD := by
  refine lcW w fun D hD => ?_
  refine ⟨fun i H' => H' D = some (.lst (ws.take i)) ∧ Same H1 H', ⟨upd_same, same_new (Same.refl _) hD⟩, fun i H' _ ⟨_, s⟩ => hP _ s, ?_, ?_⟩
  · rintro i x H' hx ⟨h1, h3⟩
    have hi : i < ws.length := by
      rw [← hlen]
      exact (List.getElem?_eq_some_iff.mp hx).1
    have ha : ws[i]? = some ws[i] := by simp [hi]
    obtain ⟨z1, z2⟩ := hs i x _ H' (fun y H4 => ∃ acc, H4 D = some (.lst acc) ∧ acc.length < sizeLine ∧ (upd H4 D (.lst (acc ++ [y]))) D = some (.lst (ws.take (i + 1))) ∧ Same H1 (upd H4 D (.lst (acc ++ [y])))) hx ha h3
      ⟨_, h1, by rw [List.length_take, sizeLine_eq]; omega, by rw [upd_same, List.take_add_one, ha]; rfl, same_loc h3 hD⟩
    exact ⟨z1, ⟨fun _ => z2, fun e => (nomatch e)⟩⟩
  · rintro H' ⟨h1, h3⟩
    rw [hlen, List.take_length] at h1
    exact k D H' hD h1 h3
theorem foldl_take {α β : Type} {f : β → α → β} {b : β} {as : List α} {i : Nat} {a : α} (h : as[i]? = some a) : (as.take (i + 1)).foldl f b = f ((as.take i).foldl f b) a := by
  rw [List.take_add_one, h]
  simp
theorem rgV_get {lo : Int} {n i : Nat} {x : V} (h : (rgV lo n)[i]? = some x) : i < n ∧ x = .int (lo + (i : Int)) := by
  rw [List.getElem?_map] at h
  by_cases hi : i < n
  · rw [List.getElem?_range hi] at h
    exact ⟨hi, (Option.some.inj h).symm⟩
  · rw [List.getElem?_eq_none (by simp; omega)] at h
    cases h
theorem rgV_len {lo : Int} {n : Nat} : (rgV lo n).length = n := by simp
theorem chV_get {l : List Nat} {i : Nat} {x : V} (h : (chV l)[i]? = some x) : ∃ c, l[i]? = some c ∧ x = .str (S [c]) := by
  rw [List.getElem?_map] at h
  cases e : l[i]? with
  | none => rw [e] at h; cases h
  | some c => rw [e] at h; exact ⟨c, rfl, (Option.some.inj h).symm⟩
theorem chV_len {l : List Nat} : (chV l).length = l.length := by simp
def toD : V → PyData
  | .int i => .int i
  | .str s => .str s
  | .bl b => .bool b
  | _ => .none
def isSc : V → Bool
  | .int _ => true
  | .str _ => true
  | .bl _ => true
  | .non => true
  | _ => false
section
variable {K : PySem.W.Frag} {H : Hp} {QB : Hp → Prop}
theorem dp_sc {v : V} (h : isSc v = true) : Dp K H v (toD v) := by
  cases v with
  | int i => exact .int i
  | str s => exact .str s
  | bl b => exact .bl b
  | non => exact .non
  | _ => cases h
theorem dle_sc {v : V} : ∀ n, dle n (toD v) := by
  intro n
  cases n <;> cases v <;> trivial
theorem dpAll_sc : ∀ {vs : List V}, vs.all isSc = true → DpAll K H vs (vs.map toD)
  | [], _ => .nil
  | v :: vs, h => by
    rw [List.all_cons, Bool.and_eq_true] at h
    exact .cons (dp_sc h.1) (dpAll_sc h.2)
theorem dp_tup {l : Addr} {vs : List V} (h : H l = some (.tup vs)) (hs : vs.all isSc = true) : Dp K H (.ref l) (.tuple (vs.map toD)) := .tup (SqT.of h) (dpAll_sc hs)
theorem dle_tup {vs : List V} (hl : vs.length ≤ 1000) (n : Nat) : dle (n + 1) (.tuple (vs.map toD)) := ⟨by rw [List.length_map]; omega, fun d hd => by
  obtain ⟨v, _, rfl⟩ := List.mem_map.mp hd
  exact dle_sc n⟩
theorem rw_dp {α : Type} {f : α → List V} : ∀ {vs : List V} {as : List α}, Rw f H vs as → (∀ a, (f a).all isSc = true) → DpAll K H vs (as.map fun a => .tuple ((f a).map toD))
  | [], [], _, _ => .nil
  | [], _ :: _, h, _ => by have := h.len; simp at this
  | _ :: _, [], h, _ => by have := h.len; simp at this
  | v :: vs, a :: as, h, hs => by
    obtain ⟨l, h1, h2⟩ := h.at_ 0 a rfl
    cases Option.some.inj h1
    exact .cons (dp_tup h2 (hs a)) (rw_dp ⟨by have := h.len; simpa using this, fun i b e => h.at_ (i + 1) b e⟩ hs)
theorem dle_rows {α : Type} {f : α → List V} {as : List α} (hl : as.length ≤ 100000) (hf : ∀ a, (f a).length ≤ 1000) (n : Nat) : dle (n + 2) (.tuple (as.map fun a => .tuple ((f a).map toD))) ∧ dle (n + 2) (.list (as.map fun a => .tuple ((f a).map toD))) := by
  have : ∀ d ∈ as.map (fun a => PyData.tuple ((f a).map toD)), dle (n + 1) d := fun d hd => by
    obtain ⟨a, _, rfl⟩ := List.mem_map.mp hd
    exact dle_tup (hf a) n
  exact ⟨⟨by rw [List.length_map]; omega, this⟩, ⟨by rw [List.length_map]; omega, this⟩⟩
def SmB (K : PySem.W.Frag) (n : Nat) (x y : V) (H : Hp) (QB : Hp → Prop) : Prop := ∃ d m, n = m + 1 ∧ dle m d ∧ Dp K H x d ∧ Dp K H y d ∧ ∀ H', Same H H' → QB H'
theorem sm_of {n : Nat} {x y : V} (d : PyData) (hd : dle n d) (h1 : Dp K H x d) (h2 : Dp K H y d) (k : ∀ H', Same H H' → QB H') : SmB K (n + 1) x y H QB := ⟨d, n, rfl, hd, h1, h2, k⟩
theorem sm_sc {n : Nat} {v : V} (h : isSc v = true) (k : ∀ H', Same H H' → QB H') : SmB K (n + 1) v v H QB := ⟨toD v, n, rfl, dle_sc n, dp_sc h, dp_sc h, k⟩
theorem sm_tup {n : Nat} {l l' : Addr} {vs : List V} (h : H l = some (.tup vs)) (h' : H l' = some (.tup vs)) (hs : vs.all isSc = true) (hl : vs.length ≤ 1000) (k : ∀ H', Same H H' → QB H') : SmB K (n + 2) (.ref l) (.ref l') H QB :=
  ⟨_, n + 1, rfl, dle_tup hl n, dp_tup h hs, dp_tup h' hs, k⟩
theorem sm_rowsT {α : Type} {f : α → List V} {n : Nat} {a b : Addr} {xs ys : List V} {as : List α} (h : SqT K H a xs) (r : Rw f H xs as) (h' : SqT K H b ys) (r' : Rw f H ys as) (hs : ∀ a, (f a).all isSc = true) (hl : as.length ≤ 100000) (hf : ∀ a, (f a).length ≤ 1000) (k : ∀ H', Same H H' → QB H') : SmB K (n + 3) (.ref a) (.ref b) H QB :=
  ⟨_, n + 2, rfl, (dle_rows hl hf n).1, .tup h (rw_dp r hs), .tup h' (rw_dp r' hs), k⟩
theorem sm_rowsL {α : Type} {f : α → List V} {n : Nat} {a b : Addr} {xs ys : List V} {as : List α} (h : SqL K H a xs) (r : Rw f H xs as) (h' : SqL K H b ys) (r' : Rw f H ys as) (hs : ∀ a, (f a).all isSc = true) (hl : as.length ≤ 100000) (hf : ∀ a, (f a).length ≤ 1000) (k : ∀ H', Same H H' → QB H') : SmB K (n + 3) (.ref a) (.ref b) H QB :=
  ⟨_, n + 2, rfl, (dle_rows hl hf n).2, .lst h (rw_dp r hs), .lst h' (rw_dp r' hs), k⟩
end
end Co
end

section
set_option maxHeartbeats 4000000
namespace Co.Tx
open PySem PySem.Spec PyProof.Rows L2 Co PySem.StrLaws
structure Pc where
  s : Nat
  e : Nat
  put : List Nat
def WfC (n : Nat) : Nat → List Pc → Prop
  | _, [] => True
  | lo, c :: cs => lo ≤ c.s ∧ c.s ≤ c.e ∧ c.e ≤ n ∧ (c.s = c.e → c.put ≠ []) ∧ WfC n (c.e + 1) cs
abbrev Row := Nat × Option Nat
def seg (t : List Nat) (a b : Nat) : List Row := (List.range (b - a)).map fun k => (t.getD (a + k) 0, some (a + k))
def ins (p : List Nat) : List Row := p.map fun c => (c, none)
def mark (t : List Nat) : Nat → List Pc → List Row
  | at_, [] => seg t at_ t.length
  | at_, c :: cs => seg t at_ c.s ++ ins c.put ++ mark t c.e cs
def mstep (t : List Nat) (x : List Row × Nat) (c : Pc) : List Row × Nat := (x.1 ++ seg t x.2 c.s ++ ins c.put, c.e)
theorem seg_len {t : List Nat} {a b : Nat} : (seg t a b).length = b - a := by simp [seg]
theorem ins_len {p : List Nat} : (ins p).length = p.length := by simp [ins]
theorem mark_fold (t : List Nat) : ∀ (cs : List Pc) (r : List Row) (a : Nat), (cs.foldl (mstep t) (r, a)).1 ++ seg t (cs.foldl (mstep t) (r, a)).2 t.length = r ++ mark t a cs
  | [], r, a => rfl
  | c :: cs, r, a => by
    rw [List.foldl_cons]
    refine (mark_fold t cs (r ++ seg t a c.s ++ ins c.put) c.e).trans ?_
    simp [mark]
theorem mark_take (t : List Nat) : ∀ (cs : List Pc) (i : Nat) (r : List Row) (a : Nat), r ++ mark t a cs = ((cs.take i).foldl (mstep t) (r, a)).1 ++ mark t ((cs.take i).foldl (mstep t) (r, a)).2 (cs.drop i)
  | _, 0, r, a => by simp
  | [], i + 1, r, a => by simp
  | c :: cs, i + 1, r, a => by
    rw [List.take_succ_cons, List.drop_succ_cons, List.foldl_cons]
    refine Eq.trans ?_ (mark_take t cs i (r ++ seg t a c.s ++ ins c.put) c.e)
    simp [mark]
theorem fold_le {t : List Nat} {cs : List Pc} {i : Nat} : ((cs.take i).foldl (mstep t) ([], 0)).1.length ≤ (mark t 0 cs).length := by
  have h := congrArg List.length (mark_take t cs i [] 0)
  rw [List.nil_append, List.length_append] at h
  omega
theorem wf_mem {n : Nat} : ∀ {cs : List Pc} {lo : Nat} {c : Pc}, WfC n lo cs → c ∈ cs → lo ≤ c.s ∧ c.s ≤ c.e ∧ c.e ≤ n ∧ (c.s = c.e → c.put ≠ [])
  | [], _, _, _, h => by cases h
  | d :: cs, lo, c, w, h => by
    obtain ⟨h1, h2, h3, h4, w⟩ := w
    rcases List.mem_cons.mp h with e | h
    · subst e
      exact ⟨h1, h2, h3, h4⟩
    · obtain ⟨k1, k2, k3, k4⟩ := wf_mem w h
      exact ⟨by omega, k2, k3, k4⟩
theorem fold_bd {t : List Nat} {n lo : Nat} {cs : List Pc} {i : Nat} (w : WfC n lo cs) : ((cs.take i).foldl (mstep t) ([], 0)).2 ≤ n := by
  have key : ∀ (ds : List Pc) (r : List Row) (a : Nat), (∀ c ∈ ds, c.e ≤ n) → a ≤ n → (ds.foldl (mstep t) (r, a)).2 ≤ n := by
    intro ds
    induction ds with
    | nil => exact fun r a _ h => h
    | cons c ds ih => exact fun r a h _ => ih _ _ (fun d hd => h d (List.mem_cons_of_mem _ hd)) (h c List.mem_cons_self)
  exact key _ _ _ (fun c hc => (wf_mem w (List.mem_of_mem_take hc)).2.2.1) (Nat.zero_le _)
theorem seg_get {t : List Nat} {a b k : Nat} {r : Row} (h : (seg t a b)[k]? = some r) : k < b - a ∧ r = (t.getD (a + k) 0, some (a + k)) := by
  unfold seg at h
  rw [List.getElem?_map] at h
  by_cases hi : k < b - a
  · rw [List.getElem?_range hi] at h
    exact ⟨hi, (Option.some.inj h).symm⟩
  · rw [List.getElem?_eq_none (by simp; omega)] at h
    cases h
theorem seg_at {t : List Nat} {a b k : Nat} (h : k < b - a) : (seg t a b)[k]? = some (t.getD (a + k) 0, some (a + k)) := by
  unfold seg
  rw [List.getElem?_map, List.getElem?_range h]
  rfl
theorem three {t p : List Nat} {a b k : Nat} {R : List Row} {r : Row} (h : (seg t a b ++ ins p ++ R)[k]? = some r) :
    (k < b - a ∧ r = (t.getD (a + k) 0, some (a + k))) ∨ (b - a ≤ k ∧ k < b - a + p.length ∧ r.2 = none) ∨ (b - a + p.length ≤ k ∧ R[k - (b - a + p.length)]? = some r) := by
  rw [List.getElem?_append] at h
  split at h
  · rename_i h1
    rw [List.length_append, seg_len, ins_len] at h1
    rw [List.getElem?_append] at h
    split at h
    · exact .inl (seg_get h)
    · rename_i h2
      rw [seg_len] at h2 h
      refine .inr (.inl ⟨by omega, h1, ?_⟩)
      unfold ins at h
      rw [List.getElem?_map] at h
      cases e : p[k - (b - a)]? with
      | none => rw [e] at h; cases h
      | some z => rw [e] at h; rw [← Option.some.inj h]
  · rename_i h1
    rw [List.length_append, seg_len, ins_len] at h1 h
    exact .inr (.inr ⟨by omega, h⟩)
theorem mark_ge {t : List Nat} : ∀ {cs : List Pc} {lo a k x : Nat} {r : Row}, WfC t.length lo cs → a ≤ lo → (mark t a cs)[k]? = some r → r.2 = some x → a ≤ x ∧ x < t.length
  | [], lo, a, k, x, r, _, ha, h, e => by
    obtain ⟨h1, rfl⟩ := seg_get h
    cases e
    omega
  | c :: cs, lo, a, k, x, r, w, ha, h, e => by
    obtain ⟨w1, w2, w3, w4, w⟩ := w
    rcases three h with ⟨h1, rfl⟩ | ⟨_, _, h3⟩ | ⟨_, h2⟩
    · cases e
      omega
    · rw [h3] at e
      cases e
    · have := mark_ge w (Nat.le_succ _) h2 e
      omega
def mvd (m : Int) (c : Pc) : Int := m + ((c.put.length : Int) - ((c.e : Int) - (c.s : Int)))
def carry (n : Nat) : Int → List Pc → Nat → Option Int
  | m, [], p => some ((p : Int) + m)
  | m, c :: cs, p => if p < n ∧ p < c.s then some ((p : Int) + m) else if p < n ∧ p < c.e then none else carry n (mvd m c) cs p
theorem carry_spec {t : List Nat} {p : Nat} (hp : p < t.length) : ∀ (cs : List Pc) (lo a : Nat) (m : Int), WfC t.length lo cs → a ≤ lo → a ≤ p →
    (∃ k : Nat, (∃ r, (mark t a cs)[k]? = some r ∧ r.2 = some p) ∧ (∀ (k' : Nat) (r : Row), (mark t a cs)[k']? = some r → r.2 = some p → k' = k) ∧ carry t.length m cs p = some ((k : Int) + (a : Int) + m)) ∨
    ((∀ (k' : Nat) (r : Row), (mark t a cs)[k']? = some r → r.2 ≠ some p) ∧ carry t.length m cs p = none)
  | [], lo, a, m, _, _, hap => by
    refine .inl ⟨p - a, ⟨_, seg_at (by omega), ?_⟩, fun k' r h e => ?_, ?_⟩
    · show some (a + (p - a)) = some p
      rw [Nat.add_sub_cancel' hap]
    · obtain ⟨h1, rfl⟩ := seg_get h
      cases e
      omega
    · show some ((p : Int) + m) = _
      congr 1
      omega
  | c :: cs, lo, a, m, w, ha, hap => by
    obtain ⟨w1, w2, w3, w4, w⟩ := w
    unfold carry
    by_cases h1 : p < c.s
    · rw [if_pos ⟨hp, h1⟩]
      refine .inl ⟨p - a, ⟨(t.getD (a + (p - a)) 0, some (a + (p - a))), ?_, ?_⟩, fun k' r h e => ?_, ?_⟩
      · show (seg t a c.s ++ ins c.put ++ mark t c.e cs)[p - a]? = _
        rw [List.append_assoc, List.getElem?_append_left (by rw [seg_len]; omega), seg_at (by omega)]
      · show some (a + (p - a)) = some p
        rw [Nat.add_sub_cancel' hap]
      · rcases three h with ⟨h2, rfl⟩ | ⟨_, _, h3⟩ | ⟨_, h2⟩
        · cases e
          omega
        · rw [h3] at e
          cases e
        · have := mark_ge w (Nat.le_succ _) h2 e
          omega
      · congr 1
        omega
    · rw [if_neg (fun z => h1 z.2)]
      by_cases h2 : p < c.e
      · rw [if_pos ⟨hp, h2⟩]
        refine .inr ⟨fun k' r h e => ?_, rfl⟩
        rcases three h with ⟨h3, rfl⟩ | ⟨_, _, h3⟩ | ⟨_, h3⟩
        · cases e
          omega
        · rw [h3] at e
          cases e
        · have := mark_ge w (Nat.le_succ _) h3 e
          omega
      · rw [if_neg (fun z => h2 z.2)]
        have hl : (seg t a c.s ++ ins c.put).length = c.s - a + c.put.length := by rw [List.length_append, seg_len, ins_len]
        rcases carry_spec hp cs (c.e + 1) c.e (mvd m c) w (Nat.le_succ _) (by omega) with ⟨k, ⟨r, k1, k2⟩, k3, k4⟩ | ⟨k1, k2⟩
        · refine .inl ⟨c.s - a + c.put.length + k, ⟨r, ?_, k2⟩, fun k' r' h e => ?_, ?_⟩
          · show (seg t a c.s ++ ins c.put ++ mark t c.e cs)[_]? = _
            rw [List.getElem?_append_right (by rw [hl]; omega), hl, Nat.add_sub_cancel_left]
            exact k1
          · rcases three h with ⟨h3, rfl⟩ | ⟨_, _, h3⟩ | ⟨h3, h4⟩
            · cases e
              omega
            · rw [h3] at e
              cases e
            · have := k3 _ _ h4 e
              omega
          · rw [k4]
            congr 1
            unfold mvd
            omega
        · refine .inr ⟨fun k' r' h e => ?_, k2⟩
          rcases three h with ⟨h3, rfl⟩ | ⟨_, _, h3⟩ | ⟨_, h4⟩
          · cases e
            omega
          · rw [h3] at e
            cases e
          · exact k1 _ _ h4 e
theorem carry_end {t : List Nat} : ∀ (cs : List Pc) (lo a : Nat) (m : Int), WfC t.length lo cs → a ≤ lo → a ≤ t.length → carry t.length m cs t.length = some (((mark t a cs).length : Int) + (a : Int) + m)
  | [], lo, a, m, _, _, h => by
    show some _ = some (((seg t a t.length).length : Int) + _ + _)
    rw [seg_len]
    congr 1
    omega
  | c :: cs, lo, a, m, w, ha, h => by
    obtain ⟨w1, w2, w3, w4, w⟩ := w
    unfold carry
    rw [if_neg (fun z => absurd z.1 (Nat.lt_irrefl _)), if_neg (fun z => absurd z.1 (Nat.lt_irrefl _)), carry_end cs (c.e + 1) c.e _ w (Nat.le_succ _) w3]
    congr 1
    show _ = (((seg t a c.s ++ ins c.put ++ mark t c.e cs).length : Nat) : Int) + _ + _
    rw [List.length_append, List.length_append, seg_len, ins_len]
    unfold mvd
    omega
def lstep (x : Nat × Nat) (c : Nat) : Nat × Nat := if c = 10 then (x.1 + 1, 1) else (x.1, x.2 + 1)
def lc (l : List Nat) : Nat × Nat := l.foldl lstep (1, 1)
theorem count_drop {l : List Nat} {c : Nat} : ∀ {cuts : List Nat} {a f : Nat}, ChainG (S l) ⟨#[c]⟩ (S l).length a cuts f → (∀ k, f ≤ k → ¬ At (S l) ⟨#[c]⟩ (S l).length k) → cuts.length = (l.drop a).count c
  | [], a, f, h, hn => by
    have e : f = a := h
    subst e
    rw [List.length_nil, eq_comm, List.count_eq_zero]
    intro hm
    obtain ⟨i, hi⟩ := List.mem_iff_getElem?.mp hm
    rw [List.getElem?_drop] at hi
    exact hn (f + i) (by omega) ((PySem.StrLaws.subAt_one (S l) c (f + i)).mpr hi)
  | d :: r, a, f, h, hn => by
    obtain ⟨h1, h2, h3, h4⟩ := h
    have ih := count_drop h4 hn
    have hd : l[d]? = some c := (PySem.StrLaws.subAt_one (S l) c d).mp h2
    have hlt := (List.getElem?_eq_some_iff.mp hd).1
    have e : l.drop a = (l.drop a).take (d - a) ++ c :: l.drop (d + 1) := by
      conv => lhs; rw [← List.take_append_drop (d - a) (l.drop a)]
      congr 1
      rw [List.drop_drop, show a + (d - a) = d by omega, List.drop_eq_getElem_cons hlt]
      congr 1
      rw [List.getElem?_eq_getElem hlt] at hd
      exact Option.some.inj hd
    have z : ((l.drop a).take (d - a)).count c = 0 := by
      rw [List.count_eq_zero]
      intro hm
      obtain ⟨i, hi⟩ := List.mem_iff_getElem?.mp hm
      have hil := (List.getElem?_eq_some_iff.mp hi).1
      rw [List.length_take] at hil
      rw [List.getElem?_take_of_lt (by omega), List.getElem?_drop] at hi
      exact h3 (a + i) (by omega) (by omega) ((PySem.StrLaws.subAt_one (S l) c (a + i)).mpr hi)
    rw [e, List.count_append, z, List.count_cons_self, List.length_cons, ih]
    show (l.drop (d + 1)).count c + 1 = _
    omega
theorem count_one (l : List Nat) (c : Nat) : Txt.count (S l) ⟨#[c]⟩ = ((l.count c : Nat) : Int) := by
  obtain ⟨f, h1, h2⟩ := occ_tight (S l) ⟨#[c]⟩ (by show 1 ≤ 1; decide)
  have := count_drop h1 h2
  unfold Txt.count
  rw [this]
  simp
theorem lc_spec (l : List Nat) : ∀ (i : Nat), i ≤ l.length → (lc (l.take i)).1 = (l.take i).count 10 + 1 ∧ (((∀ (k : Nat), (l.take i)[k]? ≠ some 10) ∧ (lc (l.take i)).2 = i + 1) ∨ ∃ j : Nat, (l.take i)[j]? = some 10 ∧ (∀ (k : Nat), j < k → (l.take i)[k]? ≠ some 10) ∧ (lc (l.take i)).2 + j = i)
  | 0, _ => ⟨by simp [lc], .inl ⟨by simp, by simp [lc]⟩⟩
  | i + 1, h => by
    obtain ⟨h1, h2⟩ := lc_spec l i (by omega)
    have hi : i < l.length := by omega
    have e : l.take (i + 1) = l.take i ++ [l[i]] := by rw [List.take_add_one]; simp [hi]
    have hl : (l.take i).length = i := by rw [List.length_take]; omega
    have e2 : lc (l.take (i + 1)) = lstep (lc (l.take i)) l[i] := by
      unfold lc
      rw [e, List.foldl_append]
      rfl
    rw [e2, e, List.count_append]
    unfold lstep
    by_cases hc : l[i] = 10
    · rw [if_pos hc]
      refine ⟨?_, .inr ⟨i, ?_, fun k hk => ?_, ?_⟩⟩
      · show (lc (l.take i)).1 + 1 = _
        rw [h1, hc]
        simp
      · rw [List.getElem?_append_right (by omega), hl]
        simp [hc]
      · rw [List.getElem?_append_right (by omega), hl, List.getElem?_eq_none (by simp; omega)]
        simp
      · show 1 + i = i + 1
        omega
    · rw [if_neg hc]
      have hlast : ∀ (k : Nat), i ≤ k → (l.take i ++ [l[i]])[k]? ≠ some 10 := fun k hk => by
        rw [List.getElem?_append_right (by omega), hl]
        by_cases z : k = i
        · subst z
          simp [hc]
        · rw [List.getElem?_eq_none (by simp; omega)]
          simp
      refine ⟨?_, ?_⟩
      · show (lc (l.take i)).1 = _
        rw [h1]
        simp [hc]
      · rcases h2 with ⟨k1, k2⟩ | ⟨j, k1, k2, k3⟩
        · refine .inl ⟨fun k => ?_, by show (lc (l.take i)).2 + 1 = _; omega⟩
          by_cases z : k < i
          · rw [List.getElem?_append_left (by omega)]
            exact k1 k
          · exact hlast k (by omega)
        · have hj := (List.getElem?_eq_some_iff.mp k1).1
          refine .inr ⟨j, ?_, fun k hk => ?_, by show (lc (l.take i)).2 + 1 + j = _; omega⟩
          · rw [List.getElem?_append_left hj]
            exact k1
          · by_cases z : k < i
            · rw [List.getElem?_append_left (by omega)]
              exact k2 k hk
            · exact hlast k (by omega)
theorem rfind_one (l : List Nat) (c : Nat) : ((∀ (k : Nat), l[k]? ≠ some c) ∧ Txt.rfind (S l) ⟨#[c]⟩ = -1) ∨ ∃ j : Nat, l[j]? = some c ∧ (∀ (k : Nat), j < k → l[k]? ≠ some c) ∧ Txt.rfind (S l) ⟨#[c]⟩ = (j : Int) := by
  unfold Txt.rfind
  rcases last_spec (S l) ⟨#[c]⟩ with ⟨h1, h2⟩ | ⟨j, h1, h2, h3⟩
  · rw [h1]
    exact .inl ⟨fun k e => h2 k ((PySem.StrLaws.subAt_one (S l) c k).mpr e), rfl⟩
  · rw [h1]
    exact .inr ⟨j, (PySem.StrLaws.subAt_one (S l) c j).mp h2, fun k hk e => h3 k hk ((PySem.StrLaws.subAt_one (S l) c k).mpr e), rfl⟩
theorem line_col (l : List Nat) (i : Nat) (h : i ≤ l.length) : Txt.count (S (l.take i)) ⟨#[10]⟩ + 1 = (((lc (l.take i)).1 : Nat) : Int) ∧ (i : Int) - Txt.rfind (S (l.take i)) ⟨#[10]⟩ = (((lc (l.take i)).2 : Nat) : Int) := by
  obtain ⟨h1, h2⟩ := lc_spec l i h
  refine ⟨by rw [count_one, h1]; simp, ?_⟩
  rcases rfind_one (l.take i) 10 with ⟨k1, k2⟩ | ⟨j, k1, k2, k3⟩
  · rw [k2]
    rcases h2 with ⟨_, h3⟩ | ⟨j, h3, _⟩
    · omega
    · exact absurd h3 (k1 j)
  · rw [k3]
    rcases h2 with ⟨h3, _⟩ | ⟨j', h3, h4, h5⟩
    · exact absurd k1 (h3 j)
    · have : j = j' := by
        rcases Nat.lt_trichotomy j j' with z | z | z
        · exact absurd h3 (k2 _ z)
        · exact z
        · exact absurd k1 (h4 _ z)
      omega
end Co.Tx
end

section
set_option maxHeartbeats 4000000
namespace Co.Tx
open PySem PySem.Spec PyProof.Rows L2 Co
abbrev oN : Option Nat → V
  | none => .non
  | some j => .int (j : Int)
abbrev oI : Option Int → V
  | none => .non
  | some j => .int j
abbrev fC (c : Pc) : List V := [.int (c.s : Int), .int (c.e : Int), .str (S c.put)]
abbrev fR (r : Row) : List V := [.str (S [r.1]), oN r.2]
abbrev fL (x : Nat × Nat) : List V := [.int (x.1 : Int), .int (x.2 : Int)]
def tot (cs : List Pc) : Nat := (cs.map fun c => c.put.length).sum
def TxV (K : PySem.W.Frag) (H : Hp) (x : V) (t : List Nat) : Prop := x = .str (S t) ∨ ∃ a, x = .ref a ∧ SqL K H a (chV t)
theorem TxV.same {K : PySem.W.Frag} {H H' : Hp} {x : V} {t : List Nat} (h : TxV K H x t) (e : Same H H') : TxV K H' x t := by
  rcases h with h | ⟨a, h1, h2⟩
  · exact .inl h
  · exact .inr ⟨a, h1, e.seq h2⟩
theorem sqA_same' {K : PySem.W.Frag} {H H' : Hp} {a : Addr} {xs : List V} (h : SqA K H a xs) (e : Same H H') : SqA K H' a xs := h.elim (fun h => .inl (e.seq h)) fun h => .inr (sqT_same e h)
structure Chg (K : PySem.W.Frag) (H : Hp) (a : Addr) (cs : List Pc) : Prop where
  ex : ∃ xs, SqA K H a xs ∧ Rw fC H xs cs
theorem Chg.same {K : PySem.W.Frag} {H H' : Hp} {a : Addr} {cs : List Pc} (h : Chg K H a cs) (e : Same H H') : Chg K H' a cs := let ⟨xs, h1, h2⟩ := h.ex; ⟨xs, sqA_same' h1 e, h2.kt (Kt.same e)⟩
theorem mark_len {t : List Nat} : ∀ {cs : List Pc} {lo a : Nat}, WfC t.length lo cs → a ≤ lo → a ≤ t.length → (mark t a cs).length + a ≤ t.length + tot cs
  | [], lo, a, _, _, h => by
    show (seg t a t.length).length + a ≤ _
    rw [seg_len]
    omega
  | c :: cs, lo, a, w, ha, h => by
    obtain ⟨w1, w2, w3, w4, w⟩ := w
    have ih := mark_len w (Nat.le_succ _) w3
    show (seg t a c.s ++ ins c.put ++ mark t c.e cs).length + a ≤ t.length + tot (c :: cs)
    rw [List.length_append, List.length_append, seg_len, ins_len]
    have e : tot (c :: cs) = c.put.length + tot cs := rfl
    omega
theorem tot_mem : ∀ {cs : List Pc} {c : Pc}, c ∈ cs → c.put.length ≤ tot cs
  | [], _, h => by cases h
  | d :: cs, c, h => by
    have e : tot (d :: cs) = d.put.length + tot cs := rfl
    rcases List.mem_cons.mp h with z | h
    · subst z
      omega
    · have := tot_mem h
      omega
def sp_char : Sp := fun vs H Q _ => match vs with
  | [.int c] => ∀ x : Nat, Q (.str (S [x])) H
  | _ => False
def sp_text : Sp := fun vs H Q _ => match vs with
  | [.ref p, .int n] => ∃ q, PoolAt H p q ∧ 0 ≤ n ∧ n ≤ 1000 ∧ ∀ (t : List Nat) H', (t.length : Int) = n → PoolAt H' p q → Fr [p] H H' → Q (.str (S t)) H'
  | _ => False
def sp_size : Sp := fun vs H Q _ => match vs with
  | [.ref p] => ∃ q, PoolAt H p q ∧ ∀ (n : Int) H', 0 ≤ n → n ≤ 600 → PoolAt H' p q → Fr [p] H H' → Q (.int n) H'
  | _ => False
def sp_change (K : PySem.W.Frag) : Sp := fun vs H Q _ => match vs with
  | [.ref p, .str z] => ∃ (q : Addr) (t : List Nat), z = S t ∧ t.length ≤ 10000 ∧ PoolAt H p q ∧ ∀ a xs cs H', H a = none → H' a = some (.lst xs) → Rw fC H' xs cs → WfC t.length 0 cs → tot cs ≤ 18 → cs.length ≤ 6 → PoolAt H' p q → Fr [p] H H' → Q (.ref a) H'
  | _ => False
def sp_marked (K : PySem.W.Frag) : Sp := fun vs H Q _ => match vs with
  | [x, .ref a] => ∃ (t : List Nat) (cs : List Pc), TxV K H x t ∧ Chg K H a cs ∧ WfC t.length 0 cs ∧ t.length + tot cs ≤ 100000 ∧ ∀ r ys H', H r = none → H' r = some (.lst ys) → Rw fR H' ys (mark t 0 cs) → Same H H' → Q (.ref r) H'
  | _ => False
abbrev after (t : List Nat) (cs : List Pc) : List Nat := (mark t 0 cs).map (·.1)
def sp_after (K : PySem.W.Frag) : Sp := fun vs H Q _ => match vs with
  | [x, .ref a] => ∃ (t : List Nat) (cs : List Pc), TxV K H x t ∧ Chg K H a cs ∧ WfC t.length 0 cs ∧ t.length + tot cs ≤ 100000 ∧ ∀ H', Same H H' → Q (.str (S (after t cs))) H'
  | _ => False
def sp_lines : Sp := fun vs H Q _ => match vs with
  | [.str z] => ∃ t : List Nat, z = S t ∧ t.length ≤ 10000 ∧ ∀ r ys H', H r = none → H' r = some (.lst ys) → Rw fL H' ys ((List.range (t.length + 1)).map fun i => lc (t.take i)) → Same H H' → Q (.ref r) H'
  | _ => False
def sp_carry (K : PySem.W.Frag) : Sp := fun vs H Q _ => match vs with
  | [.int n, .ref a, .int p] => ∃ (m : Nat) (cs : List Pc) (p' : Nat), n = (m : Int) ∧ p = (p' : Int) ∧ Chg K H a cs ∧ tot cs ≤ 100000 ∧ Q (oI (carry m 0 cs p')) H
  | _ => False
def sp_line : Sp := fun vs H Q _ => match vs with
  | [.str z, .int p] => ∃ (t : List Nat) (i : Nat), z = S t ∧ p = (i : Int) ∧ i ≤ t.length ∧ t.length ≤ 10000 ∧ ∀ l H', H l = none → H' l = some (.tup (fL (lc (t.take i)))) → Same H H' → Q (.ref l) H'
  | _ => False
def sp_law (K : PySem.W.Frag) : Sp := fun vs H Q _ => match vs with
  | [.ref a] => ∃ ns : List Int, SqL K H a (ns.map V.int) ∧ ns.length ≤ 63 ∧ ∀ H', Q (.bl true) H'
  | _ => False
end Co.Tx
end

section
set_option maxHeartbeats 4000000
namespace Co.Tx
open PySem PySem.Spec PyProof.Rows L2 Co
abbrev N_Lchar : List Str := ["_law_cell", "_law_signs"]
def t_Lchar (K : PySem.W.Frag) (E : XK) : TS :=
 (tSeq (tAsg (tC (.str "\n !\"#$&'()*+,-./0123456789:;<=>?@ABCDEFGHIJKLMNOPQRSTUVWXYZ[\\]^_`abcdefghijklmnopqrstuvwxyz{|}~")) (gName 1))
 (tRet (tOp rIxS (tV 1) (tOp fMod (tV 0) (tC (.int 95))))))
abbrev N_Ltext : List Str := ["_law_pool_here", "_law_size_here", "_law_kind", "_law_base", "_law_row", "_law_k"]
def t_Ltext (K : PySem.W.Frag) (E : XK) : TS :=
 (tSeq (tAsg (uCall (sp_take 2) E0 (tCons (tV 0) (tCons (tC (.int 3)) tNil))) (gName 2))
 (tSeq (tAsg (uCall (sp_take 2) E0 (tCons (tV 0) (tCons (tC (.int 95)) tNil))) (gName 3))
 (tSeq (tAsg (tLst tNil) (gName 4))
 (tSeq (tFor (iRng1 (tCons (tV 1) tNil)) (gName 5)
 (uIfS (tBo (tOp fEq (tV 2) (tC (.int 0)))) (tDrop (tBM K "list" rAppend (tV 4) (tCons (uCall sp_char E0 (tCons (uCall (sp_take 2) E0 (tCons (tV 0) (tCons (tC (.int 95)) tNil))) tNil)) tNil))) (uIfS (tBo (tOp fEq (tV 2) (tC (.int 1)))) (tDrop (tBM K "list" rAppend (tV 4) (tCons (tOp rIxS (tC (.str "ab\n")) (uCall (sp_take 2) E0 (tCons (tV 0) (tCons (tC (.int 3)) tNil)))) tNil))) (tDrop (tBM K "list" rAppend (tV 4) (tCons (uCall sp_char E0 (tCons (tV 3) tNil)) tNil))))))
 (tRet (tM1 (rJoinS K) (tC (.str "")) (tV 4)))))))
abbrev N_Lsize : List Str := ["_law_pool_here"]
def t_Lsize (K : PySem.W.Frag) (E : XK) : TS :=
 (tSeq (uIfS (tBo (tOp fEq (uCall (sp_take 2) E0 (tCons (tV 0) (tCons (tC (.int 8)) tNil))) (tC (.int 1)))) (tRet (uCall (sp_take 2) E0 (tCons (tV 0) (tCons (tC (.int 600)) tNil)))) tNext)
 (tRet (uCall (sp_take 2) E0 (tCons (tV 0) (tCons (tC (.int 24)) tNil)))))
abbrev N_Lchange : List Str := ["_law_pool_here", "_law_text_here", "_law_pieces", "_law_at", "_law_k", "_law_start", "_law_stop", "_law_put"]
def t_Lchange (K : PySem.W.Frag) (E : XK) : TS :=
 (tSeq (tAsg (tLst tNil) (gName 2))
 (tSeq (tAsg (tC (.int 0)) (gName 3))
 (tSeq (tFor (iRng1 (tCons (uCall (sp_take 2) E0 (tCons (tV 0) (tCons (tC (.int 7)) tNil))) tNil)) (gName 4)
 (tSeq (tAsg (tOp fAdd (tV 3) (tOp (rIxT K) (tTup (tCons (uCall (sp_take 2) E0 (tCons (tV 0) (tCons (tC (.int 4)) tNil))) (tCons (uCall (sp_take 2) E0 (tCons (tV 0) (tCons (tC (.int 60)) tNil))) tNil))) (tOp fDiv (uCall (sp_take 2) E0 (tCons (tV 0) (tCons (tC (.int 4)) tNil))) (tC (.int 3))))) (gName 5))
 (uIfS (tBo (tOp fLe (tV 5) (tCB cLenS (tCons (tV 1) tNil)))) (tSeq (tAsg (tCB cMinW (tCons (tCB cLenS (tCons (tV 1) tNil)) (tCons (tOp fAdd (tV 5) (tOp (rIxT K) (tTup (tCons (uCall (sp_take 2) E0 (tCons (tV 0) (tCons (tC (.int 3)) tNil))) (tCons (uCall (sp_take 2) E0 (tCons (tV 0) (tCons (tC (.int 30)) tNil))) tNil))) (tOp fDiv (uCall (sp_take 2) E0 (tCons (tV 0) (tCons (tC (.int 5)) tNil))) (tC (.int 4))))) tNil))) (gName 6))
 (tSeq (tAsg (uCall sp_text E0 (tCons (tV 0) (tCons (uCall (sp_take 2) E0 (tCons (tV 0) (tCons (tC (.int 4)) tNil))) tNil))) (gName 7))
 (tSeq (uIfS (uAnd (tBo (tOp fEq (tV 5) (tV 6))) (tBo (tOp fEq (tV 7) (tC (.str ""))))) (tAsg (tC (.str "x")) (gName 7)) tNext)
 (tSeq (tDrop (tBM K "list" rAppend (tV 2) (tCons (tTup (tCons (tV 5) (tCons (tV 6) (tCons (tV 7) tNil)))) tNil)))
 (tAsg (tOp fAdd (tV 6) (tC (.int 1))) (gName 3)))))) tNext)))
 (tRet (tV 2)))))
abbrev N_Lmarked : List Str := ["_law_text_here", "_law_change_here", "_law_rows", "_law_at", "_law_start", "_law_stop", "_law_put", "_law_k", "_law_sign"]
def t_Lmarked (K : PySem.W.Frag) (E : XK) : TS :=
 (tSeq (tAsg (tLst tNil) (gName 2))
 (tSeq (tAsg (tC (.int 0)) (gName 3))
 (tSeq (tFor (iSeq K (tV 1)) (gTup K 3 (gCons (gName 4) (gCons (gName 5) (gCons (gName 6) gNil))))
 (tSeq (tAsg (tOp rCat (tOp rCat (tV 2) (uLc (iRng2 (tCons (tV 3) (tCons (tV 4) tNil))) (gName 7) tYes (tTup (tCons (tOp (rIx K) (tV 0) (tV 7)) (tCons (tV 7) tNil))) ([("_law_k", 7)].map (·.2)))) (uLc (iStr (tV 6)) (gName 8) tYes (tTup (tCons (tV 8) (tCons (tC .non) tNil))) ([("_law_sign", 8)].map (·.2)))) (gName 2))
 (tAsg (tV 5) (gName 3))))
 (tRet (tOp rCat (tV 2) (uLc (iRng2 (tCons (tV 3) (tCons (tCB (cLenA K) (tCons (tV 0) tNil)) tNil))) (gName 7) tYes (tTup (tCons (tOp (rIx K) (tV 0) (tV 7)) (tCons (tV 7) tNil))) ([("_law_k", 7)].map (·.2))))))))
abbrev N_Lafter : List Str := ["_law_text_here", "_law_change_here", "_law_row"]
def t_Lafter (K : PySem.W.Frag) (E : XK) : TS :=
 (tRet (tM1 (rJoinS K) (tC (.str "")) (uLc (iList K (uCall (sp_marked K) E0 (tCons (tV 0) (tCons (tV 1) tNil)))) (gName 2) tYes (tOp (rIx K) (tV 2) (tC (.int 0))) ([("_law_row", 2)].map (·.2)))))
abbrev N_Llines : List Str := ["_law_text_here", "_law_rows", "_law_line", "_law_column", "_law_sign"]
def t_Llines (K : PySem.W.Frag) (E : XK) : TS :=
 (tSeq (tAsg (tLst tNil) (gName 1))
 (tSeq (tAsg (tC (.int 1)) (gName 2))
 (tSeq (tAsg (tC (.int 1)) (gName 3))
 (tSeq (tFor (iStr (tV 0)) (gName 4)
 (tSeq (tDrop (tBM K "list" rAppend (tV 1) (tCons (tTup (tCons (tV 2) (tCons (tV 3) tNil))) tNil)))
 (tSeq (tAsg (tOp fAdd (tV 3) (tC (.int 1))) (gName 3))
 (uIfS (tBo (tOp fEq (tV 4) (tC (.str "\n")))) (tSeq (tAsg (tOp fAdd (tV 2) (tC (.int 1))) (gName 2))
 (tAsg (tC (.int 1)) (gName 3))) tNext))))
 (tRet (tOp rCat (tV 1) (tLst (tCons (tTup (tCons (tV 2) (tCons (tV 3) tNil))) tNil))))))))
abbrev N_carry_place : List Str := ["size", "change", "place", "moved", "start", "stop", "put"]
def t_carry_place (K : PySem.W.Frag) (E : XK) : TS :=
 (tSeq (tAsg (tC (.int 0)) (gName 3))
 (tSeq (tFor (iSeq K (tV 1)) (gTup K 3 (gCons (gName 4) (gCons (gName 5) (gCons (gName 6) gNil))))
 (tSeq (uIfS (uAnd (tBo (tOp fLt (tV 2) (tV 0))) (tBo (tOp fLt (tV 2) (tV 4)))) (tRet (tOp fAdd (tV 2) (tV 3))) tNext)
 (tSeq (uIfS (uAnd (tBo (tOp fLt (tV 2) (tV 0))) (tBo (tOp fLt (tV 2) (tV 5)))) (tRet (tC .non)) tNext)
 (uAug 3 (tOp fSub (tCB cLenS (tCons (tV 6) tNil)) (tOp fSub (tV 5) (tV 4))) iiAdd))))
 (tRet (tOp fAdd (tV 2) (tV 3)))))
abbrev N_line_and_column : List Str := ["text", "place", "before"]
def t_line_and_column (K : PySem.W.Frag) (E : XK) : TS :=
 (tSeq (tAsg (tSl rSlS (tV 0) tNoPart (tPart (tV 1))) (gName 2))
 (tRet (tTup (tCons (tOp fAdd (tM1 rCountS (tV 2) (tC (.str "\n"))) (tC (.int 1))) (tCons (tOp fSub (tV 1) (tM1 rRfindS (tV 2) (tC (.str "\n")))) tNil)))))
end Co.Tx
end

section
set_option maxHeartbeats 4000000
namespace Co.Tx
open PySem PySem.Spec PyProof.Rows L2 Co
local macro_rules | `(tactic| walk_at "no") => `(tactic| refine ⟨fun e => absurd e (by decide), fun _ => ?_⟩)
local macro_rules | `(tactic| walk_at "yes") => `(tactic| refine ⟨fun _ => ?_, fun e => absurd e (by decide)⟩)
theorem upd_nn {H : Hp} {a b : Addr} {o : HO} (e : upd H a o b = none) : H b = none ∧ b ≠ a := by
  by_cases z : b = a
  · subst z
    rw [upd_same] at e
    cases e
  · rw [upd_ne z] at e
    exact ⟨e, z⟩
theorem atI_nth {l : List Nat} {i : Int} (h0 : 0 ≤ i) (h1 : i < l.length) : ∃ c, atI l i = some c := by
  have h : i.toNat < l.length := by omega
  exact ⟨l[i.toNat], atNat h0 (by simp [h])⟩
theorem nl_eq : (("\n" : Str)) = S [10] := by decide +kernel
theorem e_eq : (("" : Str)) = S [] := by decide +kernel
section
variable {K : PySem.W.Frag} {vs : List V} {H : Hp} {Q : VK} {E : XK}
theorem signs_len : ((("\n !\"#$&'()*+,-./0123456789:;<=>?@ABCDEFGHIJKLMNOPQRSTUVWXYZ[\\]^_`abcdefghijklmnopqrstuvwxyz{|}~" : Str)).cps.toList).length = 95 := by decide +kernel
theorem ab_len : ((("ab\n" : Str)).cps.toList).length = 3 := by decide +kernel
theorem len_le {z : Str} {n : Nat} (h : z.cps.toList.length = n) (h2 : n ≤ 1000) : z.length ≤ sizeLine := by
  have : z.length = z.cps.toList.length := by show z.cps.size = _; simp
  rw [sizeLine_eq]
  omega
theorem r_char (h : sp_char vs H Q E) : t_Lchar K E (Dn Q) (start N_Lchar vs) H := by
  unfold sp_char at h
  split at h
  · rename_i c
    obtain ⟨x, hx⟩ := atI_nth (l := (("\n !\"#$&'()*+,-./0123456789:;<=>?@ABCDEFGHIJKLMNOPQRSTUVWXYZ[\\]^_`abcdefghijklmnopqrstuvwxyz{|}~" : Str)).cps.toList) (i := c % 95) (by omega) (by rw [signs_len]; omega)
    exact ⟨show (0 : Int) < 95 by decide, _, _, x, rfl, rfl, len_le signs_len (by decide), hx, h x⟩
  · exact h.elim
theorem r_size (h : sp_size vs H Q E) : t_Lsize K E (Dn Q) (start N_Lsize vs) H := by
  unfold sp_size at h
  split at h
  · rename_i p
    obtain ⟨q, P, k⟩ := h
    refine ⟨by decide, q, P.take, by decide, by decide, fun r H1 h1 h2 P1 f1 => ?_⟩
    refine ⟨fun _ => ?_, fun _ => ?_⟩
    · exact ⟨by decide, q, P1.take, by decide, by decide, fun n H2 h3 h4 P2 f2 => k n H2 h3 (by omega) P2 (f1.trans f2)⟩
    · exact ⟨by decide, q, P1.take, by decide, by decide, fun n H2 h3 h4 P2 f2 => k n H2 h3 (by omega) P2 (f1.trans f2)⟩
  · exact h.elim
theorem sum_ones : ∀ l : List Nat, ((l.map fun c => S [c]).map (·.length)).sum = l.length
  | [] => rfl
  | c :: l => by
    rw [List.map_cons, List.map_cons, List.sum_cons, sum_ones l, S_len]
    simp
    omega
theorem flat_ones : ∀ l : List Nat, (l.map fun c => [c]).flatten = l
  | [] => rfl
  | c :: l => by rw [List.map_cons, List.flatten_cons, flat_ones l]; rfl
theorem chV_eq (l : List Nat) : chV l = (l.map fun c => S [c]).map V.str := by rw [List.map_map]; rfl
theorem join_ones (l : List Nat) : Txt.join (S []) (l.map fun c => S [c]) = S l := by
  have := joinT (l.map fun c => [c])
  rw [List.map_map, flat_ones] at this
  exact this
theorem j_ones {a : Addr} {l : List Nat} (h : SqA K H a (chV l)) (hl : l.length ≤ 1000000) (q : Q (.str (S l)) H) : rJoinS K (.str "") [.ref a] H Q := by
  refine ⟨l.map fun c => S [c], chV_eq l ▸ h, ?_, ?_⟩
  · rw [sum_ones, e_eq, S_len]
    simp
    omega
  · rw [e_eq, join_ones]
    exact q
theorem r_text (h : sp_text vs H Q E) : t_Ltext K E (Dn Q) (start N_Ltext vs) H := by
  unfold sp_text at h
  split at h
  · rename_i p n
    obtain ⟨q, P, hn0, hn1, k⟩ := h
    refine ⟨by decide, q, P.take, by decide, by decide, fun k2 H1 a1 a2 P1 f1 => ?_⟩
    refine ⟨by decide, q, P1.take, by decide, by decide, fun k3 H2 b1 b2 P2 f2 => ?_⟩
    refine ⟨by show 0 ≤ sizeLine; omega, fun D hD => ?_⟩
    have np : ∀ {G : Hp}, G D = none → PoolAt G p q → D ≠ p ∧ D ≠ q := fun hG PG => by
      obtain ⟨⟨o, e⟩, ⟨o', e'⟩, _⟩ := PG.ex
      exact ⟨fun (z : D = p) => (by rw [← z, hG] at e; cases e), fun (z : D = q) => (by rw [← z, hG] at e'; cases e')⟩
    obtain ⟨n1, n2⟩ := np hD P2
    refine ⟨n, rfl, by omega, by omega, ?_⟩
    refine for_range (lo := 0) (n := n.toNat) (fun i σ' H' => ∃ (z5 : Option V) (l : List Nat), σ' = [some (.ref p), some (.int n), some (.int k2), some (.int k3), some (.ref D), z5] ∧ H' D = some (.lst (chV l)) ∧ l.length = i ∧ PoolAt H' p q ∧ Fr [p] H H')
      ⟨none, [], rfl, upd_same, rfl, P2.same (same_new (Same.refl _) hD), (f1.trans f2).new hD⟩ ?_ ?_
    · rintro i σ' H' hi ⟨z5, l, rfl, hl, hli, PP, ff⟩
      have fin : ∀ (c : Nat) (G : Hp), G D = some (.lst (chV l)) → PoolAt G p q → Fr [p] H' G → rAppend (.ref D) [.str (S [c])] G fun _ H1 => ∃ (z5 : Option V) (l : List Nat), [some (V.ref p), some (.int n), some (.int k2), some (.int k3), some (.ref D), some (.int (0 + (i : Int)))] = [some (.ref p), some (.int n), some (.int k2), some (.int k3), some (.ref D), z5] ∧ H1 D = some (.lst (chV l)) ∧ l.length = i + 1 ∧ PoolAt H1 p q ∧ Fr [p] H H1 := fun c G e PG fG => by
        refine ⟨D, _, _, rfl, rfl, e, by rw [chV_len, sizeLine_eq]; omega, _, l ++ [c], rfl, ?_, by simp [hli], PG.fr (S := [D]) (Fr.wr (Fr.refl _ _) (by simp)) (by simp [n1.symm]) (by simp [n2.symm]), ?_⟩
        · rw [upd_same]
          simp
        · exact (ff.trans fG).loc (by
            cases e0 : H D with
            | none => rfl
            | some o =>
              have := (f1.trans f2) D o e0 (by simp [n1])
              rw [hD] at this
              cases this)
      refine ⟨fun _ => ?_, fun _ => ⟨fun _ => ?_, fun _ => ?_⟩⟩
      · refine ⟨.inl ⟨rfl, _, SqL.of hl⟩, by decide, q, PP.take, by decide, by decide, fun c G g1 g2 PG fG => fun x => ?_⟩
        exact fin x G (fG.at1 hl n1) PG fG
      · refine ⟨.inl ⟨rfl, _, SqL.of hl⟩, by decide, q, PP.take, by decide, by decide, fun c G g1 g2 PG fG => ?_⟩
        obtain ⟨x, hx⟩ := atI_nth (l := (("ab\n" : Str)).cps.toList) (i := c) g1 (by rw [ab_len]; exact g2)
        exact ⟨_, _, x, rfl, rfl, len_le ab_len (by decide), hx, fin x G (fG.at1 hl n1) PG fG⟩
      · exact ⟨.inl ⟨rfl, _, SqL.of hl⟩, fun x => fin x H' hl PP (Fr.refl _ _)⟩
    · rintro σ' H' ⟨z5, l, rfl, hl, hli, PP, ff⟩
      refine ⟨⟨_, rfl⟩, ?_⟩
      refine j_ones (.inl (SqL.of hl)) (by omega) (k l H' (by omega) PP ff)
  · exact h.elim
theorem ne_pool {G : Hp} {D p q : Addr} (hG : G D = none) (PG : PoolAt G p q) : D ≠ p ∧ D ≠ q := by
  obtain ⟨⟨o, e⟩, ⟨o', e'⟩, _⟩ := PG.ex
  exact ⟨fun (z : D = p) => (by rw [← z, hG] at e; cases e), fun (z : D = q) => (by rw [← z, hG] at e'; cases e')⟩
theorem none_back {G G' : Hp} {D p : Addr} (f : Fr [p] G G') (h : G' D = none) (n : D ≠ p) : G D = none := by
  cases e0 : G D with
  | none => rfl
  | some o =>
    have := f D o e0 (by simp [n])
    rw [h] at this
    cases this
theorem pool_kt {G G' : Hp} {p q : Addr} (P : PoolAt G p q) (f : Fr [p] G G') : Kt G G' := by
  obtain ⟨ns, i, d, s, P⟩ := P
  exact Kt.fr f fun b hb ys e => by
    have z : b = p := by simpa using hb
    subst z
    rw [P.hp] at e
    cases e
theorem drop_get {α : Type} {xs : List α} {i : Nat} {c : α} (h1 : xs[i]? = some c) : xs.drop i = c :: xs.drop (i + 1) := by
  have hi := (List.getElem?_eq_some_iff.mp h1).1
  rw [List.drop_eq_getElem_cons hi]
  congr 1
  rw [List.getElem?_eq_getElem hi] at h1
  exact Option.some.inj h1
theorem carry_cons {n : Nat} {m : Int} {c : Pc} {cs : List Pc} {p : Nat} : carry n m (c :: cs) p = if p < n ∧ p < c.s then some ((p : Int) + m) else if p < n ∧ p < c.e then none else carry n (mvd m c) cs p := rfl
theorem r_carry (h : sp_carry K vs H Q E) : t_carry_place K E (Dn Q) (start N_carry_place vs) H := by
  unfold sp_carry at h
  split at h
  · rename_i n a p
    obtain ⟨m, cs, p', rfl, rfl, ⟨xs, hs, hr⟩, ht, k⟩ := h
    refine forA_of (K := K) (tl := fun _ H Q => Q (.ref a) H) (fun Q q => q) hs (fun i σ' H' => ∃ (z4 z5 z6 : Option V) (mv : Int), σ' = [some (.int (m : Int)), some (.ref a), some (.int (p' : Int)), some (.int mv), z4, z5, z6] ∧ H' = H ∧ carry m 0 cs p' = carry m mv (cs.drop i) p')
      ⟨none, none, none, 0, rfl, rfl, rfl⟩ (fun i σ' H' hi ⟨_, _, _, _, _, e, _⟩ => by rw [e]; exact Same.refl _) ?_ ?_
    · rintro i x σ' H' hx ⟨z4, z5, z6, mv, rfl, rfl, hc⟩
      obtain ⟨c, l, h1, rfl, h2⟩ := hr.get hx
      have hd : cs.drop i = c :: cs.drop (i + 1) := drop_get h1
      rw [hd, carry_cons] at hc
      have hpl : c.put.length ≤ 100000 := Nat.le_trans (tot_mem (List.mem_of_getElem? h1)) ht
      refine ⟨l, _, rfl, SqT.of h2, rfl, _, _, rfl, _, _, rfl, _, _, rfl, rfl, ?_⟩
      refine andD (fun e => ?_) (fun e => ?_)
      · rw [if_pos (by omega)] at hc
        rw [hc] at k
        exact k
      rw [if_neg (by omega)] at hc
      refine andD (fun e => ?_) (fun e => ?_)
      · rw [if_pos (by omega)] at hc
        rw [hc] at k
        exact k
      rw [if_neg (by omega)] at hc
      exact ⟨by rw [S_len, sizeLine_eq]; omega, _, _, _, _, rfl, rfl, by rw [hc, S_len]; rfl⟩
    · rintro σ' H' ⟨z4, z5, z6, mv, rfl, rfl, hc⟩
      rw [hr.len, List.drop_length] at hc
      rw [hc] at k
      exact k
  · exact h.elim
theorem r_line (h : sp_line vs H Q E) : t_line_and_column K E (Dn Q) (start N_line_and_column vs) H := by
  unfold sp_line at h
  split at h
  · obtain ⟨t, i, rfl, rfl, hi, hl, k⟩ := h
    refine ⟨_, rfl, _, rfl, by rw [S_len, sizeLine_eq]; omega, ⟨⟨_, rfl⟩, ?_⟩⟩
    show _ ∧ _
    refine ⟨⟨_, rfl⟩, by show 2 ≤ sizeLine; rw [sizeLine_eq]; omega, fun l hn => ?_⟩
    refine k l _ hn ?_ (same_new (Same.refl _) hn)
    rw [upd_same]
    obtain ⟨h1, h2⟩ := line_col t i hi
    show some (HO.tup [.int (Txt.count (cutS (S t) none (some (i : Int))) "\n" + 1), .int ((i : Int) - Txt.rfind (cutS (S t) none (some (i : Int))) "\n")]) = _
    rw [cutS_to hi, nl_eq, h1, h2]
  · exact h.elim
end
end Co.Tx
end

section
set_option maxHeartbeats 4000000
namespace Co.Tx
open PySem PySem.Spec PyProof.Rows L2 Co
local macro_rules | `(tactic| walk_at "no") => `(tactic| refine ⟨fun e => absurd e (by decide), fun _ => ?_⟩)
local macro_rules | `(tactic| walk_at "yes") => `(tactic| refine ⟨fun _ => ?_, fun e => absurd e (by decide)⟩)
section
variable {K : PySem.W.Frag} {vs : List V} {H : Hp} {Q : VK} {E : XK}
theorem ixTx {x : V} {t : List Nat} {k : Nat} (h : TxV K H x t) (hk : k < t.length) (hl : t.length ≤ 1000000) (q : Q (.str (S [t.getD k 0])) H) : rIx K x (.int (k : Int)) H Q := by
  have e : t.getD k 0 = t[k] := by simp [hk]
  rw [e] at q
  rcases h with rfl | ⟨a, rfl, h⟩
  · exact .inr (.inr ⟨_, _, t[k], rfl, rfl, by rw [S_len, sizeLine_eq]; omega, atI_nat (by simp [hk]), q⟩)
  · exact .inl ⟨a, _, _, .str (S [t[k]]), rfl, rfl, h, atI_nat (by simp [hk]), q⟩
theorem r_lines (h : sp_lines vs H Q E) : t_Llines K E (Dn Q) (start N_Llines vs) H := by
  unfold sp_lines at h
  split at h
  · obtain ⟨t, rfl, hl, k⟩ := h
    refine ⟨by show 0 ≤ sizeLine; omega, fun D hD => ?_⟩
    refine ⟨S t, rfl, forW wk_str (fun i σ' H' => ∃ (z : Option V) (ys : List V), σ' = [some (.str (S t)), some (.ref D), some (.int (((lc (t.take i)).1 : Nat) : Int)), some (.int (((lc (t.take i)).2 : Nat) : Int)), z] ∧ H' D = some (.lst ys) ∧ Rw fL H' ys ((List.range i).map fun i => lc (t.take i)) ∧ Same H H')
      ⟨none, [], rfl, upd_same, Rw.nil, same_new (Same.refl _) hD⟩ (fun _ _ _ _ _ => trivial) ?_ ?_⟩
    · rintro i x σ' H' hx ⟨z, ys, rfl, h1, h2, h3⟩
      obtain ⟨c, hc, rfl⟩ := chV_get hx
      have hi : i < t.length := (List.getElem?_eq_some_iff.mp hc).1
      refine ⟨.inl ⟨rfl, _, SqL.of h1⟩, by show 2 ≤ sizeLine; rw [sizeLine_eq]; omega, fun l hn => ?_⟩
      have e1 := keep_new (o' := .tup [.int (((lc (t.take i)).1 : Nat) : Int), .int (((lc (t.take i)).2 : Nat) : Int)]) hn h1
      refine ⟨D, _, _, rfl, rfl, e1, by rw [h2.len, List.length_map, List.length_range, sizeLine_eq]; omega, ?_⟩
      have e2 : lc (t.take (i + 1)) = lstep (lc (t.take i)) c := by
        unfold lc
        exact foldl_take hc
      have fin : ∃ ys', (upd (upd H' l (.tup (fL (lc (t.take i))))) D (.lst (ys ++ [.ref l]))) D = some (.lst ys') ∧ Rw fL (upd (upd H' l (.tup (fL (lc (t.take i))))) D (.lst (ys ++ [.ref l]))) ys' ((List.range (i + 1)).map fun i => lc (t.take i)) ∧ Same H (upd (upd H' l (.tup (fL (lc (t.take i))))) D (.lst (ys ++ [.ref l]))) := by
        refine ⟨_, upd_same, ?_, same_loc (same_new h3 hn) hD⟩
        rw [List.range_succ, List.map_append]
        exact Rw.app (h2.kt ((Kt.new hn).trans (Kt.lst e1))) (Rw.one ((Kt.lst e1) _ _ upd_same))
      refine oneD (fun e => ?_) (fun e => ?_)
      · have e : c = 10 := by
          rw [nl_eq] at e
          have := S_inj e
          simpa using this
        obtain ⟨ys', q1, q2, q3⟩ := fin
        refine ⟨some (.str (S [c])), ys', ?_, q1, q2, q3⟩
        rw [e2]
        unfold lstep
        rw [if_pos e]
        rfl
      · have e : c ≠ 10 := fun z => e (by rw [nl_eq, z])
        obtain ⟨ys', q1, q2, q3⟩ := fin
        refine ⟨some (.str (S [c])), ys', ?_, q1, q2, q3⟩
        rw [e2]
        unfold lstep
        rw [if_neg e]
        rfl
    · rintro σ' H' ⟨z, ys, rfl, h1, h2, h3⟩
      rw [chV_len] at h2 ⊢
      refine ⟨by show 2 ≤ sizeLine; rw [sizeLine_eq]; omega, fun l hn => ⟨by show 1 ≤ sizeLine; rw [sizeLine_eq]; omega, fun b hb => ?_⟩⟩
      have e1 := keep_new (o' := .tup (fL (lc (t.take t.length)))) hn h1
      have e2 := keep_new (o' := .lst [.ref l]) hb e1
      refine ⟨D, b, _, _, rfl, rfl, e2, upd_same, by rw [h2.len, List.length_map, List.length_range, sizeLine_eq]; show t.length + 1 ≤ _; omega, fun r hr => ?_⟩
      refine k r _ _ ?_ upd_same ?_ (same_new (same_new (same_new h3 hn) hb) hr)
      · exact none_of (same_new (same_new h3 hn) hb) hr
      · rw [List.range_succ, List.map_append]
        have k1 : Kt (upd H' l (.tup (fL (lc (t.take t.length))))) (upd (upd (upd H' l (.tup (fL (lc (t.take t.length))))) b (.lst [.ref l])) r (.lst (ys ++ [.ref l]))) := (Kt.new hb).trans (Kt.new hr)
        exact Rw.app (h2.kt ((Kt.new hn).trans k1)) (Rw.one (k1 _ _ upd_same))
  · exact h.elim
theorem segC {x : V} {t : List Nat} {a0 b : Nat} {a : Addr} {z2 z3 z4 z5 z6 z7 z8 : Option V} {QD : Addr → Hp → Prop} (hx : TxV K H x t) (hb : b ≤ t.length) (hl : t.length ≤ 100000)
    (k : ∀ D ys H', H D = none → H' D = some (.lst ys) → Rw fR H' ys (seg t a0 b) → Same H H' → QD D H') :
    LcBody (Itr (a0 : Int) ((b : Int) - (a0 : Int)).toNat) (gName 7) tYes (tTup (tCons (tOp (rIx K) (tV 0) (tV 7)) (tCons (tV 7) tNil))) ([("_law_k", 7)].map (·.2)) [some x, some (.ref a), z2, z3, z4, z5, z6, z7, z8] H QD := by
  refine lcRw (f := fR) (as := seg t a0 b) wk_rng ?_ ?_ (fun _ _ => trivial) ?_ k
  · rw [rgV_len, seg_len]
    omega
  · rw [seg_len]
    omega
  · intro i y r H' Q' hy hr s q
    obtain ⟨h1, rfl⟩ := rgV_get hy
    obtain ⟨h2, rfl⟩ := seg_get hr
    refine ⟨rfl, ?_⟩
    exact ixTx (k := a0 + i) (hx.same s) (by omega) (by omega) ⟨by show 2 ≤ sizeLine; rw [sizeLine_eq]; omega, fun l hn => q l hn⟩
theorem insC {x : V} {p : List Nat} {a : Addr} {z2 z3 z4 z5 z6 z7 z8 : Option V} {QD : Addr → Hp → Prop} (hl : p.length ≤ 100000)
    (k : ∀ D ys H', H D = none → H' D = some (.lst ys) → Rw fR H' ys (ins p) → Same H H' → QD D H') :
    LcBody (Its (S p)) (gName 8) tYes (tTup (tCons (tV 8) (tCons (tC .non) tNil))) ([("_law_sign", 8)].map (·.2)) [some x, some (.ref a), z2, z3, z4, z5, z6, z7, z8] H QD := by
  refine lcRw (f := fR) (as := ins p) wk_str ?_ ?_ (fun _ _ => trivial) ?_ k
  · rw [chV_len, ins_len]
  · rw [ins_len]
    omega
  · intro i y r H' Q' hy hr s q
    obtain ⟨c, h1, rfl⟩ := chV_get hy
    unfold ins at hr
    rw [List.getElem?_map, h1] at hr
    cases Option.some.inj hr
    exact ⟨rfl, by show 2 ≤ sizeLine; rw [sizeLine_eq]; omega, fun l hn => q l hn⟩
theorem r_marked (h : sp_marked K vs H Q E) : t_Lmarked K E (Dn Q) (start N_Lmarked vs) H := by
  unfold sp_marked at h
  split at h
  · rename_i x a
    obtain ⟨t, cs, hx, ⟨xs, hs, hr⟩, wf, hl, k⟩ := h
    have hm := mark_len wf (Nat.le_refl 0) (Nat.zero_le _)
    refine ⟨by show 0 ≤ sizeLine; omega, fun D hD => ?_⟩
    have s0 : Same H (upd H D (.lst [])) := same_new (Same.refl _) hD
    refine forA_of (K := K) (tl := fun _ H Q => Q (.ref a) H) (fun Q q => q) (sqA_same' hs s0) (fun i σ' H' => ∃ (z4 z5 z6 : Option V) (r : Addr) (ys : List V), σ' = [some x, some (.ref a), some (.ref r), some (.int ((((cs.take i).foldl (mstep t) ([], 0)).2 : Nat) : Int)), z4, z5, z6, none, none] ∧ H' r = some (.lst ys) ∧ Rw fR H' ys ((cs.take i).foldl (mstep t) ([], 0)).1 ∧ Same (upd H D (.lst [])) H')
      ⟨none, none, none, D, [], rfl, upd_same, Rw.nil, Same.refl _⟩ (fun i σ' H' hi ⟨_, _, _, _, _, _, _, _, s⟩ => s) ?_ ?_
    · rintro i v σ' H' hv ⟨z4, z5, z6, r, ys, rfl, h1, h2, s1⟩
      obtain ⟨c, l, hc, rfl, hl2⟩ := (hr.kt (Kt.same (s0.trans s1))).get hv
      obtain ⟨w1, w2, w3, w4⟩ := wf_mem wf (List.mem_of_getElem? hc)
      have hp := tot_mem (List.mem_of_getElem? hc)
      have hx1 := hx.same (s0.trans s1)
      have hle := fold_le (t := t) (cs := cs) (i := i)
      have hle2 := fold_le (t := t) (cs := cs) (i := i + 1)
      rw [foldl_take hc] at hle2
      have hle3 : (((cs.take i).foldl (mstep t) ([], 0)).1 ++ seg t ((cs.take i).foldl (mstep t) ([], 0)).2 c.s ++ ins c.put).length ≤ (mark t 0 cs).length := hle2
      rw [List.length_append, List.length_append] at hle3
      refine ⟨l, _, rfl, SqT.of hl2, rfl, _, _, rfl, _, _, rfl, _, _, rfl, rfl, ?_⟩
      have hfb : ((cs.take i).foldl (mstep t) ([], 0)).2 ≤ t.length := fold_bd wf
      refine ⟨_, _, rfl, ⟨by omega, by omega, by omega, by omega⟩, segC hx1 (by omega) (by omega) fun D1 ys1 G1 n1 e1 R1 S1 => ?_⟩
      refine ⟨r, D1, _, _, rfl, rfl, S1 _ _ h1, e1, by rw [h2.len, R1.len, sizeLine_eq]; omega, fun r1 hr1 => ?_⟩
      refine ⟨S c.put, rfl, insC (by omega) fun D2 ys2 G2 n2 e2 R2 S2 => ?_⟩
      have er1 : G2 r1 = some (.lst (ys ++ ys1)) := S2 _ _ upd_same
      refine ⟨r1, D2, _, _, rfl, rfl, er1, e2, by rw [List.length_append, h2.len, R1.len, R2.len, sizeLine_eq]; omega, fun r2 hr2 => ?_⟩
      have s2 : Same G1 (upd G2 r2 (.lst (ys ++ ys1 ++ ys2))) := (same_new (Same.refl _) hr1).trans (same_new S2 hr2)
      refine ⟨some (.int (c.s : Int)), some (.int (c.e : Int)), some (.str (S c.put)), r2, _, ?_, upd_same, ?_, s1.trans (S1.trans s2)⟩
      · rw [foldl_take hc]
        rfl
      · rw [foldl_take hc]
        exact ((h2.kt (Kt.same (S1.trans s2))).app (R1.kt (Kt.same s2))).app (R2.kt (Kt.new hr2))
    · rintro σ' H' ⟨z4, z5, z6, r, ys, rfl, h1, h2, s1⟩
      rw [hr.len, List.take_length] at h2 ⊢
      have hx1 := hx.same (s0.trans s1)
      have hmf := congrArg List.length (mark_fold t cs [] 0)
      rw [List.length_append, List.nil_append] at hmf
      have hfb : (cs.foldl (mstep t) ([], 0)).2 ≤ t.length := by
        have := fold_bd (t := t) (i := cs.length) wf
        rw [List.take_length] at this
        exact this
      have fin : ∀ b : Nat, b = t.length → ∀ D1 ys1 G1, H' D1 = none → G1 D1 = some (.lst ys1) → Rw fR G1 ys1 (seg t (cs.foldl (mstep t) ([], 0)).2 b) → Same H' G1 → rCat (.ref r) (.ref D1) G1 Q := fun b hb D1 ys1 G1 n1 e1 R1 S1 => by
        subst hb
        refine ⟨r, D1, _, _, rfl, rfl, S1 _ _ h1, e1, by rw [h2.len, R1.len, sizeLine_eq]; omega, fun r1 hr1 => ?_⟩
        refine k r1 _ _ (none_of (s0.trans (s1.trans S1)) hr1) upd_same ?_ ((s0.trans (s1.trans S1)).trans (same_new (Same.refl _) hr1))
        have := mark_fold t cs [] 0
        rw [List.nil_append] at this
        rw [← this]
        exact (h2.kt (Kt.same (S1.trans (same_new (Same.refl _) hr1)))).app (R1.kt (Kt.new hr1))
      rcases hx1 with rfl | ⟨a1, rfl, hx1⟩
      · refine ⟨by rw [S_len, sizeLine_eq]; omega, _, _, rfl, ⟨by omega, by omega, by omega, by rw [S_len]; omega⟩, ?_⟩
        exact segC (b := (S t).length) (.inl rfl) (by rw [S_len]; omega) (by omega) (fin _ (S_len t))
      · refine ⟨_, .inl ⟨_, .inl hx1, rfl⟩, _, _, rfl, ⟨by omega, by omega, by omega, by rw [chV_len]; omega⟩, ?_⟩
        exact segC (b := (chV t).length) (.inr ⟨a1, rfl, hx1⟩) (by rw [chV_len]; omega) (by omega) (fin _ chV_len)
  · exact h.elim
theorem r_after (h : sp_after K vs H Q E) : t_Lafter K E (Dn Q) (start N_Lafter vs) H := by
  unfold sp_after at h
  split at h
  · rename_i x a
    obtain ⟨t, cs, hx, hc, wf, hl, k⟩ := h
    have hm := mark_len wf (Nat.le_refl 0) (Nat.zero_le _)
    refine ⟨⟨_, rfl⟩, ?_⟩
    refine ⟨t, cs, hx, hc, wf, hl, fun r ys H' hr h1 h2 s => ⟨r, rfl, ⟨_, SqL.of h1⟩, ?_⟩⟩
    refine lcVal (ws := chV (after t cs)) (n := 2) (te := tOp (rIx K) (tV 2) (tC (.int 0))) (vs := [("_law_row", 2)].map (·.2)) (σ := [some x, some (.ref a), none]) (wk_list (K := K)) (by rw [h2.len]; simp) (by simp; omega) (fun H2 s2 => s2.seq (SqL.of h1)) ?_ fun D H2 _ e2 s2 => ?_
    · intro i y z H2 Q' hy hz s2 q
      obtain ⟨row, l, g1, rfl, g2⟩ := h2.get hy
      rw [show chV (after t cs) = (mark t 0 cs).map fun r => V.str (S [r.1]) from List.map_map .., List.getElem?_map, g1] at hz
      cases Option.some.inj hz
      exact ⟨rfl, .inr (.inl ⟨l, _, _, _, rfl, rfl, SqT.of (s2 _ _ g2), rfl, q⟩)⟩
    · exact j_ones (.inl (SqL.of e2)) (by simp; omega) (k _ (s.trans s2))
  · exact h.elim
def endC (lo : Nat) (cs : List Pc) : Nat := cs.foldl (fun _ c => c.e + 1) lo
theorem wf_snoc {n : Nat} {c : Pc} : ∀ {cs : List Pc} {lo : Nat}, WfC n lo cs → endC lo cs ≤ c.s → c.s ≤ c.e → c.e ≤ n → (c.s = c.e → c.put ≠ []) → WfC n lo (cs ++ [c])
  | [], lo, _, h, h1, h2, h3 => ⟨h, h1, h2, h3, trivial⟩
  | d :: cs, lo, w, h, h1, h2, h3 => ⟨w.1, w.2.1, w.2.2.1, w.2.2.2.1, wf_snoc w.2.2.2.2 h h1 h2 h3⟩
theorem endC_snoc (lo : Nat) (cs : List Pc) (c : Pc) : endC lo (cs ++ [c]) = c.e + 1 := by simp [endC]
theorem tot_snoc (cs : List Pc) (c : Pc) : tot (cs ++ [c]) = tot cs + c.put.length := by simp [tot]
theorem x_eq : (("x" : Str)) = S [120] := by decide +kernel
theorem pick {a b c : Int} (h : c = 0 ∨ c = 1) : ∃ v : Int, (v = a ∨ v = b) ∧ atI [V.int a, V.int b] c = some (.int v) := by
  rcases h with rfl | rfl
  · exact ⟨a, .inl rfl, rfl⟩
  · exact ⟨b, .inr rfl, rfl⟩
theorem r_change (h : sp_change K vs H Q E) : t_Lchange K E (Dn Q) (start N_Lchange vs) H := by
  unfold sp_change at h
  split at h
  · rename_i p z
    obtain ⟨q, t, rfl, hl, P, k⟩ := h
    refine ⟨by show 0 ≤ sizeLine; omega, fun D hD => ?_⟩
    obtain ⟨n1, n2⟩ := ne_pool hD P
    have P0 : PoolAt (upd H D (.lst [])) p q := P.same (same_new (Same.refl _) hD)
    refine ⟨by decide, q, P0.take, by decide, by decide, fun m H1 m1 m2 P1 f1 => ?_⟩
    have hL : (S t).length ≤ sizeLine := by rw [S_len, sizeLine_eq]; omega
    have hLe := S_len t
    have lstIn : ∀ {G G' : Hp} {xs : List V}, G D = some (.lst xs) → Fr [p] G G' → G' D = some (.lst xs) := fun e f => f.at1 e n1
    refine ⟨m, rfl, by omega, by omega, ?_⟩
    refine for_range (lo := 0) (n := m.toNat) (fun i σ' H' => ∃ (z4 z5 z6 z7 : Option V) (cs : List Pc) (xs : List V), σ' = [some (.ref p), some (.str (S t)), some (.ref D), some (.int ((endC 0 cs : Nat) : Int)), z4, z5, z6, z7] ∧ H' D = some (.lst xs) ∧ Rw fC H' xs cs ∧ WfC t.length 0 cs ∧ tot cs ≤ 3 * i ∧ cs.length ≤ i ∧ PoolAt H' p q ∧ Fr [p] H H')
      ⟨none, none, none, none, [], [], rfl, lstIn upd_same f1, Rw.nil, trivial, by simp [tot], by simp, P1, (Fr.new (Fr.refl _ _) hD).trans f1⟩ ?_ ?_
    · rintro i σ' H' hi ⟨z4, z5, z6, z7, cs, xs, rfl, g1, g2, g3, g4, g5, PP, ff⟩
      refine ⟨by decide, q, PP.take, by decide, by decide, fun r1 G1 a1 a2 P1 f1 => ?_⟩
      refine ⟨by decide, q, P1.take, by decide, by decide, fun r2 G2 b1 b2 P2 f2 => ?_⟩
      refine ⟨by show 2 ≤ sizeLine; rw [sizeLine_eq]; omega, fun l3 hl3 => ?_⟩
      refine ⟨by decide, q, (P2.same (same_new (Same.refl _) hl3)).take, by decide, by decide, fun r4 G4 c1 c2 P4 f4 => ?_⟩
      obtain ⟨v, hv, hat⟩ := pick (a := r1) (b := r2) (c := r4 / 3) (by omega)
      refine ⟨⟨by decide, by decide⟩, l3, _, _, .int v, rfl, rfl, SqT.of (f4.at1 upd_same (ne_pool hl3 P2).1), hat, ?_⟩
      obtain ⟨vn, rfl⟩ : ∃ n : Nat, v = (n : Int) := ⟨v.toNat, by omega⟩
      have F4 : Fr [p] H' G4 := (f1.trans f2).trans ((Fr.new (Fr.refl _ _) hl3).trans f4)
      have K4 : Kt H' G4 := ((pool_kt PP f1).trans (pool_kt P1 f2)).trans ((Kt.new hl3).trans (pool_kt (P2.same (same_new (Same.refl _) hl3)) f4))
      refine ⟨hL, ?_⟩
      refine oneD (fun e => ?_) (fun e => ?_)
      · refine ⟨hL, ?_⟩
        refine ⟨by decide, q, P4.take, by decide, by decide, fun r5 G5 d1 d2 P5 f5 => ?_⟩
        refine ⟨by decide, q, P5.take, by decide, by decide, fun r6 G6 e1 e2 P6 f6 => ?_⟩
        refine ⟨by show 2 ≤ sizeLine; rw [sizeLine_eq]; omega, fun l7 hl7 => ?_⟩
        refine ⟨by decide, q, (P6.same (same_new (Same.refl _) hl7)).take, by decide, by decide, fun r8 G8 h1 h2 P8 f8 => ?_⟩
        obtain ⟨w, hw, hat2⟩ := pick (a := r5) (b := r6) (c := r8 / 4) (by omega)
        refine ⟨⟨by decide, by decide⟩, l7, _, _, .int w, rfl, rfl, SqT.of (f8.at1 upd_same (ne_pool hl7 P6).1), hat2, ?_⟩
        have F8 : Fr [p] H' G8 := F4.trans ((f5.trans f6).trans ((Fr.new (Fr.refl _ _) hl7).trans f8))
        have K8 : Kt H' G8 := K4.trans (((pool_kt P4 f5).trans (pool_kt P5 f6)).trans ((Kt.new hl7).trans (pool_kt (P6.same (same_new (Same.refl _) hl7)) f8)))
        intro st s1 s2 s3
        obtain ⟨en, rfl⟩ : ∃ n : Nat, st = (n : Int) := ⟨st.toNat, by omega⟩
        refine ⟨by decide, q, P8.take, by decide, by decide, fun r9 G9 i1 i2 P9 f9 => ?_⟩
        refine ⟨q, P9, i1, by omega, fun u G10 hu P10 f10 => ?_⟩
        have F10 : Fr [p] H' G10 := F8.trans (f9.trans f10)
        have K10 : Kt H' G10 := K8.trans ((pool_kt P8 f9).trans (pool_kt P9 f10))
        have fin : ∀ (u : List Nat), u.length ≤ 3 → (endC 0 cs + vn = en → u ≠ []) → ∀ l, G10 l = none →
            rAppend (.ref D) [.ref l] (upd G10 l (.tup [.int ((endC 0 cs : Nat) + (vn : Int)), .int (en : Int), .str (S u)])) fun _ G => ∃ (z4 z5 z6 z7 : Option V) (cs' : List Pc) (xs' : List V), [some (V.ref p), some (.str (S t)), some (.ref D), some (.int ((en : Int) + 1)), some (.int (0 + (i : Int))), some (.int ((endC 0 cs : Nat) + (vn : Int))), some (.int (en : Int)), some (.str (S u))] = [some (.ref p), some (.str (S t)), some (.ref D), some (.int ((endC 0 cs' : Nat) : Int)), z4, z5, z6, z7] ∧ G D = some (.lst xs') ∧ Rw fC G xs' cs' ∧ WfC t.length 0 cs' ∧ tot cs' ≤ 3 * (i + 1) ∧ cs'.length ≤ i + 1 ∧ PoolAt G p q ∧ Fr [p] H G := by
          intro u hu3 hne l hln
          have e1 : (upd G10 l (.tup [.int ((endC 0 cs : Nat) + (vn : Int)), .int (en : Int), .str (S u)])) D = some (.lst xs) := keep_new hln (F10.at1 g1 n1)
          have htr : Kt H' (upd (upd G10 l (.tup [.int ((endC 0 cs : Nat) + (vn : Int)), .int (en : Int), .str (S u)])) D (.lst (xs ++ [.ref l]))) := K10.trans ((Kt.new hln).trans (Kt.lst e1))
          refine ⟨D, _, _, rfl, rfl, e1, by rw [g2.len, sizeLine_eq]; omega, ?_⟩
          refine ⟨some (.int (0 + (i : Int))), some (.int ((endC 0 cs : Nat) + (vn : Int))), some (.int (en : Int)), some (.str (S u)), cs ++ [⟨endC 0 cs + vn, en, u⟩], _, ?_, upd_same, ?_, ?_, ?_, ?_, ?_, ?_⟩
          · rw [endC_snoc]
            rfl
          · exact (g2.kt htr).app (Rw.one ((Kt.lst e1) _ _ upd_same))
          · exact wf_snoc g3 (Nat.le_add_right _ _) (by show endC 0 cs + vn ≤ en; omega) (by show en ≤ t.length; omega) hne
          · rw [tot_snoc]
            show tot cs + u.length ≤ _
            omega
          · rw [List.length_append, List.length_singleton]
            omega
          · exact (P10.same (same_new (Same.refl _) hln)).fr (S := [D]) (Fr.wr (Fr.refl _ _) (by simp)) (by simp [n1.symm]) (by simp [n2.symm])
          · exact ((ff.trans F10).new hln).loc hD
        have hD10 : G10 D = some (.lst xs) := F10.at1 g1 n1
        refine andD (fun e => ?_) (fun e => ?_)
        · refine ⟨.inl ⟨rfl, _, SqL.of hD10⟩, by show 3 ≤ sizeLine; rw [sizeLine_eq]; omega, fun l hln => ?_⟩
          have := fin [120] (by simp) (fun _ => by simp) l hln
          rw [← x_eq] at this
          exact this
        · refine ⟨.inl ⟨rfl, _, SqL.of hD10⟩, by show 3 ≤ sizeLine; rw [sizeLine_eq]; omega, fun l hln => ?_⟩
          exact fin u (by omega) (fun z1 z2 => e ⟨by omega, by rw [z2, e_eq]⟩) l hln
      · exact ⟨_, _, _, _, cs, xs, rfl, F4.at1 g1 n1, g2.kt K4, g3, by omega, by omega, P4, ff.trans F4⟩
    · rintro σ' H' ⟨z4, z5, z6, z7, cs, xs, rfl, g1, g2, g3, g4, g5, PP, ff⟩
      exact k D xs cs H' hD g1 g2 g3 (by omega) (by omega) PP ff
  · exact h.elim
end
end Co.Tx
end

section
set_option maxHeartbeats 4000000
namespace Co
open PySem PySem.Spec PyProof.Rows L2
theorem meets_enumB1 {v : Value} {o : Obj} {H : Heap → Prop} (B : Begins v o H) :
    Meets (Builtin.«enumerate.__new__» ⟨[.type "enumerate", v], []⟩) (fun _ R s => H s.heap ∧
      R (.ok (.ret (.ref (s.heap.push o).objs.size))) { s with heap := (s.heap.push o).push { cls := .type "enumerate", data := .fields #[.none, .bool false, .ref s.heap.objs.size, rawInt 0, .none, .none] } }) :=
  .of_wp fun prog w A R s h => by
    obtain ⟨hp, g, d, tk, os⟩ := s; obtain ⟨h1, h⟩ := h
    have hsub := sub_enumerate
    have q1 : ∀ {A' : Around} {E : Value → Shared → Prop} {Q : Value → Shared → Prop}, Q (.ref hp.objs.size) ⟨hp.push o, g, d, tk, os⟩ → wpAny (model prog w) A' (pyIter v) Q E ⟨hp, g, d, tk, os⟩ :=
      fun q => B.iter prog w _ _ ⟨hp, g, d, tk, os⟩ _ h1 q
    wp_walk using q1
    refine wpAny_stack_any fun st => wpAny_pure ?_
    split
    · rename_i c _ _ _ _ _
      cases (c == Value.type "enumerate")
      · wp_walk using q1
        exact ⟨_, rfl, h⟩
      · wp_walk using q1
        exact ⟨_, rfl, h⟩
    · wp_walk using q1
      exact ⟨_, rfl, h⟩
section
variable {prog : Program} {w : World} {A : Around} {E : Value → Shared → Prop} {s : Shared}
theorem enum_beginsB1 {v : Value} {o : Obj} {H : Heap → Prop} {Q : Value → Shared → Prop} (B : Begins v o H) (h1 : H s.heap)
    (h : ∀ h', IsEnum h' (s.heap.objs.size + 1) s.heap.objs.size 0 .none → h'.get? s.heap.objs.size = some o → h'.objs.size = s.heap.objs.size + 2 →
      (∀ b o, s.heap.get? b = some o → h'.get? b = some o) → Q (.ref (s.heap.objs.size + 1)) { s with heap := h' }) :
    wpAny (model prog w) A (call (.type "enumerate") [v]) Q E s := by
  refine callType_new F.called_enumerate (by decide) (F.typeCall_enumerate_1 _) (F.newCall_enumerate_1 _) (fun obj => F.args_object_init_2 obj _) F.entry_enumerate_new
    (meets_enumB1 B) ⟨h1, ?_⟩
  have hz : (s.heap.push o).objs.size = s.heap.objs.size + 1 := Heap.size_push ..
  show _ ∧ _
  rw [hz]
  have he : IsEnum ((s.heap.push o).push { cls := .type "enumerate", data := .fields #[.none, .bool false, .ref s.heap.objs.size, rawInt 0, .none, .none] }) (s.heap.objs.size + 1) s.heap.objs.size 0 .none := by
    have := Heap.get?_push_size (s.heap.push o) (o := { cls := .type "enumerate", data := .fields #[.none, .bool false, .ref s.heap.objs.size, rawInt 0, .none, .none] }) rfl
    rw [hz] at this; exact this
  refine ⟨⟨_, he, rfl⟩, h _ he (Heap.get?_push_of_some _ (Heap.get?_push_size _ B.free)) (by rw [Heap.size_push, hz]) fun b o x => Heap.get?_push_of_some _ (Heap.get?_push_of_some _ x)⟩
theorem enumT_end {e it l : Addr} {i : Nat} {items : Array Value} {old : Value} {Q : Option Value → Shared → Prop} (hh : A.handled = none)
    (he : IsEnum s.heap e it i old) (hit : s.heap.IsTupleIter it l i) (hl : s.heap.IsTuple l items) (hx : items[i]? = none)
    (hQ : ∀ h', Heap.ExtBut it s.heap h' → Q none { s with heap := h' }) : wpAny (model prog w) A (pyNext (.ref e)) Q E s := by
  have hT : s.TypeIs (.ref e) "enumerate" := ⟨_, he, rfl⟩
  unfold pyNext
  refine wpAny_bind (wpAny_attempt (wpAny_callSpecial?_slot (name := Str.ofString "__next__") hT F.slot_enumerate_next
    (wpAny_call_entry F.slot_enumerate_next hT F.entry_enumerate_next ?_ (F.args_enumerate_next_1 _))))
  show wpAny _ _ (field (.ref e) 2 >>= _) _ _ _
  refine wpAny_bind (wpAny_field he rfl (x := .ref it) rfl ?_)
  refine wpAny_bind (wpAny_nextOf_tuple_end hh hit hl hx fun h' x he' hx' => ?_)
  obtain ⟨o, ho, hc⟩ := hx'
  refine wpAny_bind (wpAny_isInstance (T := "StopIteration") (b := true) ⟨o, ho, hc⟩ isSubtype_stop ?_)
  exact wpAny_pure (hQ _ he')
end
def IteT (K : PySem.W.Frag) (a : Addr) : It :=
  ⟨fun i H => ∃ (xs : List V) (x : V), SqT K H a xs ∧ xs[i]? = some x, fun i H v H' => ∃ T x, v = .ref T ∧ H T = none ∧ H' = upd H T (.tup [.int (i : Nat), x]) ∧ ∀ xs, SqT K H a xs → xs[i]? = some x, fun i H => ∃ xs : List V, SqT K H a xs ∧ xs.length ≤ i⟩
theorem turn_enumT {P : Program} {w : World} {K : PySem.W.Frag} {elts : List Expr} {kk : Nat} {tpos : Pos} (a e it : Addr) :
    Turn P w K (.Tuple elts kk tpos) (IteT K a) [e, it] e (fun i h => (∃ old, IsEnum h e it ((i : Nat) : Int) old) ∧ h.IsTupleIter it a i ∧ e ≠ it ∧ e ≠ a ∧ a ≠ it) where
  mem := by simp
  obj := fun i h st b hb => by
    obtain ⟨⟨old, he⟩, ⟨o, ho, hc, hd⟩, _⟩ := st
    have e' : b = e ∨ b = it := by simpa using hb
    rcases e' with z | z
    · rw [z]; exact ⟨_, he, fun v q => nomatch q⟩
    · rw [z]; exact ⟨o, ho, fun v q => by rw [hd] at q; cases q⟩
  keep := fun i h h' st k => let ⟨⟨old, he⟩, hi, hne⟩ := st; ⟨⟨old, k e (by simp) _ he⟩, hi.at fun o q => k it (by simp) o q, hne⟩
  item := by
    intro X hP hw hK hc i pins s σ H E I hf st hg
    subst hP hw hK
    obtain ⟨⟨old, he⟩, hit, hne, hea, hai⟩ := st
    obtain ⟨xs, x, hq, hx⟩ := hg
    obtain ⟨its, rv, p, hz⟩ := I.tuple hq
    have p : s.heap.IsTuple a its.toArray := p
    obtain ⟨u, hu, ru⟩ := rv.get hx
    have hel : e < s.heap.objs.size := Heap.lt_size he
    have hil : it < s.heap.objs.size := by obtain ⟨_, q, _⟩ := hit; exact Heap.lt_size q
    have hlt : i < its.toArray.size := by
      have := (List.getElem?_eq_some_iff.mp hu).1
      simpa using this
    refine wpAny_pyNext_enum_itemD (Draws.tuple (A := X.A.in1) (I.ok.hd hc) it a hai its.toArray) he ⟨hit, p⟩ hlt hne (by simp [hne, hea]) fun x' h' tk hx' ho hst hT hsz hk => ?_
    have ex : x' = u := by
      have : its.toArray[i]? = some u := by simpa using hu
      rw [this] at hx'
      exact (Option.some.inj hx').symm
    subst ex
    obtain ⟨hit', -⟩ := hst
    refine ⟨_, rfl, wpAny_letOwnedTupleGo_enum (s := { s with heap := h', toks := tk + 1 }) ho fun h'' he' sb => ?_⟩
    have hT2 : h''.get? s.heap.objs.size = some { cls := .type "tuple", data := .seq #[.int i tk, x'] } := (sb.2 _ (Nat.ne_of_gt hel)).trans hT
    have new : ObjOk X.prog X.w (upd H s.heap.objs.size (.tup [.int (i : Nat), x])) h'' s.heap.objs.size (.tup [.int (i : Nat), x]) :=
      ⟨by show 2 ≤ sizeLine; decide, [.int i tk, x'], .cons ⟨_, rfl⟩ (.cons ru .nil), ⟨_, hT2, rfl, _, rfl⟩⟩
    have I1 : Inv X pins σ (upd H s.heap.objs.size (.tup [.int (i : Nat), x])) { s with heap := h'', toks := tk + 1 } :=
      I.turnedNew (ch := [e, it]) (fun b ob hb q => (sb.2 b (fun z => hb (by simp [z]))).trans (hk b ob (fun z => hb (by simp [z])) (fun z => hb (by simp [z])) q)) hf (Nat.le_refl _) new
    refine ⟨.ref s.heap.objs.size, _, I1, rfl, ⟨_, x, rfl, I.hok.fresh (Nat.le_refl _), rfl, fun ys hy => by rw [I.tuple_inj hy hq]; exact hx⟩, ⟨⟨x', ?_⟩, hit'.at fun o q => (sb.2 it (Ne.symm hne)).trans q, hne, hea, hai⟩, fun b hb => ?_⟩
    · have e1 : ((i + 1 : Nat) : Int) = (i : Int) + 1 := by omega
      rw [e1]; exact he'
    · have hb' : b < s.heap.objs.size := by
        have e' : b = e ∨ b = it := by simpa using hb
        rcases e' with z | z
        · rw [z]; exact hel
        · rw [z]; exact hil
      rw [upd_ne (Nat.ne_of_lt hb')]
      exact (hf b hb).1
  done := by
    intro X hP hw hK hc i pins s σ H E I hf st hg
    subst hP hw hK
    obtain ⟨⟨old, he⟩, hit, hne, hea, hai⟩ := st
    obtain ⟨xs, hq, hx⟩ := hg
    obtain ⟨its, rv, p, hz⟩ := I.tuple hq
    have p : s.heap.IsTuple a its.toArray := p
    obtain ⟨f0, f1, f2, f3, f4, f5⟩ := hf it (by simp)
    have hl := rv.length
    exact enumT_end (I.ok.hd hc) he hit p (by simp; omega) fun h' eb => ⟨rfl, I.turned (t' := s.toks) (fun b o hb q => eb b o hb q) f0 f1 f3 f4 f5⟩
  self := fun A i s Q E st h => let ⟨⟨_, he⟩, _⟩ := st; wpAny_pyIter_enum he h
def iEnumA (K : PySem.W.Frag) (ta : TA) : TI := fun σ H R => ta σ H fun vs H1 => ∃ a, vs = [.ref a] ∧ (((∃ xs, SqL K H1 a xs) ∧ R (Ite K a) H1) ∨ ((∃ xs, SqT K H1 a xs) ∧ R (IteT K a) H1))
theorem pi_enumA {X : Cx} {e : Expr} {ta : TA} {p pos tpos : Pos} {elts : List Expr} {kk : Nat} (hg : Gl X "enumerate") (hm : X.mg "enumerate" = none) (ha : PA X [e] ta) (hs : starEach [e] X.env = [(false, eval e X.env)] := by rfl) :
    PI X (.Tuple elts kk tpos) (.Call (.Name "enumerate" p) [e] [] pos) (iEnumA X.K ta) := by
  refine ⟨fun pins s σ H R I h => ?_⟩
  refine Call_ (ld_blt I hg hm boot_enumerate (PyProof.Rows.callWith_type1 (thn (ha.run pos pins s σ H _ I h) fun us s1 ⟨vs, H1, I1, r1, q1⟩ => ?_) hs rfl))
  obtain ⟨a, ex, q⟩ := q1
  subst ex
  cases r1 with
  | cons r rr =>
    cases rr
    cases r
    rcases q with ⟨⟨xs, hq⟩, q⟩ | ⟨⟨xs, hq⟩, q⟩
    · obtain ⟨its, rv, p', hz⟩ := I1.list hq
      refine call_enumerate_list p'.isList fun h' he hit hsz hk => wpAny_pyIter_enum he ?_
      have I2 : Inv X pins σ H1 { s1 with heap := h' } := I1.kept (t' := s1.toks) hk
      refine ⟨s1.heap.objs.size + 1, [s1.heap.objs.size + 1, s1.heap.objs.size], _, _, H1, rfl, I2, turn_enum a (s1.heap.objs.size + 1) s1.heap.objs.size, ⟨⟨.none, he⟩, hit, Nat.succ_ne_self _⟩, fun b hb => ?_, q⟩
      have e' : b = s1.heap.objs.size + 1 ∨ b = s1.heap.objs.size := by simpa using hb
      have hle : s1.heap.objs.size ≤ b := by
        rcases e' with z | z
        · rw [z]; exact Nat.le_add_right _ _
        · rw [z]; exact Nat.le_refl _
      exact I1.fpOk hle (I1.hok.fresh hle)
    · obtain ⟨its, rv, p', hz⟩ := I1.tuple hq
      have p' : s1.heap.IsTuple a its.toArray := p'
      have hal : a < s1.heap.objs.size := by obtain ⟨_, q, _⟩ := p'; exact Heap.lt_size q
      refine enum_beginsB1 (begins_tuple a its.toArray) p' fun h' he hit hsz hk => wpAny_pyIter_enum he ?_
      have I2 : Inv X pins σ H1 { s1 with heap := h' } := I1.kept (t' := s1.toks) hk
      refine ⟨s1.heap.objs.size + 1, [s1.heap.objs.size + 1, s1.heap.objs.size], _, _, H1, rfl, I2, turn_enumT a (s1.heap.objs.size + 1) s1.heap.objs.size, ⟨⟨.none, he⟩, ⟨_, hit, rfl, rfl⟩, Nat.succ_ne_self _, Nat.ne_of_gt (Nat.lt_succ_of_lt hal), Nat.ne_of_lt hal⟩, fun b hb => ?_, q⟩
      have e' : b = s1.heap.objs.size + 1 ∨ b = s1.heap.objs.size := by simpa using hb
      have hle : s1.heap.objs.size ≤ b := by
        rcases e' with z | z
        · rw [z]; exact Nat.le_add_right _ _
        · rw [z]; exact Nat.le_refl _
      exact I1.fpOk hle (I1.hok.fresh hle)
section
variable {X : Cx} {a b c d : Expr} {ta tb tc td : TE} {pos : Pos}
def uChain3 (r r' r'' : R2) (ta tb tc td : TE) : TE := fun σ H Q => ta σ H fun x H1 => tb σ H1 fun y H2 => r x y H2 fun z H3 => bv z fun k => two k
  (tc σ H3 fun w H4 => r' y w H4 fun z2 H5 => bv z2 fun k2 => two k2 (td σ H5 fun v H6 => r'' w v H6 Q) (Q (.bl false) H5)) (Q (.bl false) H3)
theorem bv_ex {x : V} {k : Bool → Prop} (h : bv x k) : ∃ c, x = .bl c ∧ k c := by
  unfold bv at h
  split at h
  · exact ⟨_, rfl, h⟩
  · exact h.elim
theorem t_chain3 {op op' op'' : CmpOp} {r r' r'' : R2} (ho : OpR X (compareOp op) r) (ho' : OpR X (compareOp op') r') (ho'' : OpR X (compareOp op'') r'') (ha : PE X a ta) (hb : PE X b tb) (hc : PE X c tc) (hd : PE X d td)
    (hm : lastMarks [op, op', op''] [b, c, d] = false := by with_unfolding_all rfl) : PT X (.Compare a [op, op', op''] [b, c, d] pos) (tBo (uChain3 r r' r'' ta tb tc td)) := by
  refine ⟨fun pins s σ H Q I h => ?_⟩
  refine isTrue_chain (thn (ha.run pins s σ H _ I h) fun v s1 ⟨x, H1, I1, r1, q1⟩ => test_link (thn (hb.run pins s1 σ H1 _ I1 q1) fun u s2 ⟨y, H2, I2, r2, q2⟩ =>
    thn (ho pins s2 σ H2 x y v u _ I2 r1 r2 q2) fun d s3 ⟨z, H3, I3, r3, q3⟩ => ?_)) hm
  obtain ⟨k, e, q3⟩ := bv_ex q3
  subst e
  cases r3
  refine wpAny_truthy_bool ?_
  cases k with
  | false => exact ite_ff ⟨H3, I3, q3.2 rfl⟩
  | true =>
    refine ite_tt (test_link (thn (hc.run pins s3 σ H3 _ I3 (q3.1 rfl)) fun w' s4 ⟨w, H4, I4, r4, q4⟩ => thn (ho' pins s4 σ H4 y w u w' _ I4 r2 r4 q4) fun d' s5 ⟨z2, H5, I5, r5, q5⟩ => ?_))
    obtain ⟨k2, e2, q5⟩ := bv_ex q5
    subst e2
    cases r5
    refine wpAny_truthy_bool ?_
    cases k2 with
    | false => exact ite_ff ⟨H5, I5, q5.2 rfl⟩
    | true =>
      refine ite_tt (test_last (thn (hd.run pins s5 σ H5 _ I5 (q5.1 rfl)) fun v' s6 ⟨v2, H6, I6, r6, q6⟩ => thn (ho'' pins s6 σ H6 w v2 w' v' _ I6 r4 r6 q6) fun d2 s7 ⟨z3, H7, I7, r7, q7⟩ => ?_))
      have q7 : bv z3 fun k => Q k H7 := by
        cases z3 <;> exact q7
      obtain ⟨k3, e3, q7⟩ := bv_ex q7
      subst e3
      cases r7
      exact wpAny_truthy_bool ⟨H7, I7, q7⟩
end
theorem yesD {p : Prop} [Decidable p] {T E : Prop} (h : p) (k : T) : two (decide p) T E := oneD (fun _ => k) fun n => absurd h n
theorem noD {p : Prop} [Decidable p] {T E : Prop} (h : ¬ p) (k : E) : two (decide p) T E := oneD (fun n => absurd n h) fun _ => k
theorem notY {p : Prop} [Decidable p] {T E : Prop} (h : p) (k : E) : two (!decide p) T E := notD (fun n => absurd h n) fun _ => k
theorem notN {p : Prop} [Decidable p] {T E : Prop} (h : ¬ p) (k : T) : two (!decide p) T E := notD (fun _ => k) fun n => absurd n h
theorem andN {p q : Prop} [Decidable p] [Decidable q] {T E : Prop} (h : ¬ (p ∧ q)) (k : E) : two (decide p) (two (decide q) T E) (two false T E) := andD (fun z => absurd z h) fun _ => k
theorem andY {p q : Prop} [Decidable p] [Decidable q] {T E : Prop} (h : p ∧ q) (k : T) : two (decide p) (two (decide q) T E) (two false T E) := andD (fun _ => k) fun z => absurd h z
theorem forEn {K : PySem.W.Frag} {a : Addr} {xs : List V} {g : TG} {tb : TS} {D : Ends} {σ : St} {H : Hp} (hq : SqA K H a xs) (Pv : Nat → St → Hp → Prop) (h0 : Pv 0 σ H) (hl : ∀ i σ H', i ≤ xs.length → Pv i σ H' → Same H H')
    (hs : ∀ (i : Nat) x σ H' T, xs[i]? = some x → Pv i σ H' → H' T = none → g (.ref T) σ (upd H' T (.tup [.int (i : Int), x])) fun σ2 H2 => tb { D with nx := Pv (i + 1), ct := Pv (i + 1), bk := D.nx } σ2 H2) (hd : ∀ σ H, Pv xs.length σ H → D.nx σ H) :
    tFor (iEnumA K (tCons (fun _ H Q => Q (.ref a) H) tNil)) g tb D σ H := by
  refine ⟨a, rfl, ?_⟩
  rcases hq with hq | hq
  · refine .inl ⟨⟨xs, hq⟩, fun i m σ H => m = xs.length - i ∧ i ≤ xs.length ∧ Pv i σ H, ⟨xs.length, by simp, Nat.zero_le _, h0⟩, ?_⟩
    rintro i m σ' H' ⟨rfl, hi, p⟩
    have q : SqL K H' a xs := (hl i σ' H' hi p).seq hq
    by_cases hlt : i < xs.length
    · refine .inr ⟨⟨xs, xs[i], q, by simp [hlt]⟩, Pv (i + 1), fun σ' H' p' => ⟨xs.length - (i + 1), by omega, rfl, hlt, p'⟩, fun x H2 y => ?_⟩
      obtain ⟨T, x', e1, e2, e3, e4⟩ := y
      subst e1 e3
      exact hs i x' σ' _ T (e4 xs q) p e2
    · have e : i = xs.length := by omega
      subst e
      exact .inl ⟨⟨xs, q, Nat.le_refl _⟩, hd σ' H' p⟩
  · refine .inr ⟨⟨xs, hq⟩, fun i m σ H => m = xs.length - i ∧ i ≤ xs.length ∧ Pv i σ H, ⟨xs.length, by simp, Nat.zero_le _, h0⟩, ?_⟩
    rintro i m σ' H' ⟨rfl, hi, p⟩
    have q : SqT K H' a xs := sqT_same (hl i σ' H' hi p) hq
    by_cases hlt : i < xs.length
    · refine .inr ⟨⟨xs, xs[i], q, by simp [hlt]⟩, Pv (i + 1), fun σ' H' p' => ⟨xs.length - (i + 1), by omega, rfl, hlt, p'⟩, fun x H2 y => ?_⟩
      obtain ⟨T, x', e1, e2, e3, e4⟩ := y
      subst e1 e3
      exact hs i x' σ' _ T (e4 xs q) p e2
    · have e : i = xs.length := by omega
      subst e
      exact .inl ⟨⟨xs, q, Nat.le_refl _⟩, hd σ' H' p⟩
theorem forS {K : PySem.W.Frag} {g : TG} {tb : TS} {D : Ends} {σ : St} {H H0 : Hp} {a : Addr} {xs : List V} (hq : SqA K H0 a xs) (Pv : Nat → St → Hp → Prop) (h0 : Pv 0 σ H) (hl : ∀ i σ H', i ≤ xs.length → Pv i σ H' → Same H0 H')
    (hs : ∀ (i : Nat) x σ H, xs[i]? = some x → Pv i σ H → g x σ H fun σ2 H2 => tb { D with nx := Pv (i + 1), ct := Pv (i + 1), bk := D.nx } σ2 H2) (hd : ∀ σ H, Pv xs.length σ H → D.nx σ H) : tFor (iSeq K (fun _ H Q => Q (.ref a) H)) g tb D σ H := by
  refine ⟨a, rfl, ?_⟩
  have e0 := hl 0 σ H (Nat.zero_le _) h0
  rcases hq with hq | hq
  · exact .inl ⟨⟨xs, e0.seq hq⟩, forW wk_list Pv h0 (fun i σ' H' hi p => (hl i σ' H' hi p).seq hq) hs hd⟩
  · exact .inr ⟨⟨xs, sqT_same e0 hq⟩, forW wk_tup Pv h0 (fun i σ' H' hi p => sqT_same (hl i σ' H' hi p) hq) hs hd⟩
end Co
end

section
set_option maxHeartbeats 4000000
namespace Co.Tx
open PySem PySem.Spec PyProof.Rows L2 Co
def slc (t : List Nat) (a b : Nat) : List Nat := (t.drop a).take (b - a)
theorem slc_len {t : List Nat} {a b : Nat} (h : b ≤ t.length) : (slc t a b).length = b - a := by
  unfold slc
  rw [List.length_take, List.length_drop]
  omega
def invN (t : List Nat) : Nat → Nat → List Pc → List Pc
  | _, _, [] => []
  | new, old, c :: cs => ⟨new + (c.s - old), new + (c.s - old) + c.put.length, slc t c.s c.e⟩ :: invN t (new + (c.s - old) + c.put.length) c.e cs
theorem wf_count {n : Nat} : ∀ {cs : List Pc} {lo : Nat}, WfC n lo cs → cs.length ≤ n + 1 - lo
  | [], _, _ => Nat.zero_le _
  | c :: cs, lo, ⟨w1, w2, w3, w4, w⟩ => by
    have := wf_count w
    rw [List.length_cons]
    omega
theorem inv_wf {t : List Nat} : ∀ {cs : List Pc} {lo old new : Nat}, WfC t.length lo cs → old ≤ lo → WfC ((mark t old cs).length + new) (new + (lo - old)) (invN t new old cs)
  | [], _, _, _, _, _ => trivial
  | c :: cs, lo, old, new, ⟨w1, w2, w3, w4, w⟩, ho => by
    have hl : (mark t old (c :: cs)).length = (c.s - old) + c.put.length + (mark t c.e cs).length := by
      show (seg t old c.s ++ ins c.put ++ mark t c.e cs).length = _
      rw [List.length_append, List.length_append, seg_len, ins_len]
    have ih := inv_wf (new := new + (c.s - old) + c.put.length) w (Nat.le_succ _)
    refine ⟨by show _ ≤ new + (c.s - old); omega, Nat.le_add_right _ _, by show new + (c.s - old) + c.put.length ≤ _; omega, fun h z => ?_, ?_⟩
    · have h : new + (c.s - old) = new + (c.s - old) + c.put.length := h
      have z : slc t c.s c.e = [] := z
      have z2 := congrArg List.length z
      rw [slc_len w3] at z2
      have z3 : c.put = [] := List.eq_nil_of_length_eq_zero (by omega)
      exact w4 (by have : c.e - c.s = 0 := z2; omega) z3
    · rw [show new + (c.s - old) + c.put.length + (c.e + 1 - c.e) = new + (c.s - old) + c.put.length + 1 by omega] at ih
      rw [hl, show c.s - old + c.put.length + (mark t c.e cs).length + new = (mark t c.e cs).length + (new + (c.s - old) + c.put.length) by omega]
      exact ih
theorem inv_tot {t : List Nat} : ∀ {cs : List Pc} {lo old new : Nat}, WfC t.length lo cs → tot (invN t new old cs) + lo ≤ t.length + 1 + lo ∧ (tot (invN t new old cs) ≤ t.length - lo)
  | [], lo, _, _, _ => ⟨by show 0 + lo ≤ _; omega, Nat.zero_le _⟩
  | c :: cs, lo, old, new, ⟨w1, w2, w3, w4, w⟩ => by
    have ih := (inv_tot (old := c.e) (new := new + (c.s - old) + c.put.length) w).2
    have e : tot (invN t new old (c :: cs)) = (slc t c.s c.e).length + tot (invN t (new + (c.s - old) + c.put.length) c.e cs) := rfl
    rw [slc_len w3] at e
    omega
theorem seg_fst {t : List Nat} {a b : Nat} (h : b ≤ t.length) : (seg t a b).map (·.1) = slc t a b := by
  refine List.ext_getElem? fun i => ?_
  rw [List.getElem?_map]
  unfold slc
  by_cases hi : i < b - a
  · rw [seg_at hi, List.getElem?_take_of_lt hi, List.getElem?_drop]
    have : a + i < t.length := by omega
    simp [this]
  · rw [List.getElem?_eq_none (by rw [seg_len]; omega), List.getElem?_eq_none (by rw [List.length_take]; omega)]
    rfl
theorem ins_fst (p : List Nat) : (ins p).map (·.1) = p := by
  unfold ins
  rw [List.map_map]
  exact List.map_id p
abbrev aft (t : List Nat) (old : Nat) (cs : List Pc) : List Nat := (mark t old cs).map (·.1)
theorem aft_nil {t : List Nat} {old : Nat} : aft t old [] = t.drop old := by
  show (seg t old t.length).map (·.1) = _
  rw [seg_fst (Nat.le_refl _)]
  unfold slc
  rw [List.take_of_length_le (by simp)]
theorem aft_cons {t : List Nat} {old : Nat} {c : Pc} {cs : List Pc} (h : c.s ≤ t.length) : aft t old (c :: cs) = slc t old c.s ++ c.put ++ aft t c.e cs := by
  show (seg t old c.s ++ ins c.put ++ mark t c.e cs).map (·.1) = _
  rw [List.map_append, List.map_append, seg_fst h, ins_fst]
theorem slc_pre {pre x y : List Nat} {a : Nat} : slc (pre ++ (x ++ y)) pre.length (pre.length + x.length) = x := by
  unfold slc
  rw [List.drop_left, show pre.length + x.length - pre.length = x.length by omega, List.take_left]
theorem slc_at {pre x y : List Nat} {a b : Nat} (ha : a = pre.length) (hb : b = a + x.length) : slc (pre ++ (x ++ y)) a b = x := by
  subst ha hb
  exact slc_pre (a := 0)
theorem drop_split {t : List Nat} {a b c : Nat} (h1 : a ≤ b) (h2 : b ≤ c) : t.drop a = slc t a b ++ (slc t b c ++ t.drop c) := by
  unfold slc
  conv => lhs; rw [← List.take_append_drop (b - a) (t.drop a), List.drop_drop, show a + (b - a) = b by omega]
  congr 1
  conv => lhs; rw [← List.take_append_drop (c - b) (t.drop b), List.drop_drop, show b + (c - b) = c by omega]
theorem aft_inv {t u : List Nat} : ∀ {cs : List Pc} {lo old : Nat} {pre : List Nat}, WfC t.length lo cs → old ≤ lo → old ≤ t.length → u = pre ++ aft t old cs → aft u pre.length (invN t pre.length old cs) = t.drop old
  | [], lo, old, pre, _, _, _, hu => by
    show aft u pre.length [] = _
    rw [aft_nil, hu, List.drop_left, aft_nil]
  | c :: cs, lo, old, pre, ⟨w1, w2, w3, w4, w⟩, ho, hot, hu => by
    rw [aft_cons (by omega)] at hu
    have l1 : (slc t old c.s).length = c.s - old := slc_len (by omega)
    have hul := congrArg List.length hu
    rw [List.length_append, List.length_append, List.length_append, l1] at hul
    show aft u pre.length (⟨pre.length + (c.s - old), pre.length + (c.s - old) + c.put.length, slc t c.s c.e⟩ :: invN t (pre.length + (c.s - old) + c.put.length) c.e cs) = _
    rw [aft_cons (show pre.length + (c.s - old) ≤ u.length by omega)]
    have ih := aft_inv (u := u) (pre := pre ++ slc t old c.s ++ c.put) w (Nat.le_succ _) w3 (by rw [hu]; simp)
    rw [List.length_append, List.length_append, l1] at ih
    show slc u pre.length (pre.length + (c.s - old)) ++ slc t c.s c.e ++ aft u (pre.length + (c.s - old) + c.put.length) (invN t (pre.length + (c.s - old) + c.put.length) c.e cs) = _
    rw [ih, hu, List.append_assoc (slc t old c.s), slc_at rfl (by rw [l1]), drop_split (a := old) (b := c.s) (c := c.e) (by omega) w2]
    simp
theorem inv_inv {t u : List Nat} : ∀ {cs : List Pc} {lo old : Nat} {pre : List Nat}, WfC t.length lo cs → old ≤ lo → old ≤ t.length → u = pre ++ aft t old cs → invN u old pre.length (invN t pre.length old cs) = cs
  | [], lo, old, pre, _, _, _, hu => rfl
  | c :: cs, lo, old, pre, ⟨w1, w2, w3, w4, w⟩, ho, hot, hu => by
    rw [aft_cons (by omega)] at hu
    have l1 : (slc t old c.s).length = c.s - old := slc_len (by omega)
    have l2 : (slc t c.s c.e).length = c.e - c.s := slc_len w3
    have ih := inv_inv (u := u) (pre := pre ++ slc t old c.s ++ c.put) w (Nat.le_succ _) w3 (by rw [hu]; simp)
    rw [List.length_append, List.length_append, l1] at ih
    show (⟨old + (pre.length + (c.s - old) - pre.length), old + (pre.length + (c.s - old) - pre.length) + (slc t c.s c.e).length, slc u (pre.length + (c.s - old)) (pre.length + (c.s - old) + c.put.length)⟩ : Pc) ::
      invN u (old + (pre.length + (c.s - old) - pre.length) + (slc t c.s c.e).length) (pre.length + (c.s - old) + c.put.length) (invN t (pre.length + (c.s - old) + c.put.length) c.e cs) = c :: cs
    rw [l2, show old + (pre.length + (c.s - old) - pre.length) = c.s by omega, show c.s + (c.e - c.s) = c.e by omega, ih]
    have e : slc u (pre.length + (c.s - old)) (pre.length + (c.s - old) + c.put.length) = c.put := by
      rw [hu, show pre ++ (slc t old c.s ++ c.put ++ aft t c.e cs) = (pre ++ slc t old c.s) ++ (c.put ++ aft t c.e cs) by simp]
      exact slc_at (by rw [List.length_append, l1]) rfl
    rw [e]
def sp_check (K : PySem.W.Frag) : Sp := fun vs H Q _ => match vs with
  | [.str z, .ref a] => ∃ (t : List Nat) (cs : List Pc), z = S t ∧ t.length ≤ 100000 ∧ Chg K H a cs ∧ WfC t.length 0 cs ∧ ∀ H', Same H H' → Q .non H'
  | _ => False
def sp_apply (K : PySem.W.Frag) : Sp := fun vs H Q _ => match vs with
  | [.str z, .ref a] => ∃ (t : List Nat) (cs : List Pc), z = S t ∧ t.length + tot cs ≤ 100000 ∧ Chg K H a cs ∧ WfC t.length 0 cs ∧ ∀ H', Same H H' → Q (.str (S (after t cs))) H'
  | _ => False
def sp_inv (K : PySem.W.Frag) : Sp := fun vs H Q _ => match vs with
  | [.str z, .ref a] => ∃ (t : List Nat) (cs : List Pc), z = S t ∧ t.length + tot cs ≤ 100000 ∧ Chg K H a cs ∧ WfC t.length 0 cs ∧ ∀ r ys H', H r = none → H' r = some (.tup ys) → Rw fC H' ys (invN t 0 0 cs) → Same H H' → Q (.ref r) H'
  | _ => False
end Co.Tx
end

section
set_option maxHeartbeats 4000000
namespace Co.Tx
open PySem PySem.Spec PyProof.Rows L2 Co
abbrev N_check_change : List Str := ["text", "change", "last", "number", "piece", "start", "stop", "put"]
def t_check_change (K : PySem.W.Frag) (E : XK) : TS :=
 (tSeq (tAsg (tUn fNeg (tC (.int 1))) (gName 2))
 (tFor (iEnumA K (tCons (tV 1) tNil)) (gTup K 2 (gCons (gName 3) (gCons (gName 4) gNil)))
 (tSeq (tAsg (tV 4) (gTup K 3 (gCons (gName 5) (gCons (gName 6) (gCons (gName 7) gNil)))))
 (tSeq (uIfS (tNot (tBo (uChain3 fLe fLe fLe (tC (.int 0)) (tV 5) (tV 6) (tCB cLenS (tCons (tV 0) tNil))))) tNever tNext)
 (tSeq (uIfS (tBo (tOp fLe (tV 5) (tV 2))) tNever tNext)
 (tSeq (uIfS (uAnd (tBo (tOp fEq (tV 5) (tV 6))) (tBo (tOp fEq (tV 7) (tC (.str ""))))) tNever tNext)
 (tAsg (tV 6) (gName 2))))))))
abbrev N_apply_change : List Str := ["text", "change", "found", "at", "start", "stop", "put"]
def t_apply_change (K : PySem.W.Frag) (E : XK) : TS :=
 (tSeq (tAsg (tLst tNil) (gName 2))
 (tSeq (tAsg (tC (.int 0)) (gName 3))
 (tSeq (tFor (iSeq K (tV 1)) (gTup K 3 (gCons (gName 4) (gCons (gName 5) (gCons (gName 6) gNil))))
 (tSeq (tDrop (tBM K "list" rAppend (tV 2) (tCons (tSl rSlS (tV 0) (tPart (tV 3)) (tPart (tV 4))) tNil)))
 (tSeq (tDrop (tBM K "list" rAppend (tV 2) (tCons (tV 6) tNil)))
 (tAsg (tV 5) (gName 3)))))
 (tSeq (tDrop (tBM K "list" rAppend (tV 2) (tCons (tSl rSlS (tV 0) (tPart (tV 3)) tNoPart) tNil)))
 (tRet (tM1 (rJoinS K) (tC (.str "")) (tV 2)))))))
abbrev N_invert_change : List Str := ["text", "change", "found", "moved", "start", "stop", "put"]
def t_invert_change (K : PySem.W.Frag) (E : XK) : TS :=
 (tSeq (tAsg (tLst tNil) (gName 2))
 (tSeq (tAsg (tC (.int 0)) (gName 3))
 (tSeq (tFor (iSeq K (tV 1)) (gTup K 3 (gCons (gName 4) (gCons (gName 5) (gCons (gName 6) gNil))))
 (tSeq (tDrop (tBM K "list" rAppend (tV 2) (tCons (tTup (tCons (tOp fAdd (tV 4) (tV 3)) (tCons (tOp fAdd (tOp fAdd (tV 4) (tV 3)) (tCB cLenS (tCons (tV 6) tNil))) (tCons (tSl rSlS (tV 0) (tPart (tV 4)) (tPart (tV 5))) tNil)))) tNil)))
 (uAug 3 (tOp fSub (tCB cLenS (tCons (tV 6) tNil)) (tOp fSub (tV 5) (tV 4))) iiAdd)))
 (tRet (tCB (rTupOf K) (tCons (tV 2) tNil))))))
abbrev N_Linverse : List Str := ["_law_text_here", "_law_change_here", "_law_pieces", "_law_new", "_law_old", "_law_start", "_law_stop", "_law_put"]
def t_Linverse (K : PySem.W.Frag) (E : XK) : TS :=
 (tSeq (tAsg (tLst tNil) (gName 2))
 (tSeq (tAsg (tC (.int 0)) (gName 3))
 (tSeq (tAsg (tC (.int 0)) (gName 4))
 (tSeq (tFor (iSeq K (tV 1)) (gTup K 3 (gCons (gName 5) (gCons (gName 6) (gCons (gName 7) gNil))))
 (tSeq (tAsg (tOp fSub (tOp fAdd (tV 3) (tV 5)) (tV 4)) (gName 3))
 (tSeq (tDrop (tBM K "list" rAppend (tV 2) (tCons (tTup (tCons (tV 3) (tCons (tOp fAdd (tV 3) (tCB cLenS (tCons (tV 7) tNil))) (tCons (tSl rSlS (tV 0) (tPart (tV 5)) (tPart (tV 6))) tNil)))) tNil)))
 (tSeq (tAsg (tOp fAdd (tV 3) (tCB cLenS (tCons (tV 7) tNil))) (gName 3))
 (tAsg (tV 6) (gName 4))))))
 (tRet (tCB (rTupOf K) (tCons (tV 2) tNil)))))))
end Co.Tx
end

section
set_option maxHeartbeats 4000000
namespace Co.Tx
open PySem PySem.Spec PyProof.Rows L2 Co
section
variable {K : PySem.W.Frag} {vs : List V} {H : Hp} {Q : VK} {E : XK}
theorem wf_drop {n : Nat} : ∀ {cs : List Pc} {lo i : Nat} {c : Pc}, WfC n lo cs → cs[i]? = some c → (∀ d j, j < i → cs[j]? = some d → d.e + 1 ≤ c.s) ∧ lo ≤ c.s
  | [], _, _, _, _, h => by simp at h
  | d :: cs, lo, 0, c, w, h => by
    have h : d = c := by simpa using h
    subst h
    exact ⟨fun _ j hj => absurd hj (Nat.not_lt_zero _), w.1⟩
  | d :: cs, lo, i + 1, c, ⟨w1, w2, w3, w4, w⟩, h => by
    have h : cs[i]? = some c := by simpa using h
    obtain ⟨k1, k2⟩ := wf_drop w h
    refine ⟨fun d' j hj e => ?_, by omega⟩
    cases j with
    | zero =>
      have e : d = d' := by simpa using e
      subst e
      exact k2
    | succ j => exact k1 d' j (by omega) (by simpa using e)
theorem take_last {cs : List Pc} {i : Nat} (hi : i ≤ cs.length) : i = 0 ∨ ∃ d, cs[i - 1]? = some d ∧ cs.take i = cs.take (i - 1) ++ [d] := by
  cases i with
  | zero => exact .inl rfl
  | succ j =>
    have hj : j < cs.length := by omega
    refine .inr ⟨cs[j], by simp [hj], ?_⟩
    show cs.take (j + 1) = cs.take j ++ _
    rw [List.take_add_one]
    simp [hj]
theorem r_check (h : sp_check K vs H Q E) : t_check_change K E (Dn Q) (start N_check_change vs) H := by
  unfold sp_check at h
  split at h
  · rename_i z a
    obtain ⟨t, cs, rfl, hl, ⟨xs, hs, hr⟩, wf, k⟩ := h
    refine forEn (K := K) (a := a) hs (fun i σ' H' => ∃ (z3 z4 z5 z6 z7 : Option V) (la : Int), σ' = [some (.str (S t)), some (.ref a), some (.int la), z3, z4, z5, z6, z7] ∧ (∀ c, cs[i]? = some c → la < (c.s : Int)) ∧ Same H H')
      ⟨none, none, none, none, none, -1, rfl, fun c _ => by omega, Same.refl _⟩ (fun i σ' H' _ ⟨_, _, _, _, _, _, _, _, s⟩ => s) ?_ ?_
    · rintro i x σ' H' T hx ⟨z3, z4, z5, z6, z7, la, rfl, hla, s⟩ hT
      obtain ⟨c, l, hc, rfl, hl2⟩ := (hr.kt (Kt.same (same_new (o := .tup [.int (i : Int), x]) s hT))).get hx
      obtain ⟨w1, w2, w3, w4⟩ := wf_mem wf (List.mem_of_getElem? hc)
      have hla := hla c hc
      refine ⟨T, _, rfl, SqT.of upd_same, rfl, _, _, rfl, _, _, rfl, rfl, ?_⟩
      refine ⟨l, _, rfl, SqT.of hl2, rfl, _, _, rfl, _, _, rfl, _, _, rfl, rfl, ?_⟩
      refine yesD (by omega) (yesD (by omega) ⟨by rw [S_len, sizeLine_eq]; omega, notY (by rw [S_len]; omega) ?_⟩)
      refine noD (by omega) ?_
      refine andN (fun z => ?_) ?_
      · have z2 := z.2
        rw [e_eq] at z2
        exact w4 (by omega) (S_inj z2)
      · refine ⟨_, _, _, _, _, _, rfl, fun d hd => ?_, same_new s hT⟩
        have := (wf_drop wf hd).1 c i (by omega) hc
        omega
    · rintro σ' H' ⟨z3, z4, z5, z6, z7, la, rfl, hla, s⟩
      exact k _ s
  · exact h.elim
theorem sum_flat : ∀ ls : List (List Nat), ((ls.map S).map (·.length)).sum = ls.flatten.length
  | [] => rfl
  | a :: ls => by rw [List.map_cons, List.map_cons, List.sum_cons, sum_flat ls, S_len, List.flatten_cons, List.length_append]
theorem j_flat {a : Addr} {ls : List (List Nat)} (h : SqA K H a ((ls.map S).map V.str)) (hl : ls.flatten.length ≤ 1000000) (q : Q (.str (S ls.flatten)) H) : rJoinS K (.str "") [.ref a] H Q := by
  refine ⟨ls.map S, h, ?_, ?_⟩
  · rw [sum_flat, e_eq, S_len, List.length_nil, Nat.mul_zero]
    omega
  · rw [e_eq, joinT]
    exact q
theorem r_apply (h : sp_apply K vs H Q E) : t_apply_change K E (Dn Q) (start N_apply_change vs) H := by
  unfold sp_apply at h
  split at h
  · rename_i z a
    obtain ⟨t, cs, rfl, hl, ⟨xs, hs, hr⟩, wf, k⟩ := h
    have hL : (S t).length ≤ sizeLine := by rw [S_len, sizeLine_eq]; omega
    have hcnt := wf_count wf
    have hmk := mark_len wf (Nat.le_refl 0) (Nat.zero_le _)
    refine ⟨by show 0 ≤ sizeLine; omega, fun D hD => ?_⟩
    have s0 : Same H (upd H D (.lst [])) := same_new (Same.refl _) hD
    refine forS (K := K) hs (fun i σ' H' => ∃ (z4 z5 z6 : Option V) (ls : List (List Nat)), σ' = [some (.str (S t)), some (.ref a), some (.ref D), some (.int ((((cs.take i).foldl (mstep t) ([], 0)).2 : Nat) : Int)), z4, z5, z6] ∧ H' D = some (.lst ((ls.map S).map V.str)) ∧ ls.flatten = ((cs.take i).foldl (mstep t) ([], 0)).1.map (·.1) ∧ ls.length ≤ 2 * i ∧ Same H H')
      ⟨none, none, none, [], rfl, upd_same, rfl, by simp, s0⟩ (fun i σ' H' _ ⟨_, _, _, _, _, _, _, _, s⟩ => s) ?_ ?_
    · rintro i v σ' H' hv ⟨z4, z5, z6, ls, rfl, h1, h2, h3, s1⟩
      obtain ⟨c, l, hc, rfl, hl2⟩ := (hr.kt (Kt.same s1)).get hv
      obtain ⟨w1, w2, w3, w4⟩ := wf_mem wf (List.mem_of_getElem? hc)
      have hci : i < cs.length := (List.getElem?_eq_some_iff.mp hc).1
      have hfb : ((cs.take i).foldl (mstep t) ([], 0)).2 ≤ t.length := fold_bd wf
      refine ⟨l, _, rfl, SqT.of hl2, rfl, _, _, rfl, _, _, rfl, _, _, rfl, rfl, ?_⟩
      refine ⟨.inl ⟨rfl, _, SqL.of h1⟩, _, rfl, _, rfl, _, rfl, hL, D, _, _, rfl, rfl, h1, by rw [List.length_map, List.length_map, sizeLine_eq]; omega, ?_⟩
      refine ⟨.inl ⟨rfl, _, SqL.of upd_same⟩, D, _, _, rfl, rfl, upd_same, by rw [List.length_append, List.length_map, List.length_map, List.length_singleton, sizeLine_eq]; omega, ?_⟩
      refine ⟨some (.int (c.s : Int)), some (.int (c.e : Int)), some (.str (S c.put)), ls ++ [slc t ((cs.take i).foldl (mstep t) ([], 0)).2 c.s, c.put], ?_, ?_, ?_, by simp; omega, same_loc (same_loc s1 hD) hD⟩
      · rw [foldl_take hc]
        rfl
      · rw [upd_same, cutS_nat (by omega) hfb]
        simp [slc]
      · rw [foldl_take hc]
        show _ = (((cs.take i).foldl (mstep t) ([], 0)).1 ++ seg t ((cs.take i).foldl (mstep t) ([], 0)).2 c.s ++ ins c.put).map (·.1)
        rw [List.map_append, List.map_append, ← h2, seg_fst (by omega), ins_fst]
        simp
    · rintro σ' H' ⟨z4, z5, z6, ls, rfl, h1, h2, h3, s1⟩
      rw [hr.len, List.take_length] at h2 ⊢
      have hfb : (cs.foldl (mstep t) ([], 0)).2 ≤ t.length := by
        have := fold_bd (t := t) (i := cs.length) wf
        rw [List.take_length] at this
        exact this
      have hr := hr.len
      refine ⟨.inl ⟨rfl, _, SqL.of h1⟩, _, rfl, _, rfl, hL, D, _, _, rfl, rfl, h1, by rw [List.length_map, List.length_map, sizeLine_eq]; omega, ?_⟩
      have e : (ls ++ [slc t (cs.foldl (mstep t) ([], 0)).2 t.length]).flatten = after t cs := by
        have := mark_fold t cs [] 0
        rw [List.nil_append] at this
        show _ = (mark t 0 cs).map (·.1)
        rw [← this, List.map_append, ← h2, seg_fst (Nat.le_refl _)]
        simp
      refine ⟨⟨_, rfl⟩, j_flat (ls := ls ++ [slc t (cs.foldl (mstep t) ([], 0)).2 t.length]) (.inl (SqL.of ?_)) ?_ ?_⟩
      · rw [upd_same, cutS_from hfb]
        simp only [List.map_append]
        unfold slc
        rw [List.take_of_length_le (by simp)]
        rfl
      · rw [e]
        simp
        omega
      · rw [e]
        exact k _ (same_loc s1 hD)
  · exact h.elim
structure IvS where
  acc : List Pc
  new : Nat
  old : Nat
def istep (t : List Nat) (x : IvS) (c : Pc) : IvS := ⟨x.acc ++ [⟨x.new + (c.s - x.old), x.new + (c.s - x.old) + c.put.length, slc t c.s c.e⟩], x.new + (c.s - x.old) + c.put.length, c.e⟩
theorem inv_fold (t : List Nat) : ∀ (cs : List Pc) (x : IvS), (cs.foldl (istep t) x).acc = x.acc ++ invN t x.new x.old cs
  | [], x => by simp [invN]
  | c :: cs, x => by
    rw [List.foldl_cons, inv_fold t cs]
    show (x.acc ++ [_]) ++ _ = x.acc ++ (_ :: _)
    simp [istep]
theorem istep_old {t : List Nat} {n lo : Nat} {cs : List Pc} {i : Nat} {c : Pc} {x : IvS} (w : WfC n lo cs) (hx : x.old ≤ lo) (hc : cs[i]? = some c) : ((cs.take i).foldl (istep t) x).old ≤ c.s := by
  rcases take_last (cs := cs) (i := i) (by have := (List.getElem?_eq_some_iff.mp hc).1; omega) with rfl | ⟨d, h1, h2⟩
  · rw [List.take_zero, List.foldl_nil]
    have := (wf_drop w hc).2
    omega
  · rw [h2, List.foldl_append]
    show d.e ≤ c.s
    have := (wf_drop w hc).1 d (i - 1) (by
      cases i with
      | zero =>
        have hl := congrArg List.length h2
        simp at hl
      | succ j => omega) h1
    omega
theorem istep_len {t : List Nat} : ∀ (cs : List Pc) (x : IvS), (cs.foldl (istep t) x).acc.length = x.acc.length + cs.length
  | [], x => rfl
  | c :: cs, x => by
    rw [List.foldl_cons, istep_len cs]
    simp [istep]
    omega
theorem rTup {K : PySem.W.Frag} {D : Addr} {ys : List V} {H : Hp} {Q : VK} (h : H D = some (.lst ys)) (k : ∀ l, H l = none → Q (.ref l) (upd H l (.tup ys))) : rTupOf K [.ref D] H Q := ⟨D, ys, rfl, .inl ⟨SqL.of h, k⟩⟩
theorem r_inv (h : sp_inv K vs H Q E) : t_invert_change K E (Dn Q) (start N_invert_change vs) H := by
  unfold sp_inv at h
  split at h
  · rename_i z a
    obtain ⟨t, cs, rfl, hl, ⟨xs, hs, hr⟩, wf, k⟩ := h
    have hL : (S t).length ≤ sizeLine := by rw [S_len, sizeLine_eq]; omega
    have hcnt := wf_count wf
    refine ⟨by show 0 ≤ sizeLine; omega, fun D hD => ?_⟩
    have s0 : Same H (upd H D (.lst [])) := same_new (Same.refl _) hD
    refine forS (K := K) hs (fun i σ' H' => ∃ (z4 z5 z6 : Option V) (mv : Int) (ys : List V), σ' = [some (.str (S t)), some (.ref a), some (.ref D), some (.int mv), z4, z5, z6] ∧ H' D = some (.lst ys) ∧ mv = ((((cs.take i).foldl (istep t) ⟨[], 0, 0⟩).new : Nat) : Int) - ((((cs.take i).foldl (istep t) ⟨[], 0, 0⟩).old : Nat) : Int) ∧ Rw fC H' ys ((cs.take i).foldl (istep t) ⟨[], 0, 0⟩).acc ∧ Same H H')
      ⟨none, none, none, 0, [], rfl, upd_same, rfl, Rw.nil, s0⟩ (fun i σ' H' _ ⟨_, _, _, _, _, _, _, _, _, s⟩ => s) ?_ ?_
    · rintro i v σ' H' hv ⟨z4, z5, z6, mv, ys, rfl, h1, h2, h3, s1⟩
      obtain ⟨c, l, hc, rfl, hl2⟩ := (hr.kt (Kt.same s1)).get hv
      obtain ⟨w1, w2, w3, w4⟩ := wf_mem wf (List.mem_of_getElem? hc)
      have hci : i < cs.length := (List.getElem?_eq_some_iff.mp hc).1
      have ho := istep_old (t := t) (x := ⟨[], 0, 0⟩) wf (Nat.le_refl 0) hc
      have hp := tot_mem (List.mem_of_getElem? hc)
      have hlen := istep_len (t := t) (cs.take i) ⟨[], 0, 0⟩
      have hP := S_len c.put
      refine ⟨l, _, rfl, SqT.of hl2, rfl, _, _, rfl, _, _, rfl, _, _, rfl, rfl, ?_⟩
      refine ⟨.inl ⟨rfl, _, SqL.of h1⟩, by rw [S_len, sizeLine_eq]; omega, _, rfl, _, rfl, _, rfl, hL, by show 3 ≤ sizeLine; rw [sizeLine_eq]; omega, fun l' hl' => ?_⟩
      have e1 := keep_new (o' := .tup [.int ((c.s : Int) + mv), .int ((c.s : Int) + mv + ((S c.put).length : Int)), .str (cutS (S t) (some (c.s : Int)) (some (c.e : Int)))]) hl' h1
      refine ⟨D, _, _, rfl, rfl, e1, by rw [h3.len, hlen, List.length_take, sizeLine_eq]; show 0 + _ < _; omega, by rw [S_len, sizeLine_eq]; omega, ?_⟩
      refine ⟨some (.int (c.s : Int)), some (.int (c.e : Int)), some (.str (S c.put)), _, _, rfl, upd_same, ?_, ?_, same_loc (same_new s1 hl') hD⟩
      · rw [foldl_take hc]
        show mv + (((S c.put).length : Int) - ((c.e : Int) - (c.s : Int))) = (((((cs.take i).foldl (istep t) ⟨[], 0, 0⟩).new + (c.s - ((cs.take i).foldl (istep t) ⟨[], 0, 0⟩).old) + c.put.length : Nat) : Int)) - (c.e : Int)
        omega
      · rw [foldl_take hc]
        refine Rw.app (h3.kt ((Kt.new hl').trans (Kt.lst e1))) (Rw.one ((Kt.lst e1) _ _ (upd_same.trans (congrArg (fun z => some (HO.tup z)) ?_))))
        show [V.int ((c.s : Int) + mv), V.int ((c.s : Int) + mv + ((S c.put).length : Int)), V.str (cutS (S t) (some (c.s : Int)) (some (c.e : Int)))] = [V.int ((((cs.take i).foldl (istep t) ⟨[], 0, 0⟩).new + (c.s - ((cs.take i).foldl (istep t) ⟨[], 0, 0⟩).old) : Nat) : Int), V.int ((((cs.take i).foldl (istep t) ⟨[], 0, 0⟩).new + (c.s - ((cs.take i).foldl (istep t) ⟨[], 0, 0⟩).old) + c.put.length : Nat) : Int), V.str (S (slc t c.s c.e))]
        rw [cutS_nat (by omega) (by omega), show (c.s : Int) + mv = ((((cs.take i).foldl (istep t) ⟨[], 0, 0⟩).new + (c.s - ((cs.take i).foldl (istep t) ⟨[], 0, 0⟩).old) : Nat) : Int) by omega, hP]
        rfl
    · rintro σ' H' ⟨z4, z5, z6, mv, ys, rfl, h1, h2, h3, s1⟩
      rw [hr.len, List.take_length, inv_fold] at h3
      exact rTup h1 fun l hl' => k l ys _ (none_of s1 hl') upd_same (h3.kt (Kt.new hl')) (same_new s1 hl')
  · exact h.elim
theorem r_Linverse (h : sp_inv K vs H Q E) : t_Linverse K E (Dn Q) (start N_Linverse vs) H := by
  unfold sp_inv at h
  split at h
  · rename_i z a
    obtain ⟨t, cs, rfl, hl, ⟨xs, hs, hr⟩, wf, k⟩ := h
    have hL : (S t).length ≤ sizeLine := by rw [S_len, sizeLine_eq]; omega
    have hcnt := wf_count wf
    refine ⟨by show 0 ≤ sizeLine; omega, fun D hD => ?_⟩
    have s0 : Same H (upd H D (.lst [])) := same_new (Same.refl _) hD
    refine forS (K := K) hs (fun i σ' H' => ∃ (z4 z5 z6 : Option V) (nw od : Int) (ys : List V), σ' = [some (.str (S t)), some (.ref a), some (.ref D), some (.int nw), some (.int od), z4, z5, z6] ∧ H' D = some (.lst ys) ∧ nw = ((((cs.take i).foldl (istep t) ⟨[], 0, 0⟩).new : Nat) : Int) ∧ od = ((((cs.take i).foldl (istep t) ⟨[], 0, 0⟩).old : Nat) : Int) ∧ Rw fC H' ys ((cs.take i).foldl (istep t) ⟨[], 0, 0⟩).acc ∧ Same H H')
      ⟨none, none, none, 0, 0, [], rfl, upd_same, rfl, rfl, Rw.nil, s0⟩ (fun i σ' H' _ ⟨_, _, _, _, _, _, _, _, _, _, _, s⟩ => s) ?_ ?_
    · rintro i v σ' H' hv ⟨z4, z5, z6, nw, od, ys, rfl, h1, h2, h2', h3, s1⟩
      obtain ⟨c, l, hc, rfl, hl2⟩ := (hr.kt (Kt.same s1)).get hv
      obtain ⟨w1, w2, w3, w4⟩ := wf_mem wf (List.mem_of_getElem? hc)
      have hci : i < cs.length := (List.getElem?_eq_some_iff.mp hc).1
      have ho := istep_old (t := t) (x := ⟨[], 0, 0⟩) wf (Nat.le_refl 0) hc
      have hp := tot_mem (List.mem_of_getElem? hc)
      have hlen := istep_len (t := t) (cs.take i) ⟨[], 0, 0⟩
      have hP := S_len c.put
      have hPl : (S c.put).length ≤ sizeLine := by rw [S_len, sizeLine_eq]; omega
      refine ⟨l, _, rfl, SqT.of hl2, rfl, _, _, rfl, _, _, rfl, _, _, rfl, rfl, ?_⟩
      refine ⟨.inl ⟨rfl, _, SqL.of h1⟩, hPl, _, rfl, _, rfl, _, rfl, hL, by show 3 ≤ sizeLine; rw [sizeLine_eq]; omega, fun l' hl' => ?_⟩
      have e1 := keep_new (o' := .tup [.int (nw + (c.s : Int) - od), .int (nw + (c.s : Int) - od + ((S c.put).length : Int)), .str (cutS (S t) (some (c.s : Int)) (some (c.e : Int)))]) hl' h1
      refine ⟨D, _, _, rfl, rfl, e1, by rw [h3.len, hlen, List.length_take, sizeLine_eq]; show 0 + _ < _; omega, hPl, ?_⟩
      refine ⟨some (.int (c.s : Int)), some (.int (c.e : Int)), some (.str (S c.put)), _, _, _, rfl, upd_same, ?_, ?_, ?_, same_loc (same_new s1 hl') hD⟩
      · rw [foldl_take hc]
        show nw + (c.s : Int) - od + ((S c.put).length : Int) = (((((cs.take i).foldl (istep t) ⟨[], 0, 0⟩).new + (c.s - ((cs.take i).foldl (istep t) ⟨[], 0, 0⟩).old) + c.put.length : Nat) : Int))
        omega
      · rw [foldl_take hc]
        rfl
      · rw [foldl_take hc]
        refine Rw.app (h3.kt ((Kt.new hl').trans (Kt.lst e1))) (Rw.one ((Kt.lst e1) _ _ (upd_same.trans (congrArg (fun z => some (HO.tup z)) ?_))))
        show [V.int (nw + (c.s : Int) - od), V.int (nw + (c.s : Int) - od + ((S c.put).length : Int)), V.str (cutS (S t) (some (c.s : Int)) (some (c.e : Int)))] = [V.int ((((cs.take i).foldl (istep t) ⟨[], 0, 0⟩).new + (c.s - ((cs.take i).foldl (istep t) ⟨[], 0, 0⟩).old) : Nat) : Int), V.int ((((cs.take i).foldl (istep t) ⟨[], 0, 0⟩).new + (c.s - ((cs.take i).foldl (istep t) ⟨[], 0, 0⟩).old) + c.put.length : Nat) : Int), V.str (S (slc t c.s c.e))]
        rw [cutS_nat (by omega) (by omega), show nw + (c.s : Int) - od = ((((cs.take i).foldl (istep t) ⟨[], 0, 0⟩).new + (c.s - ((cs.take i).foldl (istep t) ⟨[], 0, 0⟩).old) : Nat) : Int) by omega, hP]
        rfl
    · rintro σ' H' ⟨z4, z5, z6, nw, od, ys, rfl, h1, h2, h2', h3, s1⟩
      rw [hr.len, List.take_length, inv_fold] at h3
      exact rTup h1 fun l hl' => k l ys _ (none_of s1 hl') upd_same (h3.kt (Kt.new hl')) (same_new s1 hl')
  · exact h.elim
theorem fC_sc (c : Pc) : (fC c).all isSc = true := rfl
theorem fC_len (c : Pc) : (fC c).length ≤ 1000 := by show 3 ≤ 1000; decide
theorem invN_len {t : List Nat} : ∀ (cs : List Pc) (a b : Nat), (invN t a b cs).length = cs.length
  | [], _, _ => rfl
  | c :: cs, a, b => by
    show (invN t _ _ cs).length + 1 = _
    rw [invN_len cs]
    rfl
end
end Co.Tx
end

section
set_option maxHeartbeats 4000000
namespace Co
open PySem PySem.Spec PyProof.Rows L2
def uDc (wi : TI) (g : TG) (tt : TT) (tk tv : TE) (vs : List Nat) : TE := fun σ H Q => wi σ H fun J H1 => ∀ D, H1 D = none → ∃ W : Nat → Nat → Hp → Prop, (∃ m, W 0 m (upd H1 D (.dK []))) ∧ ∀ i m H, W i m H →
  (J.stop i H ∧ Q (.ref D) H) ∨ (J.go i H ∧ ∃ Nx : Hp → Prop, (∀ H', Nx H' → ∃ m', m' < m ∧ W (i + 1) m' H') ∧ ∀ x H', J.yld i H x H' → g x (wipe σ vs) H' fun σ2 H2 => wipe σ2 vs = wipe σ vs ∧ tt σ2 H2 fun b H3 =>
    two b (tk σ2 H3 fun y H4 => tv σ2 H4 fun z H5 => ∃ kvs k, y = kV k ∧ H5 D = some (.dK kvs) ∧ kvs.length < sizeLine ∧ Nx (upd H5 D (.dK (putK kvs k z)))) (Nx H3))
theorem dc_eq {wi : TI} {g : TG} {tt : TT} {tk tv : TE} {vs : List Nat} : tDc wi g tt tk tv vs = uDc wi g tt tk tv vs := by
  unfold tDc uDc
  simp only [two_eq]
section
variable {X : Cx}
theorem e_dc {kx vx tg iter : Expr} {ifs : List Expr} {scope : Scope} {own : List (Str × Nat)} {pos : Pos} {wi : TI} {g : TG} {tt : TT} {tk tv : TE} (hc : X.calm = true) (hN : X.N.Nodup) (hi : PI X tg iter wi) (ok : BlkOk X.N X.env.scope scope own)
    (hg : ∀ (s : Shared) (H : Hp) (C : Addr) (cl : List (Str × Addr)) (fp : List Addr), PG (X.blk s H scope (compEnvC scope cl C X.env) fp) tg g) (ht : ∀ (s : Shared) (H : Hp) (C : Addr) (cl : List (Str × Addr)) (fp : List Addr), PTs (X.blk s H scope (compEnvC scope cl C X.env) fp) ifs tt)
    (hk : ∀ (s : Shared) (H : Hp) (C : Addr) (cl : List (Str × Addr)) (fp : List Addr), PE (X.blk s H scope (compEnvC scope cl C X.env) fp) kx tk)
    (he : ∀ (s : Shared) (H : Hp) (C : Addr) (cl : List (Str × Addr)) (fp : List Addr), PE (X.blk s H scope (compEnvC scope cl C X.env) fp) vx tv) (hs : ∀ x, foldedSetIterable iter X.env x = pure x := by intro _; rfl) :
    PE X (.DictComp kx vx [⟨tg, iter, ifs, 0⟩] scope pos) (uDc wi g tt tk tv (own.map (·.2))) := dc_eq ▸ pe_dc hc hN hi ok hg ht hk he hs
theorem sw_trueD {kx vx : Expr} {gs : List Comprehension} {scope : Scope} {pos py : Pos} {y : Str} {l : Nat} {env : Env} (hk : env.scope.kind = .function) (hy : env.scope.names.lookup y = some .local) (hl : (py.line == pos.line) = true)
    (ha : (scope.names.any fun (n, k) => n == y && (k == .local || k == .cell)) = false) : swapsWith (.DictComp kx vx gs scope pos) (some (.Name y py)) l env = pure true := by
  have ky : env.kindOf y = some .local := hy
  have hb : env.blockKind = .function := by unfold Env.blockKind; rw [hk]; rfl
  unfold swapsWith
  simp only [hb, ky, ha, Expr.pos, hl]
  rfl
theorem s_setDc {i : Nat} {y : Str} {py : Pos} {kx vx tg iter : Expr} {ifs : List Expr} {scope : Scope} {own : List (Str × Nat)} {pos spos : Pos} {wi : TI} {g : TG} {tt : TT} {tk tv : TE} (hc : X.calm = true) (hN : X.N.Nodup) (hy : X.N[i]? = some y) (hyl : X.env.scope.names.lookup y = some .local)
    (hsw : swapsWith (.DictComp kx vx [⟨tg, iter, ifs, 0⟩] scope pos) (some (.Name y py)) spos.line X.env = pure true) (hi : PI X tg iter wi) (ok : BlkOk X.N X.env.scope scope own)
    (hg : ∀ (s : Shared) (H : Hp) (C : Addr) (cl : List (Str × Addr)) (fp : List Addr), PG (X.blk s H scope (compEnvC scope cl C X.env) fp) tg g) (ht : ∀ (s : Shared) (H : Hp) (C : Addr) (cl : List (Str × Addr)) (fp : List Addr), PTs (X.blk s H scope (compEnvC scope cl C X.env) fp) ifs tt)
    (hk : ∀ (s : Shared) (H : Hp) (C : Addr) (cl : List (Str × Addr)) (fp : List Addr), PE (X.blk s H scope (compEnvC scope cl C X.env) fp) kx tk)
    (he : ∀ (s : Shared) (H : Hp) (C : Addr) (cl : List (Str × Addr)) (fp : List Addr), PE (X.blk s H scope (compEnvC scope cl C X.env) fp) vx tv) (hs : ∀ x, foldedSetIterable iter X.env x = pure x := by intro _; rfl) :
    PS X (.Assign [.Name y py] (.DictComp kx vx [⟨tg, iter, ifs, 0⟩] scope pos) spos) (tAsg (uDc wi g tt tk tv (own.map (·.2))) (gName i)) := by
  rw [← dc_eq]
  refine ⟨fun pins s σ H D I h => ?_⟩
  rw [exec_Assign_Name_used _ _ _ _ hsw]
  refine wpAny_bind (wpAny_standAt (wpAny_bind ?_))
  show wpAny _ X.A (do let _ ← comprehension (.DictComp kx vx [⟨tg, iter, ifs, 0⟩] scope pos) scope X.env (firstIterPos [⟨tg, iter, ifs, 0⟩] pos) newDict false (eval iter X.env) (some (assign (.Name y py) X.env))) _ _ s
  have h : tDc wi g tt tk tv (own.map (·.2)) σ H (fun x H1 => gName i x σ H1 D.nx) := h
  refine wpAny_bind (thn (dc_core (Qf := fun _ s' => SP X pins D .next s') hc hN I hi ok hg ht hk he hs h fun L C s' m H' I' q hn f => ?_) fun _ s' hq => wpAny_pure (wpAny_pure hq))
  show wpAny _ _ (assign (.Name y py) X.env (.ref L)) _ _ _
  refine wpAny_assign_Name (store_ok2 (v := V.ref L) I' hN hy (.inl hyl) rfl (fun s2 I2 ⟨a, sb, ha⟩ => ?_) (.inr hyl))
  obtain ⟨f0, f1, f2, f3, f4, f5⟩ := f
  have haC : C ≠ a := by
    rcases ha with z | z
    · rw [z]; exact f1
    · exact fun e => f4 y a z e.symm
  refine ⟨m, hn.sameBut sb haC, fun h3 sb3 => ?_⟩
  exact ⟨_, H', I2.turned (t' := s2.toks) (fun b o hb e => (sb3.2 b hb).trans e) f0 f1 f3 f4 f5, q⟩
end
def DcBody (J : It) (g : TG) (tt : TT) (tk tv : TE) (vs : List Nat) (σ : St) (H1 : Hp) (QD : Addr → Hp → Prop) : Prop :=
  ∀ D, H1 D = none → ∃ W : Nat → Nat → Hp → Prop, (∃ m, W 0 m (upd H1 D (.dK []))) ∧ ∀ i m H, W i m H →
  (J.stop i H ∧ QD D H) ∨ (J.go i H ∧ ∃ Nx : Hp → Prop, (∀ H', Nx H' → ∃ m', m' < m ∧ W (i + 1) m' H') ∧ ∀ x H', J.yld i H x H' → g x (wipe σ vs) H' fun σ2 H2 => wipe σ2 vs = wipe σ vs ∧ tt σ2 H2 fun b H3 =>
    two b (tk σ2 H3 fun y H4 => tv σ2 H4 fun z H5 => ∃ kvs k, y = kV k ∧ H5 D = some (.dK kvs) ∧ kvs.length < sizeLine ∧ Nx (upd H5 D (.dK (putK kvs k z)))) (Nx H3))
theorem dcW {J : It} {P : Hp → Prop} {xs : List V} {g : TG} {tt : TT} {tk tv : TE} {vs : List Nat} {σ : St} {H1 : Hp} {QD : Addr → Hp → Prop} (w : Walks J P xs) (h : ∀ D, H1 D = none → ∃ Pv : Nat → Hp → Prop, Pv 0 (upd H1 D (.dK [])) ∧ (∀ i H, i ≤ xs.length → Pv i H → P H) ∧
      (∀ (i : Nat) x H, xs[i]? = some x → Pv i H → g x (wipe σ vs) H fun σ2 H2 => wipe σ2 vs = wipe σ vs ∧ tt σ2 H2 fun b H3 => two b (tk σ2 H3 fun y H4 => tv σ2 H4 fun z H5 => ∃ kvs k, y = kV k ∧ H5 D = some (.dK kvs) ∧ kvs.length < sizeLine ∧ Pv (i + 1) (upd H5 D (.dK (putK kvs k z)))) (Pv (i + 1) H3)) ∧
      ∀ H, Pv xs.length H → QD D H) : DcBody J g tt tk tv vs σ H1 QD := by
  intro D hD
  obtain ⟨Pv, h0, hl, hs, hd⟩ := h D hD
  refine ⟨fun i m H => m = xs.length - i ∧ i ≤ xs.length ∧ Pv i H, ⟨xs.length, by simp, Nat.zero_le _, h0⟩, ?_⟩
  rintro i m H ⟨rfl, hi, p⟩
  have q := hl i H hi p
  by_cases hlt : i < xs.length
  · refine .inr ⟨w.go i H q hlt, Pv (i + 1), fun H' p' => ⟨xs.length - (i + 1), by omega, rfl, hlt, p'⟩, fun x H' y => ?_⟩
    obtain ⟨e, y2⟩ := w.yld i H x H' q hlt y
    subst e
    exact hs i x _ y2 p
  · have e : i = xs.length := by omega
    subst e
    exact .inl ⟨w.stop _ H q (Nat.le_refl _), hd H p⟩
theorem orDN {p q : Prop} [Decidable p] [Decidable q] {T E : Prop} (h : p ∨ ¬ q → T) (k : ¬ (p ∨ ¬ q) → E) : two (decide p) (two true T E) (two (!decide q) T E) :=
  oneD (fun a => twoT (h (.inl a))) fun a => notD (fun b => h (.inr b)) fun b => k fun z => z.elim a fun n => n b
theorem Rw.erase {α : Type} {f : α → List V} {H : Hp} {vs : List V} {as : List α} (h : Rw f H vs as) (k : Nat) : Rw f H (vs.eraseIdx k) (as.eraseIdx k) := by
  refine ⟨by rw [List.length_eraseIdx, List.length_eraseIdx, h.len], fun i a e => ?_⟩
  rw [List.getElem?_eraseIdx] at e
  rw [List.getElem?_eraseIdx]
  split at e
  · rename_i hi
    rw [if_pos hi]
    exact h.at_ i a e
  · rename_i hi
    rw [if_neg hi]
    exact h.at_ (i + 1) a e
end Co
end

section
set_option maxHeartbeats 4000000
namespace Co.Tx
open PySem PySem.Spec PyProof.Rows L2 Co
def kp : Nat → List Row → List (Nat × Nat)
  | _, [] => []
  | i, (_, none) :: r => kp (i + 1) r
  | i, (_, some b) :: r => (b, i) :: kp (i + 1) r
theorem kp_app : ∀ (i : Nat) (a b : List Row), kp i (a ++ b) = kp i a ++ kp (i + a.length) b
  | i, [], b => rfl
  | i, (_, none) :: a, b => by
    show kp (i + 1) (a ++ b) = kp (i + 1) a ++ _
    rw [kp_app (i + 1) a b, List.length_cons, show i + (a.length + 1) = i + 1 + a.length by omega]
  | i, (_, some x) :: a, b => by
    show (x, i) :: kp (i + 1) (a ++ b) = (x, i) :: (kp (i + 1) a ++ _)
    rw [kp_app (i + 1) a b, List.length_cons, show i + (a.length + 1) = i + 1 + a.length by omega]
theorem kp_ins : ∀ (i : Nat) (p : List Nat), kp i (ins p) = []
  | _, [] => rfl
  | i, _ :: p => kp_ins (i + 1) p
theorem kp_len : ∀ (i : Nat) (r : List Row), (kp i r).length ≤ r.length
  | _, [] => Nat.le_refl _
  | i, (_, none) :: r => Nat.le_succ_of_le (kp_len (i + 1) r)
  | i, (_, some b) :: r => Nat.succ_le_succ (kp_len (i + 1) r)
theorem kp_map (f : Nat → Nat × Nat) : ∀ (n i a : Nat), kp i ((List.range n).map fun k => ((f (a + k)).1, some (f (a + k)).2)) = (List.range n).map fun k => ((f (a + k)).2, i + k)
  | 0, _, _ => rfl
  | n + 1, i, a => by
    rw [List.range_succ_eq_map, List.map_cons, List.map_map, List.map_cons, List.map_map]
    show ((f (a + 0)).2, i) :: kp (i + 1) ((List.range n).map fun k => ((f (a + (k + 1))).1, some (f (a + (k + 1))).2)) = _
    have e : ((List.range n).map fun k => ((f (a + (k + 1))).1, some (f (a + (k + 1))).2)) = ((List.range n).map fun k => ((f (a + 1 + k)).1, some (f (a + 1 + k)).2)) := List.map_congr_left fun k _ => by rw [show a + (k + 1) = a + 1 + k by omega]
    rw [e, kp_map f n (i + 1) (a + 1)]
    congr 1
    refine List.map_congr_left fun k _ => ?_
    show _ = ((f (a + (k + 1))).2, i + (k + 1))
    rw [show a + (k + 1) = a + 1 + k by omega, show i + (k + 1) = i + 1 + k by omega]
theorem kp_seg {t : List Nat} (i a b : Nat) : kp i (seg t a b) = (List.range (b - a)).map fun k => (a + k, i + k) := kp_map (fun x => (t.getD x 0, x)) (b - a) i a
def Up {α : Type} (g : α → Nat) : Nat → List α → Prop
  | _, [] => True
  | lo, x :: r => lo ≤ g x ∧ Up g (g x + 1) r
theorem Up.mono {α : Type} {g : α → Nat} : ∀ {l : List α} {lo lo' : Nat}, Up g lo l → lo' ≤ lo → Up g lo' l
  | [], _, _, _, _ => trivial
  | _ :: _, _, _, h, k => ⟨Nat.le_trans k h.1, h.2⟩
theorem Up.ge {α : Type} {g : α → Nat} : ∀ {l : List α} {lo : Nat}, Up g lo l → ∀ x ∈ l, lo ≤ g x
  | [], _, _, x, h => by cases h
  | y :: l, lo, u, x, h => by
    rcases List.mem_cons.mp h with e | h
    · subst e
      exact u.1
    · have := u.2.ge x h
      have := u.1
      omega
theorem up_last {α : Type} {g : α → Nat} {y : α} : ∀ {A : List α} {lo : Nat}, Up g lo (A ++ [y]) → ∀ x ∈ A, g x < g y
  | [], _, _, x, h => by cases h
  | z :: A, lo, u, x, h => by
    rcases List.mem_cons.mp h with e | h
    · subst e
      have := u.2.ge y (by simp)
      omega
    · exact up_last u.2 x h
theorem up_pre {α : Type} {g : α → Nat} : ∀ {A B : List α} {lo : Nat}, Up g lo (A ++ B) → Up g lo A
  | [], _, _, _ => trivial
  | x :: A, B, lo, u => ⟨u.1, up_pre u.2⟩
theorem up_take {α : Type} {g : α → Nat} : ∀ {A : List α} {lo i : Nat}, Up g lo A → Up g lo (A.take i)
  | _, _, 0, _ => by rw [List.take_zero]; trivial
  | [], _, i + 1, _ => trivial
  | x :: A, lo, i + 1, u => ⟨u.1, up_take u.2⟩
theorem kp_up2 : ∀ (i : Nat) (r : List Row), Up (·.2) i (kp i r)
  | _, [] => trivial
  | i, (_, none) :: r => (kp_up2 (i + 1) r).mono (Nat.le_succ _)
  | i, (_, some b) :: r => ⟨Nat.le_refl _, kp_up2 (i + 1) r⟩
theorem up_app {α : Type} {g : α → Nat} : ∀ {a b : List α} {lo m : Nat}, Up g lo a → (∀ x ∈ a, g x < m) → Up g m b → lo ≤ m → Up g lo (a ++ b)
  | [], b, lo, m, _, _, h, k => h.mono k
  | x :: a, b, lo, m, u, hm, h, k => ⟨u.1, up_app u.2 (fun y hy => hm y (List.mem_cons_of_mem _ hy)) h (hm x List.mem_cons_self)⟩
theorem up_range (f : Nat → Nat) : ∀ (n i a : Nat), Up (·.1) a ((List.range n).map fun k => (a + k, i + k))
  | 0, _, _ => trivial
  | n + 1, i, a => by
    rw [List.range_succ_eq_map, List.map_cons, List.map_map]
    refine ⟨Nat.le_refl _, ?_⟩
    have e : (List.range n).map ((fun k => (a + k, i + k)) ∘ Nat.succ) = (List.range n).map fun k => (a + 1 + k, i + 1 + k) := List.map_congr_left fun k _ => by
      show (a + (k + 1), i + (k + 1)) = _
      rw [show a + (k + 1) = a + 1 + k by omega, show i + (k + 1) = i + 1 + k by omega]
    rw [e]
    exact up_range f n (i + 1) (a + 1)
theorem kp_up1 {t : List Nat} : ∀ {cs : List Pc} {lo a i : Nat}, WfC t.length lo cs → a ≤ lo → Up (·.1) a (kp i (mark t a cs)) ∧ ∀ x ∈ kp i (mark t a cs), x.1 < t.length
  | [], lo, a, i, _, _ => by
    show Up (·.1) a (kp i (seg t a t.length)) ∧ ∀ x ∈ kp i (seg t a t.length), _
    rw [kp_seg]
    refine ⟨up_range id _ _ _, fun x hx => ?_⟩
    obtain ⟨k, hk, rfl⟩ := List.mem_map.mp hx
    have := List.mem_range.mp hk
    show a + k < _
    omega
  | c :: cs, lo, a, i, ⟨w1, w2, w3, w4, w⟩, ha => by
    show Up (·.1) a (kp i (seg t a c.s ++ ins c.put ++ mark t c.e cs)) ∧ ∀ x ∈ kp i (seg t a c.s ++ ins c.put ++ mark t c.e cs), _
    rw [kp_app, kp_app, kp_ins, List.append_nil, kp_seg]
    obtain ⟨h1, h2⟩ := kp_up1 (i := i + (seg t a c.s ++ ins c.put).length) w (Nat.le_succ _)
    have hm : ∀ x ∈ (List.range (c.s - a)).map (fun k => (a + k, i + k)), x.1 < c.s := fun x hx => by
      obtain ⟨k, hk, rfl⟩ := List.mem_map.mp hx
      have := List.mem_range.mp hk
      show a + k < _
      omega
    refine ⟨up_app (up_range id _ _ _) (fun x hx => Nat.lt_of_lt_of_le (hm x hx) w2) h1 (by omega), fun x hx => ?_⟩
    rcases List.mem_append.mp hx with hx | hx
    · have := hm x hx
      omega
    · exact h2 x hx
theorem fm_congr {α β : Type} {f g : α → Option β} : ∀ {l : List α}, (∀ x ∈ l, f x = g x) → l.filterMap f = l.filterMap g
  | [], _ => rfl
  | x :: l, h => by rw [List.filterMap_cons, List.filterMap_cons, h x List.mem_cons_self, fm_congr fun y hy => h y (List.mem_cons_of_mem _ hy)]
def look (B : List (Nat × Nat)) (k : Nat) : Option Nat := (B.find? fun x => x.1 == k).map (·.2)
def look2 (A : List (Nat × Nat)) (k : Nat) : Option Nat := (A.find? fun x => x.2 == k).map (·.1)
def joinA (A B : List (Nat × Nat)) : List (Nat × Nat) := A.filterMap fun x => (look B x.2).map fun j => (x.1, j)
def joinB (A B : List (Nat × Nat)) : List (Nat × Nat) := B.filterMap fun x => (look2 A x.1).map fun b => (b, x.2)
theorem look_none {B : List (Nat × Nat)} {lo k : Nat} (h : Up (·.1) lo B) (hk : k < lo) : look B k = none := by
  unfold look
  rw [List.find?_eq_none.mpr fun x hx => by
    have := h.ge x hx
    simp
    omega]
  rfl
theorem look2_none {A : List (Nat × Nat)} {lo k : Nat} (h : Up (·.2) lo A) (hk : k < lo) : look2 A k = none := by
  unfold look2
  rw [List.find?_eq_none.mpr fun x hx => by
    have := h.ge x hx
    simp
    omega]
  rfl
theorem joinB_drop {x : Nat × Nat} {A : List (Nat × Nat)} : ∀ {B : List (Nat × Nat)} {lo : Nat}, Up (·.1) lo B → x.2 < lo → joinB (x :: A) B = joinB A B := fun {B lo} h hx => by
  unfold joinB
  refine fm_congr fun y hy => ?_
  have := h.ge y hy
  have e : look2 (x :: A) y.1 = look2 A y.1 := by
    unfold look2
    rw [List.find?_cons_of_neg (by simp; omega)]
  rw [e]
theorem joinA_drop {x : Nat × Nat} {B : List (Nat × Nat)} : ∀ {A : List (Nat × Nat)} {lo : Nat}, Up (·.2) lo A → x.1 < lo → joinA A (x :: B) = joinA A B := fun {A lo} h hx => by
  unfold joinA
  refine fm_congr fun y hy => ?_
  have := h.ge y hy
  have e : look (x :: B) y.2 = look B y.2 := by
    unfold look
    rw [List.find?_cons_of_neg (by simp; omega)]
  rw [e]
theorem join_eq : ∀ {A B : List (Nat × Nat)} {lo lo' : Nat}, Up (·.2) lo A → Up (·.1) lo' B → joinA A B = joinB A B
  | [], B, lo, lo', _, _ => by
    unfold joinA joinB
    rw [List.filterMap_nil, eq_comm, List.filterMap_eq_nil_iff]
    intro x _
    rfl
  | x :: A, [], lo, lo', _, _ => by
    unfold joinA joinB
    rw [List.filterMap_nil, List.filterMap_eq_nil_iff]
    intro y _
    rfl
  | (b, k) :: A, (k', j) :: B, lo, lo', ha, hb => by
    rcases Nat.lt_trichotomy k k' with h | h | h
    · rw [joinB_drop (x := (b, k)) (show Up (·.1) k' ((k', j) :: B) from ⟨Nat.le_refl _, hb.2⟩) h, ← join_eq ha.2 hb]
      unfold joinA
      rw [List.filterMap_cons, look_none (show Up (·.1) k' ((k', j) :: B) from ⟨Nat.le_refl _, hb.2⟩) h]
      rfl
    · subst h
      have e1 : joinA ((b, k) :: A) ((k, j) :: B) = (b, j) :: joinA A ((k, j) :: B) := by
        unfold joinA
        rw [List.filterMap_cons]
        have : look ((k, j) :: B) k = some j := by simp [look]
        rw [show ((b, k) : Nat × Nat).2 = k from rfl, this]
        rfl
      have e2 : joinB ((b, k) :: A) ((k, j) :: B) = (b, j) :: joinB ((b, k) :: A) B := by
        unfold joinB
        rw [List.filterMap_cons]
        have : look2 ((b, k) :: A) k = some b := by simp [look2]
        rw [show ((k, j) : Nat × Nat).1 = k from rfl, this]
        rfl
      rw [e1, e2, joinA_drop (x := (k, j)) ha.2 (Nat.lt_succ_self k), joinB_drop (x := (b, k)) hb.2 (Nat.lt_succ_self k), join_eq ha.2 hb.2]
    · rw [joinA_drop (x := (k', j)) (show Up (·.2) k ((b, k) :: A) from ⟨Nat.le_refl _, ha.2⟩) h, join_eq ha hb.2]
      unfold joinB
      rw [List.filterMap_cons, look2_none (show Up (·.2) k ((b, k) :: A) from ⟨Nat.le_refl _, ha.2⟩) h]
      rfl
termination_by A B => A.length + B.length
theorem up_fm {B : List (Nat × Nat)} : ∀ {A : List (Nat × Nat)} {lo : Nat}, Up (·.1) lo A → Up (·.1) lo (A.filterMap fun x => (look B x.2).map fun j => (x.1, j))
  | [], _, _ => trivial
  | x :: A, lo, h => by
    have ih := up_fm (B := B) h.2
    have h1 : lo ≤ x.1 := h.1
    rw [List.filterMap_cons]
    cases look B x.2 with
    | none => exact ih.mono (by show lo ≤ x.1 + 1; omega)
    | some j => exact ⟨h1, ih⟩
def comp (M M2 : List Row) : List Row := M2.map fun r => (r.1, r.2.bind fun k => (M[k]?).bind (·.2))
theorem look2_kp : ∀ (M : List Row) (i k : Nat), i ≤ k → look2 (kp i M) k = (M[k - i]?).bind (·.2)
  | [], i, k, _ => rfl
  | (_, none) :: M, i, k, h => by
    show look2 (kp (i + 1) M) k = _
    by_cases e : k = i
    · subst e
      rw [look2_none (kp_up2 (k + 1) M) (Nat.lt_succ_self k), Nat.sub_self]
      rfl
    · rw [look2_kp M (i + 1) k (by omega), show k - i = (k - (i + 1)) + 1 by omega, List.getElem?_cons_succ]
  | (_, some b) :: M, i, k, h => by
    show look2 ((b, i) :: kp (i + 1) M) k = _
    by_cases e : k = i
    · subst e
      rw [Nat.sub_self]
      simp [look2]
    · have : look2 ((b, i) :: kp (i + 1) M) k = look2 (kp (i + 1) M) k := by
        unfold look2
        rw [List.find?_cons_of_neg (by simp; omega)]
      rw [this, look2_kp M (i + 1) k (by omega), show k - i = (k - (i + 1)) + 1 by omega, List.getElem?_cons_succ]
theorem kp_comp (M : List Row) : ∀ (M2 : List Row) (i : Nat), kp i (comp M M2) = joinB (kp 0 M) (kp i M2)
  | [], _ => rfl
  | (c, none) :: M2, i => by
    show kp (i + 1) (comp M M2) = joinB (kp 0 M) (kp (i + 1) M2)
    exact kp_comp M M2 (i + 1)
  | (c, some k) :: M2, i => by
    have ih := kp_comp M M2 (i + 1)
    have e1 : joinB (kp 0 M) (kp i ((c, some k) :: M2)) = ((look2 (kp 0 M) k).map fun b => (b, i)).toList ++ joinB (kp 0 M) (kp (i + 1) M2) := by
      show joinB (kp 0 M) ((k, i) :: kp (i + 1) M2) = _
      unfold joinB
      rw [List.filterMap_cons]
      cases (look2 (kp 0 M) k) <;> rfl
    rw [e1, ← ih, look2_kp M 0 k (Nat.zero_le _), Nat.sub_zero]
    show kp i ((c, (M[k]?).bind (·.2)) :: comp M M2) = _
    cases (M[k]?).bind (·.2) <;> rfl
def pce (old b : Nat) (put : List Nat) : List Pc := if old < b ∨ put ≠ [] then [⟨old, b, put⟩] else []
def jl (fin : List Nat) : Nat → Nat → List (Nat × Nat) → List Pc
  | _, _, [] => []
  | old, new, (b, j) :: L => pce old b (slc fin new j) ++ jl fin (b + 1) (j + 1) L
structure JS where
  acc : List Pc
  old : Nat
  new : Nat
def jstep (fin : List Nat) (x : JS) (y : Nat × Nat) : JS := ⟨x.acc ++ pce x.old y.1 (slc fin x.new y.2), y.1 + 1, y.2 + 1⟩
theorem jl_fold (fin : List Nat) : ∀ (L : List (Nat × Nat)) (x : JS), (L.foldl (jstep fin) x).acc = x.acc ++ jl fin x.old x.new L
  | [], x => by simp [jl]
  | (b, j) :: L, x => by
    rw [List.foldl_cons, jl_fold fin L]
    show (x.acc ++ _) ++ _ = x.acc ++ (_ ++ _)
    rw [List.append_assoc]
    rfl
theorem wf_mono {n : Nat} : ∀ {cs : List Pc} {lo lo' : Nat}, WfC n lo cs → lo' ≤ lo → WfC n lo' cs
  | [], _, _, _, _ => trivial
  | _ :: _, _, _, w, h => ⟨Nat.le_trans h w.1, w.2⟩
theorem jl_wf {fin : List Nat} {n : Nat} : ∀ {L : List (Nat × Nat)} {old new : Nat}, Up (·.1) old L → Up (·.2) new L → (∀ x ∈ L, x.1 ≤ n ∧ x.2 ≤ fin.length) → WfC n old (jl fin old new L)
  | [], _, _, _, _, _ => trivial
  | (b, j) :: L, old, new, h1, h2, h3 => by
    have ih := jl_wf (fin := fin) (n := n) h1.2 h2.2 fun x hx => h3 x (List.mem_cons_of_mem _ hx)
    have hb := h3 (b, j) List.mem_cons_self
    have e1 : old ≤ b := h1.1
    show WfC n old (pce old b (slc fin new j) ++ jl fin (b + 1) (j + 1) L)
    unfold pce
    split
    · rename_i h
      exact ⟨Nat.le_refl _, e1, hb.1, fun e => by
        rcases h with h | h
        · have : old = b := e
          omega
        · exact h, ih⟩
    · exact wf_mono ih (by show old ≤ b + 1; omega)
theorem aft_shift {t : List Nat} {a b : Nat} : ∀ {cs : List Pc}, WfC t.length b cs → a ≤ b → b ≤ t.length → aft t a cs = slc t a b ++ aft t b cs
  | [], _, h, h2 => by
    rw [aft_nil, aft_nil]
    unfold slc
    conv => lhs; rw [← List.take_append_drop (b - a) (t.drop a), List.drop_drop, show a + (b - a) = b by omega]
  | c :: cs, ⟨w1, w2, w3, w4, w⟩, h, h2 => by
    rw [aft_cons (by omega), aft_cons (by omega), ← List.append_assoc, ← List.append_assoc]
    congr 2
    unfold slc
    rw [show c.s - a = (b - a) + (c.s - b) by omega, List.take_add, List.drop_drop, show a + (b - a) = b by omega]
theorem slc_one {t : List Nat} {b x : Nat} (h : t[b]? = some x) : slc t b (b + 1) = [x] := by
  obtain ⟨h1, h2⟩ := List.getElem?_eq_some_iff.mp h
  unfold slc
  rw [List.drop_eq_getElem_cons h1, show b + 1 - b = 1 by omega, h2]
  rfl
theorem slc_app {t : List Nat} {a b c : Nat} (h : a ≤ b) (h2 : b ≤ c) : slc t a b ++ slc t b c = slc t a c := by
  unfold slc
  rw [show c - a = (b - a) + (c - b) by omega, List.take_add, List.drop_drop, show a + (b - a) = b by omega]
theorem slc_end {t : List Nat} {a : Nat} : slc t a t.length = t.drop a := by
  unfold slc
  rw [List.take_of_length_le (by simp)]
theorem slc_nil {t : List Nat} {a b : Nat} (h : b ≤ a) : slc t a b = [] := by
  unfold slc
  rw [show b - a = 0 by omega, List.take_zero]
theorem pce_aft {t : List Nat} {old b : Nat} {put : List Nat} {cs : List Pc} (w : WfC t.length b cs) (h : old ≤ b) (h2 : b ≤ t.length) : aft t old (pce old b put ++ cs) = put ++ aft t b cs := by
  unfold pce
  split
  · show aft t old (⟨old, b, put⟩ :: cs) = _
    rw [aft_cons (show old ≤ t.length by omega), slc_nil (Nat.le_refl _)]
    rfl
  · rename_i hn
    have e : old = b := by omega
    have e2 : put = [] := Classical.byContradiction fun z => hn (.inr z)
    subst e e2
    rfl
theorem jl_aft {t fin : List Nat} : ∀ {ks : List (Nat × Nat)} {old new : Nat}, Up (·.1) old (ks ++ [(t.length, fin.length)]) → Up (·.2) new (ks ++ [(t.length, fin.length)]) → (∀ x ∈ ks, x.1 < t.length ∧ x.2 < fin.length ∧ t[x.1]? = fin[x.2]?) →
    aft t old (jl fin old new (ks ++ [(t.length, fin.length)])) = fin.drop new
  | [], old, new, h1, h2, _ => by
    have e1 : old ≤ t.length := h1.1
    show aft t old (pce old t.length (slc fin new fin.length) ++ []) = _
    rw [pce_aft (cs := []) (show WfC t.length t.length [] from trivial) e1 (Nat.le_refl _), aft_nil, slc_end, List.drop_length, List.append_nil]
  | (b, j) :: ks, old, new, h1, h2, h3 => by
    have e1 : old ≤ b := h1.1
    have e2 : new ≤ j := h2.1
    obtain ⟨hb, hj, he⟩ := h3 (b, j) List.mem_cons_self
    have hb : b < t.length := hb
    have hj : j < fin.length := hj
    have h3' : ∀ x ∈ ks, x.1 < t.length ∧ x.2 < fin.length ∧ t[x.1]? = fin[x.2]? := fun x hx => h3 x (List.mem_cons_of_mem _ hx)
    have ih := jl_aft (t := t) (fin := fin) h1.2 h2.2 h3'
    have w : WfC t.length (b + 1) (jl fin (b + 1) (j + 1) (ks ++ [(t.length, fin.length)])) := jl_wf h1.2 h2.2 fun x hx => by
      rcases List.mem_append.mp hx with hx | hx
      · have := h3' x hx
        omega
      · simp at hx
        subst hx
        exact ⟨Nat.le_refl _, Nat.le_refl _⟩
    show aft t old (pce old b (slc fin new j) ++ jl fin (b + 1) (j + 1) (ks ++ [(t.length, fin.length)])) = _
    have tb : t[b]? = some t[b] := by simp [hb]
    have fj : fin[j]? = some t[b] := by rw [← tb]; exact he.symm
    rw [pce_aft (wf_mono w (Nat.le_succ _)) e1 (by omega), aft_shift w (Nat.le_succ _) hb, slc_one tb, ih, ← slc_one fj, ← List.append_assoc, slc_app e2 (Nat.le_succ _)]
    conv => rhs; rw [← slc_end, ← slc_app (b := j + 1) (by omega) hj, slc_end]
def dl (n : Nat) : Nat → List Nat → List Row → List Pc
  | old, put, [] => pce old n put
  | old, put, (c, none) :: r => dl n old (put ++ [c]) r
  | old, put, (_, some b) :: r => pce old b put ++ dl n (b + 1) [] r
theorem dl_jl {n : Nat} {fin : List Nat} : ∀ {rows : List Row} {pre : List Nat} {old new : Nat} {put : List Nat}, fin = pre ++ rows.map (·.1) → put = slc fin new pre.length → new ≤ pre.length →
    dl n old put rows = jl fin old new (kp pre.length rows ++ [(n, fin.length)])
  | [], pre, old, new, put, hf, hp, hn => by
    show pce old n put = pce old n (slc fin new fin.length) ++ []
    have hl := congrArg List.length hf
    simp at hl
    rw [List.append_nil, hp, hl]
  | (c, none) :: r, pre, old, new, put, hf, hp, hn => by
    have hf' : fin = (pre ++ [c]) ++ r.map (·.1) := by rw [hf]; simp
    have hc : fin[pre.length]? = some c := by rw [hf, List.getElem?_append_right (Nat.le_refl _)]; simp
    have ih := dl_jl (n := n) (old := old) (new := new) (put := put ++ [c]) hf' (by rw [show put ++ [c] = slc fin new (pre.length + 1) by rw [hp, ← slc_app hn (Nat.le_succ _), slc_one hc], List.length_append, List.length_singleton]) (by simp; omega)
    rw [List.length_append, List.length_singleton] at ih
    exact ih
  | (c, some b) :: r, pre, old, new, put, hf, hp, hn => by
    have hf' : fin = (pre ++ [c]) ++ r.map (·.1) := by rw [hf]; simp
    have ih := dl_jl (n := n) (old := b + 1) (new := pre.length + 1) (put := []) hf' (by rw [List.length_append, List.length_singleton, slc_nil (Nat.le_refl _)]) (by simp)
    rw [List.length_append, List.length_singleton] at ih
    show pce old b put ++ dl n (b + 1) [] r = pce old b (slc fin new pre.length) ++ jl fin (b + 1) (pre.length + 1) _
    rw [ih, hp]
    rfl
abbrev mid (t : List Nat) (cs : List Pc) : List Nat := after t cs
def rowsJ (t : List Nat) (cs ds : List Pc) : List Row := comp (mark t 0 cs) (mark (after t cs) 0 ds)
abbrev finJ (t : List Nat) (cs ds : List Pc) : List Nat := after (after t cs) ds
def joinC (t : List Nat) (cs ds : List Pc) : List Pc := jl (finJ t cs ds) 0 0 (kp 0 (rowsJ t cs ds) ++ [(t.length, (finJ t cs ds).length)])
theorem rowsJ_fst (t : List Nat) (cs ds : List Pc) : (rowsJ t cs ds).map (·.1) = finJ t cs ds := by
  unfold rowsJ comp
  rw [List.map_map]
  rfl
theorem due_join (t : List Nat) (cs ds : List Pc) : dl t.length 0 [] (rowsJ t cs ds) = joinC t cs ds := dl_jl (pre := []) (by rw [rowsJ_fst]; rfl) (slc_nil (a := 0) (b := 0) (Nat.le_refl _)).symm (Nat.le_refl _)
theorem kp_mem : ∀ {rows : List Row} {i : Nat} {x : Nat × Nat}, x ∈ kp i rows → i ≤ x.2 ∧ ∃ r, rows[x.2 - i]? = some r ∧ r.2 = some x.1
  | [], i, x, h => by cases h
  | (c, none) :: r, i, x, h => by
    obtain ⟨h1, r', h2, h3⟩ := kp_mem (rows := r) (i := i + 1) h
    exact ⟨by omega, r', by rw [show x.2 - i = (x.2 - (i + 1)) + 1 by omega, List.getElem?_cons_succ]; exact h2, h3⟩
  | (c, some b) :: r, i, x, h => by
    rcases List.mem_cons.mp h with h | h
    · subst h
      exact ⟨Nat.le_refl _, (c, some b), by simp, rfl⟩
    · obtain ⟨h1, r', h2, h3⟩ := kp_mem (rows := r) (i := i + 1) h
      exact ⟨by omega, r', by rw [show x.2 - i = (x.2 - (i + 1)) + 1 by omega, List.getElem?_cons_succ]; exact h2, h3⟩
theorem mem_kp : ∀ {rows : List Row} {i j b : Nat} {r : Row}, rows[j]? = some r → r.2 = some b → (b, i + j) ∈ kp i rows
  | [], _, _, _, _, h, _ => by simp at h
  | (c, none) :: rows, i, 0, b, r, h, e => by
    have h : (c, none) = r := by simpa using h
    subst h
    cases e
  | (c, some x) :: rows, i, 0, b, r, h, e => by
    have h : (c, some x) = r := by simpa using h
    subst h
    cases e
    exact List.mem_cons_self
  | (c, none) :: rows, i, j + 1, b, r, h, e => by
    have := mem_kp (rows := rows) (i := i + 1) (j := j) (by simpa using h) e
    rw [show i + 1 + j = i + (j + 1) by omega] at this
    exact this
  | (c, some x) :: rows, i, j + 1, b, r, h, e => by
    have := mem_kp (rows := rows) (i := i + 1) (j := j) (by simpa using h) e
    rw [show i + 1 + j = i + (j + 1) by omega] at this
    exact List.mem_cons_of_mem _ this
theorem mark_sign {t : List Nat} : ∀ {cs : List Pc} {a k x : Nat} {r : Row}, (mark t a cs)[k]? = some r → r.2 = some x → r.1 = t.getD x 0
  | [], a, k, x, r, h, e => by
    obtain ⟨_, rfl⟩ := seg_get h
    cases e
    rfl
  | c :: cs, a, k, x, r, h, e => by
    rcases three h with ⟨_, rfl⟩ | ⟨_, _, h3⟩ | ⟨_, h2⟩
    · cases e
      rfl
    · rw [h3] at e
      cases e
    · exact mark_sign h2 e
theorem kpJ {t : List Nat} {cs ds : List Pc} (w1 : WfC t.length 0 cs) (w2 : WfC (after t cs).length 0 ds) :
    Up (·.1) 0 (kp 0 (rowsJ t cs ds) ++ [(t.length, (finJ t cs ds).length)]) ∧ Up (·.2) 0 (kp 0 (rowsJ t cs ds) ++ [(t.length, (finJ t cs ds).length)]) ∧
    (∀ x ∈ kp 0 (rowsJ t cs ds), x.1 < t.length ∧ x.2 < (finJ t cs ds).length ∧ t[x.1]? = (finJ t cs ds)[x.2]?) ∧
    joinA (kp 0 (mark t 0 cs)) (kp 0 (mark (after t cs) 0 ds)) = kp 0 (rowsJ t cs ds) := by
  obtain ⟨u1, u2⟩ := kp_up1 (i := 0) w1 (Nat.le_refl 0)
  obtain ⟨v1, v2⟩ := kp_up1 (i := 0) w2 (Nat.le_refl 0)
  have hj : joinA (kp 0 (mark t 0 cs)) (kp 0 (mark (after t cs) 0 ds)) = kp 0 (rowsJ t cs ds) := by
    unfold rowsJ
    rw [kp_comp]
    exact join_eq (kp_up2 0 _) v1
  have hm : ∀ x ∈ kp 0 (rowsJ t cs ds), x.1 < t.length ∧ x.2 < (finJ t cs ds).length ∧ t[x.1]? = (finJ t cs ds)[x.2]? := fun x hx => by
    obtain ⟨_, r, h2, h3⟩ := kp_mem hx
    rw [Nat.sub_zero] at h2
    unfold rowsJ comp at h2
    rw [List.getElem?_map] at h2
    obtain ⟨r2, h4, rfl⟩ := Option.map_eq_some_iff.mp h2
    obtain ⟨k, h5, h6⟩ := Option.bind_eq_some_iff.mp h3
    obtain ⟨r1, h7, h8⟩ := Option.bind_eq_some_iff.mp h6
    have b1 := mark_ge w1 (Nat.le_refl 0) h7 h8
    have b2 := mark_ge w2 (Nat.le_refl 0) h4 h5
    have g1 := mark_sign h7 h8
    have g2 := mark_sign h4 h5
    have g3 : (after t cs).getD k 0 = r1.1 := by
      show ((mark t 0 cs).map (·.1)).getD k 0 = _
      rw [List.getD_eq_getElem?_getD, List.getElem?_map, h7]
      rfl
    have g4 : (finJ t cs ds)[x.2]? = some r2.1 := by
      show ((mark (after t cs) 0 ds).map (·.1))[x.2]? = _
      rw [List.getElem?_map, h4]
      rfl
    refine ⟨b1.2, (List.getElem?_eq_some_iff.mp g4).1, ?_⟩
    rw [g4, g2, g3, g1]
    have := b1.2
    simp [this]
  refine ⟨?_, ?_, hm, hj⟩
  · refine up_app ?_ (fun x hx => (hm x hx).1) (show Up (·.1) t.length [(t.length, (finJ t cs ds).length)] from ⟨Nat.le_refl _, trivial⟩) (Nat.zero_le _)
    rw [← hj]
    unfold joinA
    refine up_fm u1
  · exact up_app (kp_up2 0 _) (fun x hx => (hm x hx).2.1) (show Up (·.2) (finJ t cs ds).length [(t.length, (finJ t cs ds).length)] from ⟨Nat.le_refl _, trivial⟩) (Nat.zero_le _)
theorem joinC_wf {t : List Nat} {cs ds : List Pc} (w1 : WfC t.length 0 cs) (w2 : WfC (after t cs).length 0 ds) : WfC t.length 0 (joinC t cs ds) := by
  obtain ⟨a, b, c, d⟩ := kpJ w1 w2
  refine jl_wf a b fun x hx => ?_
  rcases List.mem_append.mp hx with hx | hx
  · have := c x hx
    omega
  · rw [List.mem_singleton] at hx
    subst hx
    exact ⟨Nat.le_refl _, Nat.le_refl _⟩
theorem joinC_aft {t : List Nat} {cs ds : List Pc} (w1 : WfC t.length 0 cs) (w2 : WfC (after t cs).length 0 ds) : after t (joinC t cs ds) = finJ t cs ds := by
  obtain ⟨a, b, c, d⟩ := kpJ w1 w2
  exact jl_aft (ks := kp 0 (rowsJ t cs ds)) a b c
theorem tot_le {t : List Nat} {n : Nat} : ∀ {L : List (Nat × Nat)} {old new : Nat}, Up (·.2) new L → (∀ x ∈ L, x.2 ≤ t.length) → tot (jl t old new L) + new ≤ t.length + 1 ∨ (L = [] ∧ tot (jl t old new L) = 0)
  | [], _, _, _, _ => .inr ⟨rfl, rfl⟩
  | (b, j) :: L, old, new, h, hx => by
    have h1 : new ≤ j := h.1
    have h2 : j ≤ t.length := hx (b, j) List.mem_cons_self
    have e : tot (jl t old new ((b, j) :: L)) ≤ (j - new) + tot (jl t (b + 1) (j + 1) L) := by
      show tot (pce old b (slc t new j) ++ jl t (b + 1) (j + 1) L) ≤ _
      unfold pce
      split
      · show (slc t new j).length + _ ≤ _
        rw [slc_len h2]
        exact Nat.le_refl _
      · exact Nat.le_add_left _ _
    have ih : tot (jl t (b + 1) (j + 1) L) + (j + 1) ≤ t.length + 1 ∨ (L = [] ∧ tot (jl t (b + 1) (j + 1) L) = 0) := tot_le (t := t) (n := n) (old := b + 1) h.2 fun x hx' => hx x (List.mem_cons_of_mem _ hx')
    rcases ih with ih | ⟨_, ih⟩
    · exact .inl (by omega)
    · exact .inl (by omega)
theorem joinC_tot {t : List Nat} {cs ds : List Pc} (w1 : WfC t.length 0 cs) (w2 : WfC (after t cs).length 0 ds) : tot (joinC t cs ds) ≤ (finJ t cs ds).length + 1 := by
  obtain ⟨a, b, c, d⟩ := kpJ w1 w2
  rcases tot_le (t := finJ t cs ds) (n := 0) (old := 0) b fun x hx => by
    rcases List.mem_append.mp hx with hx | hx
    · have := (c x hx).2.1
      omega
    · rw [List.mem_singleton] at hx
      subst hx
      exact Nat.le_refl _ with h | ⟨_, h⟩
  · exact h
  · show tot (jl _ _ _ _) ≤ _
    rw [h]
    exact Nat.zero_le _
abbrev fP (x : Nat × Nat) : List V := [.int (x.1 : Int), .int (x.2 : Int)]
def sp_kept (K : PySem.W.Frag) : Sp := fun vs H Q _ => match vs with
  | [.int n, .ref a] => ∃ (t : List Nat) (cs : List Pc), n = (t.length : Int) ∧ t.length + tot cs ≤ 100000 ∧ Chg K H a cs ∧ WfC t.length 0 cs ∧ ∀ r ys H', H r = none → H' r = some (.lst ys) → Rw fP H' ys (kp 0 (mark t 0 cs)) → Same H H' → Q (.ref r) H'
  | _ => False
def sp_join (K : PySem.W.Frag) : Sp := fun vs H Q _ => match vs with
  | [.str z, .ref a, .ref b] => ∃ (t : List Nat) (cs ds : List Pc), z = S t ∧ t.length + tot cs + tot ds ≤ 50000 ∧ Chg K H a cs ∧ Chg K H b ds ∧ WfC t.length 0 cs ∧ WfC (after t cs).length 0 ds ∧
      ∀ r ys H', H r = none → H' r = some (.tup ys) → Rw fC H' ys (joinC t cs ds) → Same H H' → Q (.ref r) H'
  | _ => False
def sp_near (K : PySem.W.Frag) : Sp := fun vs H Q _ => match vs with
  | [.ref p, .str z, .ref a] => ∃ (q : Addr) (t : List Nat) (cs : List Pc), z = S t ∧ t.length + tot cs ≤ 10000 ∧ PoolAt H p q ∧ Chg K H a cs ∧ a ≠ p ∧ WfC t.length 0 cs ∧ cs.length ≤ 10000 ∧
      ∀ r ys ds H', H r = none → H' r = some (.lst ys) → Rw fC H' ys ds → WfC (after t cs).length 0 ds → tot ds ≤ t.length → PoolAt H' p q → Fr [p] H H' → Q (.ref r) H'
  | _ => False
end Co.Tx
end

section
set_option maxHeartbeats 4000000
namespace Co.Tx
open PySem PySem.Spec PyProof.Rows L2 Co
abbrev N_kept_places : List Str := ["size", "change", "found", "at", "moved", "start", "stop", "put", "place"]
def t_kept_places (K : PySem.W.Frag) (E : XK) : TS :=
 (tSeq (tAsg (tLst tNil) (gName 2))
 (tSeq (tAsg (tC (.int 0)) (gName 3))
 (tSeq (tAsg (tC (.int 0)) (gName 4))
 (tSeq (tFor (iSeq K (tV 1)) (gTup K 3 (gCons (gName 5) (gCons (gName 6) (gCons (gName 7) gNil))))
 (tSeq (tDrop (tBM K "list" rExtend (tV 2) (tCons (uLc (iRng2 (tCons (tV 3) (tCons (tV 5) tNil))) (gName 8) tYes (tTup (tCons (tV 8) (tCons (tOp fAdd (tV 8) (tV 4)) tNil))) ([("place", 8)].map (·.2))) tNil)))
 (tSeq (uAug 4 (tOp fSub (tCB cLenS (tCons (tV 7) tNil)) (tOp fSub (tV 6) (tV 5))) iiAdd)
 (tAsg (tV 6) (gName 3)))))
 (tSeq (tDrop (tBM K "list" rExtend (tV 2) (tCons (uLc (iRng2 (tCons (tV 3) (tCons (tV 0) tNil))) (gName 8) tYes (tTup (tCons (tV 8) (tCons (tOp fAdd (tV 8) (tV 4)) tNil))) ([("place", 8)].map (·.2))) tNil)))
 (tRet (tV 2)))))))
abbrev N_join_changes : List Str := ["text", "first", "second", "middle", "final", "found", "old", "new", "before", "behind", "after", "between"]
def t_join_changes (K : PySem.W.Frag) (E : XK) : TS :=
 (tSeq (tAsg (uCall (sp_apply K) E0 (tCons (tV 0) (tCons (tV 1) tNil))) (gName 3))
 (tSeq (tAsg (uCall (sp_apply K) E0 (tCons (tV 3) (tCons (tV 2) tNil))) (gName 4))
 (tSeq (tAsg (tLst tNil) (gName 5))
 (tSeq (tAsg (tC (.int 0)) (gName 6))
 (tSeq (tAsg (tC (.int 0)) (gName 7))
 (tSeq (tAsg (uDc (iList K (uCall (sp_kept K) E0 (tCons (tCB cLenS (tCons (tV 3) tNil)) (tCons (tV 2) tNil)))) (gTup K 2 (gCons (gName 8) (gCons (gName 9) gNil))) tYes (tV 8) (tV 9) ([("before", 8), ("behind", 9)].map (·.2))) (gName 10))
 (tSeq (tFor (iList K (tOp rCat (uCall (sp_kept K) E0 (tCons (tCB cLenS (tCons (tV 0) tNil)) (tCons (tV 1) tNil))) (tLst (tCons (tTup (tCons (tCB cLenS (tCons (tV 0) tNil)) (tCons (tCB cLenS (tCons (tV 3) tNil)) tNil))) tNil)))) (gTup K 2 (gCons (gName 8) (gCons (gName 11) gNil)))
 (tSeq (tAsg (uIf (tBo (tOp fEq (tV 8) (tCB cLenS (tCons (tV 0) tNil)))) (tCB cLenS (tCons (tV 4) tNil)) (tDGet1 (tV 10) (tV 11))) (gName 9))
 (uIfS (tBo (tNt (tV 9))) (tSeq (uIfS (uOr (tBo (tOp fGt (tV 8) (tV 6))) (tBo (tOp fGt (tV 9) (tV 7)))) (tDrop (tBM K "list" rAppend (tV 5) (tCons (tTup (tCons (tV 6) (tCons (tV 8) (tCons (tSl rSlS (tV 4) (tPart (tV 7)) (tPart (tV 9))) tNil)))) tNil))) tNext)
 (tSeq (tAsg (tOp fAdd (tV 8) (tC (.int 1))) (gName 6))
 (tAsg (tOp fAdd (tV 9) (tC (.int 1))) (gName 7)))) tNext)))
 (tRet (tCB (rTupOf K) (tCons (tV 5) tNil))))))))))
abbrev N_Ljoined : List Str := ["_law_text_here", "_law_first", "_law_second", "_law_middle", "_law_rows", "_law_sign", "_law_place", "_law_pieces", "_law_old", "_law_put", "_law_row"]
def t_Ljoined (K : PySem.W.Frag) (E : XK) : TS :=
 (tSeq (tAsg (uCall (sp_marked K) E0 (tCons (tV 0) (tCons (tV 1) tNil))) (gName 3))
 (tSeq (tAsg (tLst tNil) (gName 4))
 (tSeq (tFor (iList K (uCall (sp_marked K) E0 (tCons (uLc (iList K (tV 3)) (gName 10) tYes (tOp (rIx K) (tV 10) (tC (.int 0))) ([("_law_row", 10)].map (·.2))) (tCons (tV 2) tNil)))) (gTup K 2 (gCons (gName 5) (gCons (gName 6) gNil)))
 (tDrop (tBM K "list" rAppend (tV 4) (tCons (tTup (tCons (tV 5) (tCons (uIf (tBo (tIs (tV 6))) (tC .non) (tOp (rIx K) (tOp (rIxL K) (tV 3) (tV 6)) (tC (.int 1)))) tNil))) tNil))))
 (tSeq (tAsg (tLst tNil) (gName 7))
 (tSeq (tAsg (tC (.int 0)) (gName 8))
 (tSeq (tAsg (tC (.str "")) (gName 9))
 (tSeq (tFor (iList K (tV 4)) (gTup K 2 (gCons (gName 5) (gCons (gName 6) gNil)))
 (uIfS (tBo (tIs (tV 6))) (tAsg (tOp fAddS (tV 9) (tV 5)) (gName 9)) (tSeq (uIfS (uOr (tBo (tOp fGt (tV 6) (tV 8))) (tBo (tOp fNe (tV 9) (tC (.str ""))))) (tDrop (tBM K "list" rAppend (tV 7) (tCons (tTup (tCons (tV 8) (tCons (tV 6) (tCons (tV 9) tNil)))) tNil))) tNext)
 (tSeq (tAsg (tOp fAdd (tV 6) (tC (.int 1))) (gName 8))
 (tAsg (tC (.str "")) (gName 9))))))
 (tSeq (uIfS (uOr (tBo (tOp fGt (tCB cLenS (tCons (tV 0) tNil)) (tV 8))) (tBo (tOp fNe (tV 9) (tC (.str ""))))) (tDrop (tBM K "list" rAppend (tV 7) (tCons (tTup (tCons (tV 8) (tCons (tCB cLenS (tCons (tV 0) tNil)) (tCons (tV 9) tNil)))) tNil))) tNext)
 (tRet (tCB (rTupOf K) (tCons (tV 7) tNil)))))))))))
abbrev N_Lnear : List Str := ["_law_pool_here", "_law_text_here", "_law_change_here", "_law_back"]
def t_Lnear (K : PySem.W.Frag) (E : XK) : TS :=
 (tSeq (tAsg (tCB (rListOf K) (tCons (uCall (sp_inv K) E0 (tCons (tV 1) (tCons (tV 2) tNil))) tNil)) (gName 3))
 (tSeq (uIfS (uAnd (tTru K (tV 3)) (tBo (tOp fEq (uCall (sp_take 2) E0 (tCons (tV 0) (tCons (tC (.int 2)) tNil))) (tC (.int 1))))) (tDrop (tBM K "list" rPopAt (tV 3) (tCons (uCall (sp_take 2) E0 (tCons (tV 0) (tCons (tCB (rLenQ K) (tCons (tV 3) tNil)) tNil))) tNil))) tNext)
 (tRet (tV 3))))
def t_jbody (K : PySem.W.Frag) : TS :=
 (uIfS (tBo (tNt (tV 9))) (tSeq (uIfS (uOr (tBo (tOp fGt (tV 8) (tV 6))) (tBo (tOp fGt (tV 9) (tV 7)))) (tDrop (tBM K "list" rAppend (tV 5) (tCons (tTup (tCons (tV 6) (tCons (tV 8) (tCons (tSl rSlS (tV 4) (tPart (tV 7)) (tPart (tV 9))) tNil)))) tNil))) tNext)
 (tSeq (tAsg (tOp fAdd (tV 8) (tC (.int 1))) (gName 6))
 (tAsg (tOp fAdd (tV 9) (tC (.int 1))) (gName 7)))) tNext)
end Co.Tx
end

section
set_option maxHeartbeats 4000000
namespace Co.Tx
open PySem PySem.Spec PyProof.Rows L2 Co
section
variable {K : PySem.W.Frag} {vs : List V} {H : Hp} {Q : VK} {E : XK}
theorem mstep_old {t : List Nat} {n : Nat} {cs : List Pc} {i : Nat} {c : Pc} (w : WfC n 0 cs) (hc : cs[i]? = some c) : ((cs.take i).foldl (mstep t) ([], 0)).2 ≤ c.s := by
  rcases take_last (cs := cs) (i := i) (by have := (List.getElem?_eq_some_iff.mp hc).1; omega) with rfl | ⟨d, h1, h2⟩
  · exact Nat.zero_le _
  · rw [h2, List.foldl_append]
    show d.e ≤ c.s
    have := (wf_drop w hc).1 d (i - 1) (by
      cases i with
      | zero =>
        have hl := congrArg List.length h2
        simp at hl
      | succ j => omega) h1
    omega
theorem kepC {n mv : Int} {a0 b L : Nat} {a : Addr} {z2 z3 z5 z6 z7 z8 : Option V} {QD : Addr → Hp → Prop} (hb : b ≤ 100000) (hmv : mv = (L : Int) - (a0 : Int))
    (k : ∀ D ys H', H D = none → H' D = some (.lst ys) → Rw fP H' ys ((List.range (b - a0)).map fun k => (a0 + k, L + k)) → Same H H' → QD D H') :
    LcBody (Itr (a0 : Int) ((b : Int) - (a0 : Int)).toNat) (gName 8) tYes (tTup (tCons (tV 8) (tCons (tOp fAdd (tV 8) (tV 4)) tNil))) ([("place", 8)].map (·.2)) [some (.int n), some (.ref a), z2, z3, some (.int mv), z5, z6, z7, z8] H QD := by
  refine lcRw (f := fP) (as := (List.range (b - a0)).map fun k => (a0 + k, L + k)) wk_rng ?_ ?_ (fun _ _ => trivial) ?_ k
  · rw [rgV_len, List.length_map, List.length_range]
    omega
  · rw [List.length_map, List.length_range]
    omega
  · intro i y r H' Q' hy hr s q
    obtain ⟨h1, rfl⟩ := rgV_get hy
    rw [List.getElem?_map, List.getElem?_range (by omega)] at hr
    cases Option.some.inj hr
    refine ⟨rfl, by show 2 ≤ sizeLine; rw [sizeLine_eq]; omega, fun l hn => ?_⟩
    have e : [V.int ((a0 : Int) + (i : Int)), V.int ((a0 : Int) + (i : Int) + mv)] = fP (a0 + i, L + i) := by
      show _ = [V.int ((a0 + i : Nat) : Int), V.int ((L + i : Nat) : Int)]
      rw [show (a0 : Int) + (i : Int) + mv = ((L + i : Nat) : Int) by omega]
      rfl
    have := q l hn
    rw [← e] at this
    exact this
theorem r_kept (h : sp_kept K vs H Q E) : t_kept_places K E (Dn Q) (start N_kept_places vs) H := by
  unfold sp_kept at h
  split at h
  · rename_i n a
    obtain ⟨t, cs, rfl, hl, ⟨xs, hs, hr⟩, wf, k⟩ := h
    have hmk := mark_len wf (Nat.le_refl 0) (Nat.zero_le _)
    refine ⟨by show 0 ≤ sizeLine; omega, fun D hD => ?_⟩
    have s0 : Same H (upd H D (.lst [])) := same_new (Same.refl _) hD
    have kpl : ∀ rows : List Row, (kp 0 rows).length ≤ rows.length := kp_len 0
    refine forS (K := K) hs (fun i σ' H' => ∃ (z5 z6 z7 : Option V) (mv : Int) (ys : List V), σ' = [some (.int (t.length : Int)), some (.ref a), some (.ref D), some (.int ((((cs.take i).foldl (mstep t) ([], 0)).2 : Nat) : Int)), some (.int mv), z5, z6, z7, none] ∧ H' D = some (.lst ys) ∧ mv = ((((cs.take i).foldl (mstep t) ([], 0)).1.length : Nat) : Int) - ((((cs.take i).foldl (mstep t) ([], 0)).2 : Nat) : Int) ∧ Rw fP H' ys (kp 0 ((cs.take i).foldl (mstep t) ([], 0)).1) ∧ Same H H')
      ⟨none, none, none, 0, [], rfl, upd_same, rfl, Rw.nil, s0⟩ (fun i σ' H' _ ⟨_, _, _, _, _, _, _, _, _, s⟩ => s) ?_ ?_
    · rintro i v σ' H' hv ⟨z5, z6, z7, mv, ys, rfl, h1, h2, h3, s1⟩
      obtain ⟨c, l, hc, rfl, hl2⟩ := (hr.kt (Kt.same s1)).get hv
      obtain ⟨w1, w2, w3, w4⟩ := wf_mem wf (List.mem_of_getElem? hc)
      have hfb : ((cs.take i).foldl (mstep t) ([], 0)).2 ≤ t.length := fold_bd wf
      have ho := mstep_old (t := t) wf hc
      have hp := tot_mem (List.mem_of_getElem? hc)
      have hle2 := fold_le (t := t) (cs := cs) (i := i + 1)
      rw [foldl_take hc] at hle2
      have hle3 : (((cs.take i).foldl (mstep t) ([], 0)).1 ++ seg t ((cs.take i).foldl (mstep t) ([], 0)).2 c.s ++ ins c.put).length ≤ (mark t 0 cs).length := hle2
      rw [List.length_append, List.length_append, seg_len, ins_len] at hle3
      have hk := kpl ((cs.take i).foldl (mstep t) ([], 0)).1
      refine ⟨l, _, rfl, SqT.of hl2, rfl, _, _, rfl, _, _, rfl, _, _, rfl, rfl, ?_⟩
      refine ⟨.inl ⟨rfl, _, SqL.of h1⟩, _, _, rfl, ⟨by omega, by omega, by omega, by omega⟩, kepC (L := ((cs.take i).foldl (mstep t) ([], 0)).1.length) (by omega) h2 fun D1 ys1 G1 n1 e1 R1 S1 => ?_⟩
      have eD : G1 D = some (.lst ys) := S1 _ _ h1
      refine ⟨D, D1, _, _, rfl, rfl, eD, e1, by rw [h3.len, R1.len, List.length_map, List.length_range, sizeLine_eq]; omega, ?_⟩
      refine ⟨by rw [S_len, sizeLine_eq]; omega, ?_⟩
      refine ⟨some (.int (c.s : Int)), some (.int (c.e : Int)), some (.str (S c.put)), mv + (((S c.put).length : Int) - ((c.e : Int) - (c.s : Int))), _, ?_, upd_same, ?_, ?_, same_loc (s1.trans S1) hD⟩
      · rw [foldl_take hc]
        rfl
      · rw [foldl_take hc]
        show mv + (((S c.put).length : Int) - ((c.e : Int) - (c.s : Int))) = (((((cs.take i).foldl (mstep t) ([], 0)).1 ++ seg t ((cs.take i).foldl (mstep t) ([], 0)).2 c.s ++ ins c.put).length : Nat) : Int) - (c.e : Int)
        rw [List.length_append, List.length_append, seg_len, ins_len, S_len]
        omega
      · rw [foldl_take hc]
        show Rw fP _ _ (kp 0 (((cs.take i).foldl (mstep t) ([], 0)).1 ++ seg t ((cs.take i).foldl (mstep t) ([], 0)).2 c.s ++ ins c.put))
        rw [kp_app, kp_app, kp_ins, List.append_nil, kp_seg, Nat.zero_add]
        exact (h3.kt ((Kt.same S1).trans (Kt.lst eD))).app (R1.kt (Kt.lst eD))
    · rintro σ' H' ⟨z5, z6, z7, mv, ys, rfl, h1, h2, h3, s1⟩
      rw [hr.len, List.take_length] at h2 h3 ⊢
      have hfb : (cs.foldl (mstep t) ([], 0)).2 ≤ t.length := by
        have := fold_bd (t := t) (i := cs.length) wf
        rw [List.take_length] at this
        exact this
      have hmf := mark_fold t cs [] 0
      rw [List.nil_append] at hmf
      have hml := congrArg List.length hmf
      rw [List.length_append, seg_len] at hml
      have hk := kpl (cs.foldl (mstep t) ([], 0)).1
      refine ⟨.inl ⟨rfl, _, SqL.of h1⟩, _, _, rfl, ⟨by omega, by omega, by omega, by omega⟩, kepC (L := (cs.foldl (mstep t) ([], 0)).1.length) (by omega) h2 fun D1 ys1 G1 n1 e1 R1 S1 => ?_⟩
      have eD : G1 D = some (.lst ys) := S1 _ _ h1
      refine ⟨D, D1, _, _, rfl, rfl, eD, e1, by rw [h3.len, R1.len, List.length_map, List.length_range, sizeLine_eq]; omega, ?_⟩
      refine k D _ _ hD upd_same ?_ (same_loc (s1.trans S1) hD)
      rw [← hmf, kp_app, kp_seg, Nat.zero_add]
      exact (h3.kt ((Kt.same S1).trans (Kt.lst eD))).app (R1.kt (Kt.lst eD))
  · exact h.elim
theorem cutS_slc {l : List Nat} {a b : Nat} (h : b ≤ l.length) : cutS (S l) (some (a : Int)) (some (b : Int)) = S (slc l a b) := by
  unfold cutS slc
  rw [HT.sIx_nat, HT.sIx_nat, S_len, Nat.min_eq_left h]
  by_cases z : a ≤ l.length
  · rw [Nat.min_eq_left z]
  · rw [Nat.min_eq_right (by omega), show b - l.length = 0 by omega, show b - a = 0 by omega, List.take_zero, List.take_zero]
theorem slc_ne {l : List Nat} {a b : Nat} (h : b ≤ l.length) : slc l a b ≠ [] ↔ a < b := by
  rw [← List.length_pos_iff, slc_len h]
  omega
def astep (n : Nat) (fin : List Nat) (B : List (Nat × Nat)) (x : JS) (y : Nat × Nat) : JS := match (if y.1 = n then some fin.length else look B y.2) with
  | none => x
  | some j => jstep fin x (y.1, j)
theorem astep_len {n : Nat} {fin : List Nat} {B : List (Nat × Nat)} {x : JS} {y : Nat × Nat} : (astep n fin B x y).acc.length ≤ x.acc.length + 1 := by
  unfold astep
  split
  · exact Nat.le_succ _
  · show (x.acc ++ pce _ _ _).length ≤ _
    rw [List.length_append]
    unfold pce
    split <;> simp
theorem afold_len {n : Nat} {fin : List Nat} {B : List (Nat × Nat)} : ∀ (A : List (Nat × Nat)) (x : JS), (A.foldl (astep n fin B) x).acc.length ≤ x.acc.length + A.length
  | [], x => Nat.le_refl _
  | y :: A, x => by
    have := afold_len (n := n) (fin := fin) (B := B) A (astep n fin B x y)
    have h2 := astep_len (n := n) (fin := fin) (B := B) (x := x) (y := y)
    rw [List.foldl_cons, List.length_cons]
    omega
theorem afold {n m : Nat} {fin : List Nat} {B : List (Nat × Nat)} : ∀ {A : List (Nat × Nat)} {x : JS}, (∀ y ∈ A, y.1 < n) → (A ++ [(n, m)]).foldl (astep n fin B) x = (joinA A B ++ [(n, fin.length)]).foldl (jstep fin) x
  | [], x, _ => by
    show astep n fin B x (n, m) = jstep fin x (n, fin.length)
    unfold astep
    rw [if_pos rfl]
  | y :: A, x, h => by
    have h1 := h y List.mem_cons_self
    rw [List.cons_append, List.foldl_cons, afold fun z hz => h z (List.mem_cons_of_mem _ hz)]
    unfold joinA astep
    rw [if_neg (by omega), List.filterMap_cons]
    cases look B y.2 with
    | none => rfl
    | some j => rfl
theorem jbody {D : Ends} {a b fd dd : Addr} {z11 : Option V} {t md fin : List Nat} {x : JS} {bp j : Nat} {ys : List V} (hj : j ≤ fin.length) (hf : fin.length ≤ 1000000) (h1 : H fd = some (.lst ys)) (h3 : Rw fC H ys x.acc) (hn : x.acc.length ≤ 1000000)
    (k : ∀ ys' H', H' fd = some (.lst ys') → Rw fC H' ys' (jstep fin x (bp, j)).acc → (∀ c o, H c = some o → c ≠ fd → H' c = some o) → Kt H H' →
      D.nx [some (.str (S t)), some (.ref a), some (.ref b), some (.str (S md)), some (.str (S fin)), some (.ref fd), some (.int ((bp + 1 : Nat) : Int)), some (.int ((j + 1 : Nat) : Int)), some (.int (bp : Int)), some (.int (j : Int)), some (.ref dd), z11] H') :
    t_jbody K D [some (.str (S t)), some (.ref a), some (.ref b), some (.str (S md)), some (.str (S fin)), some (.ref fd), some (.int (x.old : Int)), some (.int (x.new : Int)), some (.int (bp : Int)), some (.int (j : Int)), some (.ref dd), z11] H := by
  refine ⟨fun _ => ?_, fun e => (nomatch e)⟩
  refine orD (fun e => ?_) (fun e => ?_)
  · refine ⟨.inl ⟨rfl, _, SqL.of h1⟩, _, rfl, _, rfl, _, rfl, by rw [S_len, sizeLine_eq]; omega, by show 3 ≤ sizeLine; rw [sizeLine_eq]; omega, fun l hl => ?_⟩
    have e1 := keep_new (o' := .tup [.int (x.old : Int), .int (bp : Int), .str (cutS (S fin) (some (x.new : Int)) (some (j : Int)))]) hl h1
    refine ⟨fd, _, _, rfl, rfl, e1, by rw [h3.len, sizeLine_eq]; omega, ?_⟩
    refine k _ _ upd_same ?_ (fun c o ho hc => keep_ne hc (keep_new hl ho)) ((Kt.new hl).trans (Kt.lst e1))
    have ep : pce x.old bp (slc fin x.new j) = [⟨x.old, bp, slc fin x.new j⟩] := by
      unfold pce
      rw [if_pos]
      rcases e with e | e
      · exact .inl (by omega)
      · exact .inr ((slc_ne hj).mpr (by omega))
    show Rw fC _ _ (x.acc ++ pce x.old bp (slc fin x.new j))
    rw [ep]
    refine (h3.kt ((Kt.new hl).trans (Kt.lst e1))).app (Rw.one ((Kt.lst e1) _ _ (upd_same.trans (congrArg (fun z => some (HO.tup z)) ?_))))
    show [V.int (x.old : Int), V.int (bp : Int), V.str (cutS (S fin) (some (x.new : Int)) (some (j : Int)))] = [V.int (x.old : Int), V.int (bp : Int), V.str (S (slc fin x.new j))]
    rw [cutS_slc hj]
  · refine k ys H h1 ?_ (fun c o ho _ => ho) (Kt.refl _)
    have ep : pce x.old bp (slc fin x.new j) = [] := by
      unfold pce
      rw [if_neg]
      intro z
      rcases z with z | z
      · exact e (.inl (by omega))
      · exact e (.inr (by have := (slc_ne hj).mp z; omega))
    show Rw fC H ys (x.acc ++ pce x.old bp (slc fin x.new j))
    rw [ep, List.append_nil]
    exact h3
end
end Co.Tx
end

section
set_option maxHeartbeats 4000000
namespace Co.Tx
open PySem PySem.Spec PyProof.Rows L2 Co
section
variable {K : PySem.W.Frag} {vs : List V} {H : Hp} {Q : VK} {E : XK}
theorem look_snoc {A : List (Nat × Nat)} {lo b j k : Nat} (h : Up (·.1) lo (A ++ [(b, j)])) : look (A ++ [(b, j)]) k = if k = b then some j else look A k := by
  have lt : ∀ x ∈ A, x.1 < b := up_last h
  unfold look
  rw [List.find?_append]
  by_cases z : k = b
  · subst z
    rw [if_pos rfl, List.find?_eq_none.mpr fun x hx => by have := lt x hx; simp; omega]
    simp
  · rw [if_neg z]
    cases e : A.find? fun x => x.1 == k with
    | none =>
      have : ¬ (b == k) = true := by simp; omega
      simp [this]
    | some y => rfl
theorem look_mem {B : List (Nat × Nat)} {k j : Nat} (h : look B k = some j) : (k, j) ∈ B := by
  unfold look at h
  obtain ⟨x, h1, h2⟩ := Option.map_eq_some_iff.mp h
  have h3 := List.find?_some h1
  have h4 := List.mem_of_find?_eq_some h1
  have : x.1 = k := by simpa using h3
  rw [← this, ← h2]
  exact h4
def stJ (t : List Nat) (cs ds : List Pc) (i : Nat) : JS := ((kp 0 (mark t 0 cs) ++ [(t.length, (after t cs).length)]).take i).foldl (astep t.length (finJ t cs ds) (kp 0 (mark (after t cs) 0 ds))) ⟨[], 0, 0⟩
def PvJ (K : PySem.W.Frag) (t : List Nat) (cs ds : List Pc) (a b D dd : Addr) (G : Hp) (i : Nat) (σ' : St) (H' : Hp) : Prop := ∃ (z8 z9 z11 : Option V) (ys' : List V), σ' = [some (.str (S t)), some (.ref a), some (.ref b), some (.str (S (after t cs))), some (.str (S (finJ t cs ds))), some (.ref D), some (.int (((stJ t cs ds i).old : Nat) : Int)), some (.int (((stJ t cs ds i).new : Nat) : Int)), z8, z9, some (.ref dd), z11] ∧
          H' D = some (.lst ys') ∧ Rw fC H' ys' (stJ t cs ds i).acc ∧ (∀ c o, G c = some o → c ≠ D → H' c = some o) ∧ Kt G H'
theorem stJ_succ {t : List Nat} {cs ds : List Pc} {i : Nat} {x : Nat × Nat} (h : (kp 0 (mark t 0 cs) ++ [(t.length, (after t cs).length)])[i]? = some x) : stJ t cs ds (i + 1) = astep t.length (finJ t cs ds) (kp 0 (mark (after t cs) 0 ds)) (stJ t cs ds i) x := foldl_take h
theorem r_join (h : sp_join K vs H Q E) : t_join_changes K E (Dn Q) (start N_join_changes vs) H := by
  unfold sp_join at h
  split at h
  · rename_i z a b
    obtain ⟨t, cs, ds, rfl, hl, C1, C2, w1, w2, k⟩ := h
    have hmk := mark_len w1 (Nat.le_refl 0) (Nat.zero_le _)
    have hmid : (after t cs).length = (mark t 0 cs).length := List.length_map _
    have hmk2 := mark_len w2 (Nat.le_refl 0) (Nat.zero_le _)
    have hfin : (finJ t cs ds).length = (mark (after t cs) 0 ds).length := List.length_map _
    have hL : (S t).length ≤ sizeLine := by rw [S_len, sizeLine_eq]; omega
    have hLm : (S (after t cs)).length ≤ sizeLine := by rw [S_len, sizeLine_eq]; omega
    have hLf : (S (finJ t cs ds)).length ≤ sizeLine := by rw [S_len, sizeLine_eq]; omega
    obtain ⟨u1, u2, um, uj⟩ := kpJ w1 w2
    obtain ⟨a1, a2⟩ := kp_up1 (i := 0) w1 (Nat.le_refl 0)
    obtain ⟨b1, b2⟩ := kp_up1 (i := 0) w2 (Nat.le_refl 0)
    have kl1 := kp_len 0 (mark t 0 cs)
    have kl2 := kp_len 0 (mark (after t cs) 0 ds)
    refine ⟨t, cs, rfl, by omega, C1, w1, fun H1 s1 => ?_⟩
    refine ⟨after t cs, ds, rfl, by omega, C2.same s1, w2, fun H2 s2 => ?_⟩
    refine ⟨by show 0 ≤ sizeLine; omega, fun D hD => ?_⟩
    have s3 : Same H2 (upd H2 D (.lst [])) := same_new (Same.refl _) hD
    refine ⟨hLm, after t cs, ds, rfl, by omega, (C2.same (s1.trans s2)).same s3, w2, fun r ys H4 hr e4 R4 s4 => ⟨r, rfl, ⟨_, SqL.of e4⟩, ?_⟩⟩
    refine dcW (wk_list (xs := ys)) fun dd hdd => ?_
    refine ⟨fun i H' => ∃ kvs : List (Key × V), H' dd = some (.dK kvs) ∧ kvs.length ≤ i ∧ (∀ x : Nat, valV kvs (.inl (x : Int)) = (look ((kp 0 (mark (after t cs) 0 ds)).take i) x).map fun j => V.int (j : Int)) ∧ Same H4 H',
      ⟨[], upd_same, Nat.le_refl _, fun x => rfl, same_new (Same.refl _) hdd⟩, fun i H' _ ⟨_, _, _, _, s⟩ => s.seq (SqL.of e4), ?_, ?_⟩
    · rintro i v H' hv ⟨kvs, g1, g2, g3, g4⟩
      obtain ⟨x, l, hx, rfl, hl2⟩ := (R4.kt (Kt.same g4)).get hv
      have hi : i < (kp 0 (mark (after t cs) 0 ds)).length := (List.getElem?_eq_some_iff.mp hx).1
      refine ⟨l, _, rfl, SqT.of hl2, rfl, _, _, rfl, _, _, rfl, rfl, rfl, ⟨fun _ => ?_, fun e => (nomatch e)⟩⟩
      refine ⟨kvs, .inl (x.1 : Int), rfl, g1, by rw [sizeLine_eq]; omega, putK kvs (.inl (x.1 : Int)) (.int (x.2 : Int)), upd_same, ?_, fun y => ?_, same_loc g4 hdd⟩
      · have := length_putK kvs (.inl (x.1 : Int)) (V.int (x.2 : Int))
        omega
      · have ht : (kp 0 (mark (after t cs) 0 ds)).take (i + 1) = (kp 0 (mark (after t cs) 0 ds)).take i ++ [(x.1, x.2)] := by rw [List.take_add_one, hx]; rfl
        rw [ht, look_snoc (lo := 0) (by rw [← ht]; exact up_take b1), valV_put, g3 y]
        by_cases z : y = x.1
        · rw [if_pos z, if_pos (by rw [z])]
          rfl
        · rw [if_neg z, if_neg (fun q => by injection q with q; exact z (by omega))]
    · rintro H5 ⟨kvs, g1, g2, g3, g4⟩
      rw [R4.len, List.take_length] at g3
      have s05 := (s1.trans s2).trans (s3.trans (s4.trans g4))
      refine ⟨hL, t, cs, rfl, by omega, C1.same s05, w1, fun r2 ys2 H6 hr2 e6 R6 s6 => ?_⟩
      refine ⟨hL, hLm, by show 2 ≤ sizeLine; rw [sizeLine_eq]; omega, fun l7 hl7 => ⟨by show 1 ≤ sizeLine; rw [sizeLine_eq]; omega, fun l8 hl8 => ?_⟩⟩
      have e7 := keep_new (o' := .tup [.int ((S t).length : Int), .int ((S (after t cs)).length : Int)]) hl7 e6
      have e8 := keep_new (o' := .lst [.ref l7]) hl8 e7
      refine ⟨r2, l8, _, _, rfl, rfl, e8, upd_same, by rw [R6.len, sizeLine_eq]; show _ + 1 ≤ _; omega, fun r9 hr9 => ⟨r9, rfl, ⟨_, SqL.of upd_same⟩, ?_⟩⟩
      have k9 : Kt H6 (upd (upd (upd H6 l7 (.tup [.int ((S t).length : Int), .int ((S (after t cs)).length : Int)])) l8 (.lst [.ref l7])) r9 (.lst (ys2 ++ [.ref l7]))) := ((Kt.new hl7).trans (Kt.new hl8)).trans (Kt.new hr9)
      have s9 : Same H6 (upd (upd (upd H6 l7 (.tup [.int ((S t).length : Int), .int ((S (after t cs)).length : Int)])) l8 (.lst [.ref l7])) r9 (.lst (ys2 ++ [.ref l7]))) := same_new (same_new (same_new (Same.refl _) hl7) hl8) hr9
      have R9 : Rw fP (upd (upd (upd H6 l7 (.tup [.int ((S t).length : Int), .int ((S (after t cs)).length : Int)])) l8 (.lst [.ref l7])) r9 (.lst (ys2 ++ [.ref l7]))) (ys2 ++ [.ref l7]) (kp 0 (mark t 0 cs) ++ [(t.length, (after t cs).length)]) :=
        (R6.kt k9).app (Rw.one (((Kt.new hl8).trans (Kt.new hr9)) _ _ (by rw [upd_same, S_len, S_len])))
      generalize hG : (upd (upd (upd H6 l7 (.tup [.int ((S t).length : Int), .int ((S (after t cs)).length : Int)])) l8 (.lst [.ref l7])) r9 (.lst (ys2 ++ [.ref l7]))) = G at *
      have eG : G r9 = some (.lst (ys2 ++ [.ref l7])) := by rw [← hG]; exact upd_same
      have dG : G dd = some (.dK kvs) := s9 _ _ (s6 _ _ g1)
      have DG : G D = some (.lst []) := s9 _ _ (s6 _ _ (g4 _ _ (s4 _ _ upd_same)))
      have s0G : Same H2 G := (s3.trans (s4.trans g4)).trans (s6.trans s9)
      have nrD : r9 ≠ D := by
        intro z
        subst z
        rw [eG] at DG
        have := congrArg (fun o => match o with | some (HO.lst l) => l.length | _ => 0) DG
        simp at this
      refine forW (wk_list (xs := ys2 ++ [.ref l7])) (PvJ K t cs ds a b D dd G)
        ⟨none, none, none, [], rfl, DG, Rw.nil, fun c o h _ => h, Kt.refl _⟩ (fun i σ' H' _ ⟨_, _, _, _, _, _, _, f, _⟩ => SqL.of (f _ _ eG nrD)) ?_ ?_
      · rintro i v σ' H' hv ⟨z8, z9, z11, ys', rfl, q1, q2, q3, q4⟩
        obtain ⟨x, l, hx, rfl, hl2⟩ := (R9.kt q4).get hv
        have hi : i < (kp 0 (mark t 0 cs) ++ [(t.length, (after t cs).length)]).length := (List.getElem?_eq_some_iff.mp hx).1
        rw [List.length_append, List.length_singleton] at hi
        have hacc := afold_len (n := t.length) (fin := finJ t cs ds) (B := kp 0 (mark (after t cs) 0 ds)) ((kp 0 (mark t 0 cs) ++ [(t.length, (after t cs).length)]).take i) ⟨[], 0, 0⟩
        rw [List.length_take] at hacc
        have hacc0 : (stJ t cs ds i).acc.length ≤ 1000000 := by
          have : ([] : List Pc).length = 0 := rfl
          have : (⟨[], 0, 0⟩ : JS).acc.length = 0 := rfl
          unfold stJ
          omega
        refine ⟨l, _, rfl, SqT.of hl2, rfl, _, _, rfl, _, _, rfl, rfl, hL, ?_⟩
        have cont : ∀ j : Nat, (if x.1 = t.length then some (finJ t cs ds).length else look (kp 0 (mark (after t cs) 0 ds)) x.2) = some j → ∀ ys2 H2', H2' D = some (.lst ys2) → Rw fC H2' ys2 (jstep (finJ t cs ds) (stJ t cs ds i) (x.1, j)).acc → (∀ c o, H' c = some o → c ≠ D → H2' c = some o) → Kt H' H2' →
            PvJ K t cs ds a b D dd G (i + 1) [some (.str (S t)), some (.ref a), some (.ref b), some (.str (S (after t cs))), some (.str (S (finJ t cs ds))), some (.ref D), some (.int ((x.1 + 1 : Nat) : Int)), some (.int ((j + 1 : Nat) : Int)), some (.int (x.1 : Int)), some (.int (j : Int)), some (.ref dd), some (.int (x.2 : Int))] H2' := fun j he ys2 H2' f1 f2 f3 f4 => by
          have ea : stJ t cs ds (i + 1) = jstep (finJ t cs ds) (stJ t cs ds i) (x.1, j) := by
            rw [stJ_succ hx]
            unfold astep
            rw [he]
          refine ⟨some (.int (x.1 : Int)), some (.int (j : Int)), some (.int (x.2 : Int)), ys2, ?_, f1, ?_, fun c o ho hc => f3 c o (q3 c o ho hc) hc, q4.trans f4⟩
          · rw [ea]
            rfl
          · rw [ea]
            exact f2
        refine oneD (fun e => ?_) (fun e => ?_)
        · have e : x.1 = t.length := by rw [S_len] at e; omega
          exact ⟨hLf, jbody (K := K) (x := stJ t cs ds i) (S_len _ ▸ Nat.le_refl _) (by omega) q1 q2 hacc0 (cont _ (by rw [if_pos e]; exact congrArg some (S_len _).symm))⟩
        · have e : ¬ x.1 = t.length := fun z => e (by rw [S_len, z])
          have hdd : H' dd = some (.dK kvs) := q3 _ _ dG fun z => by subst z; rw [dG] at DG; cases DG
          refine ⟨dd, rfl, .inl ⟨_, .inl hdd⟩, _, DGet.k (k := .inl (x.2 : Int)) hdd, ?_⟩
          rw [g3 x.2]
          cases hlk : look (kp 0 (mark (after t cs) 0 ds)) x.2 with
          | some j =>
            have hm := kp_mem (look_mem hlk)
            obtain ⟨_, rr, hm2, _⟩ := hm
            have hm3 := (List.getElem?_eq_some_iff.mp hm2).1
            exact jbody (K := K) (x := stJ t cs ds i) (by have : j - 0 < _ := hm3; omega) (by omega) q1 q2 hacc0 (cont j (by rw [if_neg e]; exact hlk))
          | none =>
            have ea : stJ t cs ds (i + 1) = stJ t cs ds i := by
              rw [stJ_succ hx]
              unfold astep
              rw [if_neg e, hlk]
            refine ⟨fun e => (nomatch e), fun _ => ?_⟩
            refine ⟨some (.int (x.1 : Int)), some .non, some (.int (x.2 : Int)), ys', ?_, q1, ?_, q3, q4⟩
            · rw [ea]
              rfl
            · rw [ea]
              exact q2
      · rintro σ' H' ⟨z8, z9, z11, ys', rfl, q1, q2, q3, q4⟩
        unfold stJ at q2
        rw [R9.len, List.take_length, afold (fun y hy => a2 y hy), uj, jl_fold] at q2
        refine ⟨D, _, rfl, .inl ⟨SqL.of q1, fun l hl' => ?_⟩⟩
        have sH : Same H H' := fun c o ho => q3 c o (s0G _ _ ((s1.trans s2) _ _ ho)) fun z => by
          subst z
          rw [(s1.trans s2) _ _ ho] at hD
          cases hD
        exact k l ys' _ (none_of sH hl') upd_same (q2.kt (Kt.new hl')) (same_new sH hl')
  · exact h.elim
end
end Co.Tx
end

section
set_option maxHeartbeats 4000000
namespace Co.Tx
open PySem PySem.Spec PyProof.Rows L2 Co
section
variable {K : PySem.W.Frag} {vs : List V} {H : Hp} {Q : VK} {E : XK}
structure DS where
  acc : List Pc
  old : Nat
  put : List Nat
def dstep (x : DS) (r : Row) : DS := match r.2 with
  | none => ⟨x.acc, x.old, x.put ++ [r.1]⟩
  | some b => ⟨x.acc ++ pce x.old b x.put, b + 1, []⟩
theorem dl_fold (n : Nat) : ∀ (rows : List Row) (x : DS), (rows.foldl dstep x).acc ++ pce (rows.foldl dstep x).old n (rows.foldl dstep x).put = x.acc ++ dl n x.old x.put rows
  | [], x => rfl
  | (c, none) :: r, x => dl_fold n r ⟨x.acc, x.old, x.put ++ [c]⟩
  | (c, some b) :: r, x => by
    rw [List.foldl_cons]
    refine (dl_fold n r ⟨x.acc ++ pce x.old b x.put, b + 1, []⟩).trans ?_
    rw [List.append_assoc]
    rfl
theorem dstep_len (x : DS) (r : Row) : (dstep x r).acc.length ≤ x.acc.length + 1 ∧ (dstep x r).put.length ≤ x.put.length + 1 := by
  unfold dstep
  split
  · exact ⟨Nat.le_succ _, by simp⟩
  · refine ⟨?_, by simp⟩
    rw [List.length_append]
    unfold pce
    split <;> simp
theorem dfold_len : ∀ (rows : List Row) (x : DS), (rows.foldl dstep x).acc.length ≤ x.acc.length + rows.length ∧ (rows.foldl dstep x).put.length ≤ x.put.length + rows.length
  | [], x => ⟨Nat.le_refl _, Nat.le_refl _⟩
  | r :: rows, x => by
    have h1 := dfold_len rows (dstep x r)
    have h2 := dstep_len x r
    rw [List.foldl_cons, List.length_cons]
    omega
theorem putP {D : Addr} {acc : List Pc} {ys : List V} {old b : Nat} {put : List Nat} {QD : Hp → Prop} {T E : Prop} (h1 : H D = some (.lst ys)) (h3 : Rw fC H ys acc) (hn : acc.length ≤ 1000000) (hp : put.length ≤ 1000000)
    (hT : (tyV K "list" (.ref D) H ∧ 3 ≤ sizeLine ∧ ∀ l, H l = none → rAppend (.ref D) [.ref l] (upd H l (.tup [.int (old : Int), .int (b : Int), .str (S put)])) fun _ => QD) → T) (hE : QD H → E)
    (k : ∀ ys' H', H' D = some (.lst ys') → Rw fC H' ys' (acc ++ pce old b put) → (∀ c o, H c = some o → c ≠ D → H' c = some o) → Kt H H' → QD H') :
    two (decide ((old : Int) < (b : Int))) (two true T E) (two (!decide (S put = (("" : Str)))) T E) := by
  refine orDN (fun e => hT ?_) (fun e => hE ?_)
  · refine ⟨.inl ⟨rfl, _, SqL.of h1⟩, by show 3 ≤ sizeLine; rw [sizeLine_eq]; omega, fun l hl => ?_⟩
    have e1 := keep_new (o' := .tup [.int (old : Int), .int (b : Int), .str (S put)]) hl h1
    refine ⟨D, _, _, rfl, rfl, e1, by rw [h3.len, sizeLine_eq]; omega, ?_⟩
    refine k _ _ upd_same ?_ (fun c o ho hc => keep_ne hc (keep_new hl ho)) ((Kt.new hl).trans (Kt.lst e1))
    have ep : pce old b put = [⟨old, b, put⟩] := by
      unfold pce
      rw [if_pos]
      rcases e with e | e
      · exact .inl (by omega)
      · exact .inr fun z => e (by rw [z, e_eq])
    rw [ep]
    exact (h3.kt ((Kt.new hl).trans (Kt.lst e1))).app (Rw.one ((Kt.lst e1) _ _ upd_same))
  · refine k ys H h1 ?_ (fun c o ho _ => ho) (Kt.refl _)
    have ep : pce old b put = [] := by
      unfold pce
      rw [if_neg]
      intro z
      rcases z with z | z
      · exact e (.inl (by omega))
      · exact e (.inr fun w => z (by rw [e_eq] at w; exact S_inj w))
    rw [ep, List.append_nil]
    exact h3
theorem r_Ljoined (h : sp_join K vs H Q E) : t_Ljoined K E (Dn Q) (start N_Ljoined vs) H := by
  unfold sp_join at h
  split at h
  · rename_i z a b
    obtain ⟨t, cs, ds, rfl, hl, C1, C2, w1, w2, k⟩ := h
    have hmk := mark_len w1 (Nat.le_refl 0) (Nat.zero_le _)
    have hmid : (after t cs).length = (mark t 0 cs).length := List.length_map _
    have hmk2 := mark_len w2 (Nat.le_refl 0) (Nat.zero_le _)
    have hL : (S t).length ≤ sizeLine := by rw [S_len, sizeLine_eq]; omega
    refine ⟨t, cs, .inl rfl, C1, w1, by omega, fun M mys H1 hM eM RM s1 => ?_⟩
    refine ⟨by show 0 ≤ sizeLine; omega, fun D hD => ?_⟩
    have s2 : Same H1 (upd H1 D (.lst [])) := same_new (Same.refl _) hD
    refine ⟨M, rfl, ⟨_, SqL.of (s2 _ _ eM)⟩, lcVal (ws := chV (after t cs)) (wk_list (xs := mys)) (by rw [RM.len]; simp) (by simp; omega) (fun H3 s3 => s3.seq (SqL.of (s2 _ _ eM))) ?_ fun L H3 hL3 eL s3 => ?_⟩
    · intro i y z H3 Q' hy hz s3 q
      obtain ⟨row, l, g1, rfl, g2⟩ := RM.get hy
      rw [show chV (after t cs) = (mark t 0 cs).map fun r => V.str (S [r.1]) from List.map_map .., List.getElem?_map, g1] at hz
      cases Option.some.inj hz
      exact ⟨rfl, .inr (.inl ⟨l, _, _, _, rfl, rfl, SqT.of (s3 _ _ (s2 _ _ g2)), rfl, q⟩)⟩
    refine ⟨after t cs, ds, .inr ⟨L, rfl, SqL.of eL⟩, (C2.same s1).same (s2.trans s3), w2, by omega, fun M2 ys2 H4 hM2 eM2 RM2 s4 => ⟨M2, rfl, ⟨_, SqL.of eM2⟩, ?_⟩⟩
    have s14 : Same H1 H4 := (s2.trans s3).trans s4
    have D4 : H4 D = some (.lst []) := s4 _ _ (s3 _ _ upd_same)
    have nDM2 : M2 ≠ D := fun z => by subst z; rw [s3 _ _ upd_same] at hM2; cases hM2
    have nDM : M ≠ D := ne_of_none eM hD
    refine forW (wk_list (xs := ys2)) (fun i σ' H' => ∃ (z5 z6 : Option V) (ys : List V), σ' = [some (.str (S t)), some (.ref a), some (.ref b), some (.ref M), some (.ref D), z5, z6, none, none, none, none] ∧ H' D = some (.lst ys) ∧ Rw fR H' ys (comp (mark t 0 cs) ((mark (after t cs) 0 ds).take i)) ∧ (∀ c o, H4 c = some o → c ≠ D → H' c = some o) ∧ Kt H4 H')
      ⟨none, none, [], rfl, D4, Rw.nil, fun c o h _ => h, Kt.refl _⟩ (fun i σ' H' _ ⟨_, _, _, _, _, _, f, _⟩ => SqL.of (f _ _ eM2 nDM2)) ?_ ?_
    · rintro i v σ' H' hv ⟨z5, z6, ys, rfl, q1, q2, q3, q4⟩
      obtain ⟨row, l, hx, rfl, hl2⟩ := (RM2.kt q4).get hv
      have hi : i < (mark (after t cs) 0 ds).length := (List.getElem?_eq_some_iff.mp hx).1
      refine ⟨l, _, rfl, SqT.of hl2, rfl, _, _, rfl, _, _, rfl, rfl, .inl ⟨rfl, _, SqL.of q1⟩, ?_⟩
      have eM' : H' M = some (.lst mys) := q3 _ _ (s14 _ _ eM) nDM
      have fin : ∀ o : Option Nat, o = (row.2.bind fun k => ((mark t 0 cs)[k]?).bind (·.2)) → ∀ l, H' l = none → rAppend (.ref D) [.ref l] (upd H' l (.tup [.str (S [row.1]), oN o])) fun _ H2 => ∃ (z5 z6 : Option V) (ys : List V), [some (V.str (S t)), some (.ref a), some (.ref b), some (.ref M), some (.ref D), some (.str (S [row.1])), some (oN row.2), none, none, none, none] = [some (.str (S t)), some (.ref a), some (.ref b), some (.ref M), some (.ref D), z5, z6, none, none, none, none] ∧ H2 D = some (.lst ys) ∧ Rw fR H2 ys (comp (mark t 0 cs) ((mark (after t cs) 0 ds).take (i + 1))) ∧ (∀ c o, H4 c = some o → c ≠ D → H2 c = some o) ∧ Kt H4 H2 := fun o ho l hl => by
        have e1 := keep_new (o' := .tup [.str (S [row.1]), oN o]) hl q1
        have hlen : (comp (mark t 0 cs) ((mark (after t cs) 0 ds).take i)).length ≤ 100000 := by
          unfold comp
          rw [List.length_map, List.length_take]
          omega
        refine ⟨D, _, _, rfl, rfl, e1, by rw [q2.len, sizeLine_eq]; omega, some (.str (S [row.1])), some (oN row.2), _, rfl, upd_same, ?_, fun c o ho hc => keep_ne hc (keep_new hl (q3 c o ho hc)), (q4.trans (Kt.new hl)).trans (Kt.lst e1)⟩
        rw [List.take_add_one, hx]
        unfold comp
        rw [List.map_append]
        refine (q2.kt ((Kt.new hl).trans (Kt.lst e1))).app (Rw.one ((Kt.lst e1) _ _ (upd_same.trans (congrArg (fun z => some (HO.tup z)) ?_))))
        show _ = [V.str (S [row.1]), oN (row.2.bind fun k => ((mark t 0 cs)[k]?).bind (·.2))]
        rw [ho]
      cases hr2 : row.2 with
      | none =>
        rw [hr2] at fin
        refine ⟨fun _ => ⟨by show 2 ≤ sizeLine; rw [sizeLine_eq]; omega, fun l' hl' => ?_⟩, fun e => (nomatch e)⟩
        exact fin none rfl l' hl'
      | some kk =>
        have hk := (mark_ge w2 (Nat.le_refl 0) hx hr2).2
        rw [hmid] at hk
        have hrow : (mark t 0 cs)[kk]? = some (mark t 0 cs)[kk] := by simp [hk]
        obtain ⟨l3, l4, l5⟩ := RM.at_ kk _ hrow
        rw [hr2] at fin
        refine ⟨fun e => (nomatch e), fun _ => ?_⟩
        refine ⟨M, _, _, .ref l3, rfl, rfl, SqL.of eM', atI_nat l4, .inr (.inl ⟨l3, _, _, oN ((mark t 0 cs)[kk]).2, rfl, rfl, SqT.of (q4 _ _ ((Kt.same s14) _ _ l5)), rfl, by show 2 ≤ sizeLine; rw [sizeLine_eq]; omega, fun l' hl' => ?_⟩)⟩
        exact fin ((mark t 0 cs)[kk]).2 (by rw [Option.bind_some, hrow]; rfl) l' hl'
    · rintro σ' H5 ⟨z5, z6, ys, rfl, q1, q2, q3, q4⟩
      rw [RM2.len, List.take_length] at q2
      have q2 : Rw fR H5 ys (rowsJ t cs ds) := q2
      have hrl : (rowsJ t cs ds).length ≤ 100000 := by
        unfold rowsJ comp
        rw [List.length_map]
        omega
      refine ⟨by show 0 ≤ sizeLine; omega, fun P hP => ?_⟩
      have s5 : Same H5 (upd H5 P (.lst [])) := same_new (Same.refl _) hP
      have sH5 : Same H H5 := fun c o ho => q3 c o (s14 _ _ (s1 _ _ ho)) fun z => by
        subst z
        rw [s1 _ _ ho] at hD
        cases hD
      have nPD : D ≠ P := ne_of_none q1 hP
      refine ⟨D, rfl, ⟨_, SqL.of (s5 _ _ q1)⟩, forW (wk_list (xs := ys)) (fun i σ' H' => ∃ (z5 z6 : Option V) (ps : List V), σ' = [some (.str (S t)), some (.ref a), some (.ref b), some (.ref M), some (.ref D), z5, z6, some (.ref P), some (.int ((((rowsJ t cs ds).take i).foldl dstep ⟨[], 0, []⟩).old : Nat)), some (.str (S (((rowsJ t cs ds).take i).foldl dstep ⟨[], 0, []⟩).put)), none] ∧ H' P = some (.lst ps) ∧ Rw fC H' ps (((rowsJ t cs ds).take i).foldl dstep ⟨[], 0, []⟩).acc ∧ (∀ c o, H5 c = some o → c ≠ P → H' c = some o) ∧ Kt H5 H')
        ⟨z5, z6, [], rfl, upd_same, Rw.nil, fun c o h hc => keep_ne hc h, Kt.same s5⟩ (fun i σ' H' _ ⟨_, _, _, _, _, _, f, _⟩ => SqL.of (f _ _ q1 nPD)) ?_ ?_⟩
      · rintro i v σ' H' hv ⟨z5, z6, ps, rfl, p1, p2, p3, p4⟩
        obtain ⟨row, l, hx, rfl, hl2⟩ := (q2.kt p4).get hv
        have hi : i < (rowsJ t cs ds).length := (List.getElem?_eq_some_iff.mp hx).1
        have hln := dfold_len ((rowsJ t cs ds).take i) ⟨[], 0, []⟩
        have e0 : (⟨[], 0, []⟩ : DS).acc.length = 0 := rfl
        have e00 : (⟨[], 0, []⟩ : DS).put.length = 0 := rfl
        rw [List.length_take] at hln
        refine ⟨l, _, rfl, SqT.of hl2, rfl, _, _, rfl, _, _, rfl, rfl, ?_⟩
        have hst : ((rowsJ t cs ds).take (i + 1)).foldl dstep ⟨[], 0, []⟩ = dstep (((rowsJ t cs ds).take i).foldl dstep ⟨[], 0, []⟩) row := foldl_take hx
        cases hr2 : row.2 with
        | none =>
          refine ⟨fun _ => ⟨by rw [S_len, S_len, sizeLine_eq]; show _ + 1 ≤ _; omega, ?_⟩, fun e => (nomatch e)⟩
          have ed : dstep (((rowsJ t cs ds).take i).foldl dstep ⟨[], 0, []⟩) row = ⟨(((rowsJ t cs ds).take i).foldl dstep ⟨[], 0, []⟩).acc, (((rowsJ t cs ds).take i).foldl dstep ⟨[], 0, []⟩).old, (((rowsJ t cs ds).take i).foldl dstep ⟨[], 0, []⟩).put ++ [row.1]⟩ := by
            unfold dstep
            rw [hr2]
          refine ⟨some (.str (S [row.1])), some .non, ps, ?_, p1, ?_, p3, p4⟩
          · rw [hst, ed, S_app]
            rfl
          · rw [hst, ed]
            exact p2
        | some bb =>
          have ed : dstep (((rowsJ t cs ds).take i).foldl dstep ⟨[], 0, []⟩) row = ⟨(((rowsJ t cs ds).take i).foldl dstep ⟨[], 0, []⟩).acc ++ pce (((rowsJ t cs ds).take i).foldl dstep ⟨[], 0, []⟩).old bb (((rowsJ t cs ds).take i).foldl dstep ⟨[], 0, []⟩).put, bb + 1, []⟩ := by
            unfold dstep
            rw [hr2]
          refine ⟨fun e => (nomatch e), fun _ => ?_⟩
          refine putP (K := K) (H := H') (D := P) (acc := (((rowsJ t cs ds).take i).foldl dstep ⟨[], 0, []⟩).acc) (ys := ps) (old := (((rowsJ t cs ds).take i).foldl dstep ⟨[], 0, []⟩).old) (b := bb) (put := (((rowsJ t cs ds).take i).foldl dstep ⟨[], 0, []⟩).put) (QD := _) p1 p2 (by omega) (by omega) (fun h => h) (fun h => h) fun ps' H2 r1 r2 r3 r4 => ?_
          refine ⟨some (.str (S [row.1])), some (.int (bb : Int)), ps', ?_, r1, ?_, fun c o ho hc => r3 c o (p3 c o ho hc) hc, p4.trans r4⟩
          · rw [hst, ed, ← e_eq]
            rfl
          · rw [hst, ed]
            exact r2
      · rintro σ' H6 ⟨z5, z6, ps, rfl, p1, p2, p3, p4⟩
        rw [q2.len, List.take_length] at p2 ⊢
        have hln := dfold_len (rowsJ t cs ds) ⟨[], 0, []⟩
        have e0 : (⟨[], 0, []⟩ : DS).acc.length = 0 := rfl
        have e00 : (⟨[], 0, []⟩ : DS).put.length = 0 := rfl
        have hdl := dl_fold t.length (rowsJ t cs ds) ⟨[], 0, []⟩
        rw [show (⟨[], 0, []⟩ : DS).acc ++ dl t.length (⟨[], 0, []⟩ : DS).old (⟨[], 0, []⟩ : DS).put (rowsJ t cs ds) = joinC t cs ds from (List.nil_append _).trans (due_join t cs ds)] at hdl
        have sH6 : Same H H6 := fun c o ho => p3 c o (sH5 _ _ ho) fun z => by
          subst z
          rw [sH5 _ _ ho] at hP
          cases hP
        have fin : ∀ ps' H2, H2 P = some (.lst ps') → Rw fC H2 ps' (((rowsJ t cs ds).foldl dstep ⟨[], 0, []⟩).acc ++ pce ((rowsJ t cs ds).foldl dstep ⟨[], 0, []⟩).old (S t).length ((rowsJ t cs ds).foldl dstep ⟨[], 0, []⟩).put) → (∀ c o, H6 c = some o → c ≠ P → H2 c = some o) → rTupOf K [.ref P] H2 Q := by
          intro ps' H2 r1 r2 r3
          rw [S_len, hdl] at r2
          have sH2 : Same H H2 := fun c o ho => r3 c o (sH6 _ _ ho) fun z => by
            subst z
            rw [sH5 _ _ ho] at hP
            cases hP
          exact ⟨P, _, rfl, .inl ⟨SqL.of r1, fun l hl' => k l ps' _ (none_of sH2 hl') upd_same (r2.kt (Kt.new hl')) (same_new sH2 hl')⟩⟩
        refine ⟨hL, ?_⟩
        exact putP (K := K) (H := H6) (D := P) (acc := ((rowsJ t cs ds).foldl dstep ⟨[], 0, []⟩).acc) (ys := ps) (old := ((rowsJ t cs ds).foldl dstep ⟨[], 0, []⟩).old) (b := (S t).length) (put := ((rowsJ t cs ds).foldl dstep ⟨[], 0, []⟩).put) (QD := fun H2 => rTupOf K [.ref P] H2 Q) p1 p2 (by omega) (by omega) (fun h => ⟨h.1, hL, h.2⟩) (fun h => h) fun ps' H2 r1 r2 r3 r4 => fin ps' H2 r1 r2 r3
  · exact h.elim
theorem wf_erase {n : Nat} : ∀ {cs : List Pc} {lo k : Nat}, WfC n lo cs → WfC n lo (cs.eraseIdx k)
  | [], _, _, _ => trivial
  | c :: cs, lo, 0, ⟨w1, w2, w3, w4, w⟩ => wf_mono w (by omega)
  | c :: cs, lo, k + 1, ⟨w1, w2, w3, w4, w⟩ => ⟨w1, w2, w3, w4, wf_erase w⟩
theorem tot_erase : ∀ (cs : List Pc) (k : Nat), tot (cs.eraseIdx k) ≤ tot cs
  | [], _ => Nat.le_refl _
  | c :: cs, 0 => Nat.le_add_left _ _
  | c :: cs, k + 1 => Nat.add_le_add_left (tot_erase cs k) _
theorem r_Lnear (h : sp_near K vs H Q E) : t_Lnear K E (Dn Q) (start N_Lnear vs) H := by
  unfold sp_near at h
  split at h
  · rename_i p z a
    obtain ⟨q, t, cs, rfl, hl, P, C, nap, wf, hcl, k⟩ := h
    have hul : (after t cs).length = (mark t 0 cs).length := List.length_map _
    have iw : WfC (after t cs).length 0 (invN t 0 0 cs) := by
      rw [hul]
      exact inv_wf (new := 0) wf (Nat.le_refl 0)
    have it := (inv_tot (old := 0) (new := 0) wf).2
    have ilen := invN_len (t := t) cs 0 0
    refine ⟨t, cs, rfl, by omega, C, wf, fun v ys H1 hv e1 R1 s1 => ?_⟩
    refine ⟨v, ys, rfl, .inr (SqT.of e1), fun b hb => ?_⟩
    have s2 : Same H (upd H1 b (.lst ys)) := same_new s1 hb
    have P2 := P.same s2
    have R2 : Rw fC (upd H1 b (.lst ys)) ys (invN t 0 0 cs) := R1.kt (Kt.new hb)
    obtain ⟨n1, n2⟩ := ne_pool hb (P.same s1)
    have done : ∀ ds xs G, G b = some (.lst xs) → Rw fC G xs ds → WfC (after t cs).length 0 ds → tot ds ≤ t.length → PoolAt G p q → Fr [p] H G → Q (.ref b) G := fun ds xs G g1 g2 g3 g4 g5 g6 => k b xs ds G (none_of s1 hb) g1 g2 g3 g4 g5 g6
    refine ⟨!ys.isEmpty, .inl ⟨ys, SqL.of upd_same, rfl⟩, fun ek => ?_, fun ek => ?_⟩
    · have hne : 0 < ys.length := by
        cases ys with
        | nil => cases ek
        | cons _ _ => exact Nat.succ_pos _
      refine ⟨by decide, q, P2.take, by decide, by decide, fun r G g1 g2 PG fG => ?_⟩
      have eb := fG.at1 upd_same n1
      have fHG : Fr [p] H G := (Fr.of s2).trans fG
      refine oneD (fun e => ?_) (fun e => ?_)
      · refine ⟨.inl ⟨rfl, _, SqL.of eb⟩, b, _, rfl, .inl (SqL.of eb), ?_⟩
        have hyl := R2.len
        refine ⟨by decide, q, PG.take, by omega, by omega, fun r2 G2 h1 h2 P2' f2 => ?_⟩
        have eb2 := f2.at1 eb n1
        obtain ⟨rn, rfl⟩ : ∃ n : Nat, r2 = (n : Int) := ⟨r2.toNat, by omega⟩
        have hrn : rn < ys.length := by omega
        have hsi := (ixN_seq (n := ys.length) (i := (rn : Int)) (j := rn) (by unfold ixN; rw [if_pos (by omega), if_pos (by omega)]; simp)).1
        refine ⟨b, ys, (rn : Int), rn, ys[rn], rfl, rfl, eb2, by omega, by omega, hsi, by simp [hrn], ?_⟩
        refine done ((invN t 0 0 cs).eraseIdx rn) _ _ upd_same ?_ (wf_erase iw) (Nat.le_trans (tot_erase _ _) (by omega)) (P2'.fr (S := [b]) ((Fr.refl _ _).wr (by simp)) (by simp [n1.symm]) (by simp [n2.symm])) ((fHG.trans f2).loc (none_of s1 hb))
        exact ((R2.kt ((pool_kt P2 fG).trans (pool_kt PG f2))).kt (Kt.lst eb2)).erase rn
      · exact done _ _ _ eb (R2.kt (pool_kt P2 fG)) iw (by omega) PG fHG
    · exact ⟨fun e => (nomatch e), fun _ => done _ _ _ upd_same R2 iw (by omega) P2 (Fr.of s2)⟩
  · exact h.elim
end
end Co.Tx
end

section
set_option maxHeartbeats 4000000
namespace Co.Tx
open PySem PySem.Spec PyProof.Rows L2 Co
theorem seg_app {t : List Nat} {a b c : Nat} (h : a ≤ b) (h2 : b ≤ c) : seg t a b ++ seg t b c = seg t a c := by
  refine List.ext_getElem? fun i => ?_
  rw [List.getElem?_append, seg_len]
  split
  · rename_i hi
    rw [seg_at hi, seg_at (by omega)]
  · rename_i hi
    by_cases z : i - (b - a) < c - b
    · rw [seg_at z, seg_at (by omega), show b + (i - (b - a)) = a + i by omega]
    · rw [List.getElem?_eq_none (by rw [seg_len]; omega), List.getElem?_eq_none (by rw [seg_len]; omega)]
theorem seg_one {t : List Nat} {b : Nat} : seg t b (b + 1) = [(t.getD b 0, some b)] := by
  unfold seg
  rw [show b + 1 - b = 1 by omega]
  rfl
theorem seg_nil {t : List Nat} {a b : Nat} (h : b ≤ a) : seg t a b = [] := by
  unfold seg
  rw [show b - a = 0 by omega]
  rfl
theorem mark_shift {t : List Nat} {a b : Nat} : ∀ {cs : List Pc}, WfC t.length b cs → a ≤ b → b ≤ t.length → mark t a cs = seg t a b ++ mark t b cs
  | [], _, h, h2 => (seg_app h h2).symm
  | c :: cs, ⟨w1, w2, w3, w4, w⟩, h, h2 => by
    show seg t a c.s ++ ins c.put ++ mark t c.e cs = seg t a b ++ (seg t b c.s ++ ins c.put ++ mark t c.e cs)
    rw [← seg_app h w1]
    simp
def Good (t : List Nat) : Nat → List Row → Prop
  | _, [] => True
  | lo, (_, none) :: r => Good t lo r
  | lo, (c, some b) :: r => lo ≤ b ∧ b < t.length ∧ c = t.getD b 0 ∧ Good t (b + 1) r
theorem pce_wf {n old b : Nat} {put : List Nat} {cs : List Pc} (w : WfC n (b + 1) cs) (h : old ≤ b) (h2 : b ≤ n) : WfC n old (pce old b put ++ cs) := by
  unfold pce
  split
  · rename_i hc
    exact ⟨Nat.le_refl _, h, h2, fun e => by
      rcases hc with hc | hc
      · have : old = b := e
        omega
      · exact hc, w⟩
  · exact wf_mono w (by omega)
theorem dl_wf {t : List Nat} : ∀ {R : List Row} {old : Nat} {put : List Nat}, Good t old R → old ≤ t.length → WfC t.length old (dl t.length old put R)
  | [], old, put, _, h => by
    have := pce_wf (n := t.length) (put := put) (cs := []) trivial h (Nat.le_refl _)
    rwa [List.append_nil] at this
  | (c, none) :: r, old, put, g, h => dl_wf (R := r) (put := put ++ [c]) g h
  | (c, some b) :: r, old, put, ⟨g1, g2, g3, g4⟩, h => pce_wf (dl_wf (put := []) g4 g2) g1 (by omega)
theorem mark_pce {t : List Nat} {old b : Nat} {put : List Nat} {cs : List Pc} (w : WfC t.length b cs) (h : old ≤ b) (h2 : b ≤ t.length) : mark t old (pce old b put ++ cs) = ins put ++ mark t b cs := by
  unfold pce
  split
  · show seg t old old ++ ins put ++ mark t b cs = _
    rw [seg_nil (Nat.le_refl _), List.nil_append]
  · rename_i hn
    have e : old = b := by omega
    have e2 : put = [] := Classical.byContradiction fun z => hn (.inr z)
    subst e e2
    rfl
theorem mark_dl {t : List Nat} : ∀ {R : List Row} {old : Nat} {put : List Nat}, Good t old R → old ≤ t.length → mark t old (dl t.length old put R) = ins put ++ R
  | [], old, put, _, h => by
    have := mark_pce (t := t) (put := put) (cs := []) (show WfC t.length t.length [] from trivial) h (Nat.le_refl _)
    rw [List.append_nil] at this
    show mark t old (pce old t.length put) = _
    rw [this]
    show ins put ++ seg t t.length t.length = _
    rw [seg_nil (Nat.le_refl _)]
  | (c, none) :: r, old, put, g, h => by
    show mark t old (dl t.length old (put ++ [c]) r) = _
    rw [mark_dl (R := r) g h]
    simp [ins]
  | (c, some b) :: r, old, put, ⟨g1, g2, g3, g4⟩, h => by
    have w := dl_wf (put := []) g4 g2
    show mark t old (pce old b put ++ dl t.length (b + 1) [] r) = _
    rw [mark_pce (wf_mono w (Nat.le_succ _)) g1 (by omega), mark_shift w (Nat.le_succ _) g2, mark_dl (R := r) g4 g2, seg_one, ← g3]
    rfl
theorem dl_seg {t : List Nat} : ∀ (n a : Nat) (R : List Row), dl t.length a [] ((List.range n).map (fun k => (t.getD (a + k) 0, some (a + k))) ++ R) = dl t.length (a + n) [] R
  | 0, a, R => rfl
  | n + 1, a, R => by
    rw [List.range_succ_eq_map, List.map_cons, List.map_map]
    show pce a a [] ++ dl t.length (a + 1) [] _ = _
    have e : (List.range n).map ((fun k => (t.getD (a + k) 0, some (a + k))) ∘ Nat.succ) = (List.range n).map fun k => (t.getD (a + 1 + k) 0, some (a + 1 + k)) := List.map_congr_left fun k _ => by
      show (t.getD (a + (k + 1)) 0, some (a + (k + 1))) = _
      rw [show a + (k + 1) = a + 1 + k by omega]
    rw [e]
    have := dl_seg (t := t) n (a + 1) R
    rw [show pce a a [] = [] from if_neg (by simp), List.nil_append]
    refine this.trans ?_
    rw [show a + 1 + n = a + (n + 1) by omega]
theorem dl_ins {n old : Nat} : ∀ (p put : List Nat) (R : List Row), dl n old put (ins p ++ R) = dl n old (put ++ p) R
  | [], put, R => by rw [List.append_nil]; rfl
  | c :: p, put, R => by
    show dl n old (put ++ [c]) (ins p ++ R) = _
    rw [dl_ins p (put ++ [c]) R]
    simp
theorem dl_mark {t : List Nat} : ∀ {cs : List Pc} {lo a : Nat}, WfC t.length lo cs → a ≤ lo → a ≤ t.length → dl t.length a [] (mark t a cs) = cs
  | [], lo, a, _, _, h => by
    have := dl_seg (t := t) (t.length - a) a []
    rw [List.append_nil] at this
    show dl t.length a [] ((List.range (t.length - a)).map fun k => (t.getD (a + k) 0, some (a + k))) = []
    refine this.trans ?_
    rw [show a + (t.length - a) = t.length by omega]
    show pce t.length t.length [] = []
    exact if_neg (by simp)
  | c :: cs, lo, a, ⟨w1, w2, w3, w4, w⟩, ha, h => by
    show dl t.length a [] ((List.range (c.s - a)).map (fun k => (t.getD (a + k) 0, some (a + k))) ++ ins c.put ++ mark t c.e cs) = _
    rw [List.append_assoc, dl_seg, show a + (c.s - a) = c.s by omega, dl_ins, List.nil_append]
    have hp : ∀ b, b = c.e → pce c.s b c.put = [c] := fun b e => by
      subst e
      unfold pce
      rw [if_pos]
      by_cases z : c.s = c.e
      · exact .inr (w4 z)
      · exact .inl (by omega)
    by_cases he : c.e = t.length
    · have hcs : cs = [] := by
        cases cs with
        | nil => rfl
        | cons d ds =>
          have := w.1
          have := w.2.1
          have := w.2.2.1
          omega
      subst hcs
      show dl t.length c.s c.put (seg t c.e t.length) = _
      rw [he, seg_nil (Nat.le_refl _)]
      exact hp _ he.symm
    · rw [mark_shift w (Nat.le_succ _) (by omega), seg_one]
      show pce c.s c.e c.put ++ dl t.length (c.e + 1) [] (mark t (c.e + 1) cs) = _
      rw [dl_mark w (Nat.le_refl _) (by omega), hp _ rfl]
      rfl
theorem wf_eq {t : List Nat} {cs ds : List Pc} (w : WfC t.length 0 cs) (v : WfC t.length 0 ds) (h : mark t 0 cs = mark t 0 ds) : cs = ds := by
  rw [← dl_mark w (Nat.le_refl 0) (Nat.zero_le _), h, dl_mark v (Nat.le_refl 0) (Nat.zero_le _)]
theorem good_seg {t : List Nat} {R : List Row} : ∀ (n a : Nat), a + n ≤ t.length → Good t (a + n) R → Good t a ((List.range n).map (fun k => (t.getD (a + k) 0, some (a + k))) ++ R)
  | 0, a, _, g => g
  | n + 1, a, h, g => by
    rw [List.range_succ_eq_map, List.map_cons, List.map_map]
    have e : (List.range n).map ((fun k => (t.getD (a + k) 0, some (a + k))) ∘ Nat.succ) = (List.range n).map fun k => (t.getD (a + 1 + k) 0, some (a + 1 + k)) := List.map_congr_left fun k _ => by
      show (t.getD (a + (k + 1)) 0, some (a + (k + 1))) = _
      rw [show a + (k + 1) = a + 1 + k by omega]
    refine ⟨Nat.le_refl _, by show a + 0 < _; omega, rfl, ?_⟩
    show Good t (a + 1) _
    rw [e]
    exact good_seg n (a + 1) (by omega) (by rw [show a + 1 + n = a + (n + 1) by omega]; exact g)
theorem good_ins {t : List Nat} {lo : Nat} {R : List Row} : ∀ p : List Nat, Good t lo R → Good t lo (ins p ++ R)
  | [], g => g
  | _ :: p, g => good_ins p g
theorem good_of : ∀ {R : List Row} {t : List Nat} {lo i : Nat}, Up (·.1) lo (kp i R) → (∀ r ∈ R, ∀ b, r.2 = some b → b < t.length ∧ r.1 = t.getD b 0) → Good t lo R
  | [], _, _, _, _, _ => trivial
  | (c, none) :: r, t, lo, i, u, h => good_of (R := r) (i := i + 1) u fun x hx => h x (List.mem_cons_of_mem _ hx)
  | (c, some b) :: r, t, lo, i, u, h => ⟨u.1, (h _ List.mem_cons_self b rfl).1, (h _ List.mem_cons_self b rfl).2, good_of (R := r) (i := i + 1) u.2 fun x hx => h x (List.mem_cons_of_mem _ hx)⟩
theorem rowsJ_good {t : List Nat} {cs ds : List Pc} (w1 : WfC t.length 0 cs) (w2 : WfC (after t cs).length 0 ds) : Good t 0 (rowsJ t cs ds) := by
  obtain ⟨u1, u2, um, uj⟩ := kpJ w1 w2
  refine good_of (i := 0) (up_pre u1) fun r hr b hb => ?_
  obtain ⟨j, hj⟩ := List.mem_iff_getElem?.mp hr
  have hm : (b, 0 + j) ∈ kp 0 (rowsJ t cs ds) := mem_kp (i := 0) hj hb
  rw [Nat.zero_add] at hm
  obtain ⟨h1, h2, h3⟩ := um _ hm
  refine ⟨h1, ?_⟩
  have h1 : b < t.length := h1
  have h4 : (finJ t cs ds)[j]? = some r.1 := by
    rw [← rowsJ_fst, List.getElem?_map, hj]
    rfl
  have h3 : t[b]? = (finJ t cs ds)[j]? := h3
  rw [h4] at h3
  rw [List.getD_eq_getElem?_getD, h3]
  rfl
theorem mark_join {t : List Nat} {cs ds : List Pc} (w1 : WfC t.length 0 cs) (w2 : WfC (after t cs).length 0 ds) : mark t 0 (joinC t cs ds) = rowsJ t cs ds := by
  rw [← due_join, mark_dl (rowsJ_good w1 w2) (Nat.zero_le _)]
  rfl
theorem comp_assoc (A B C : List Row) : comp (comp A B) C = comp A (comp B C) := by
  unfold comp
  rw [List.map_map]
  refine List.map_congr_left fun r _ => ?_
  show (r.1, _) = (r.1, _)
  congr 1
  show (r.2.bind fun k => ((B.map fun r => (r.1, r.2.bind fun k => (A[k]?).bind (·.2)))[k]?).bind (·.2)) = (r.2.bind fun k => (B[k]?).bind (·.2)).bind fun k => (A[k]?).bind (·.2)
  rw [Option.bind_assoc]
  congr 1
  funext k
  rw [List.getElem?_map]
  cases B[k]? <;> rfl
theorem after_len {t : List Nat} {cs : List Pc} : (after t cs).length = (mark t 0 cs).length := List.length_map _
theorem join_assoc {t : List Nat} {a b c : List Pc} (w1 : WfC t.length 0 a) (w2 : WfC (after t a).length 0 b) (w3 : WfC (finJ t a b).length 0 c) : joinC t (joinC t a b) c = joinC t a (joinC (after t a) b c) := by
  have w12 := joinC_wf w1 w2
  have w23 : WfC (after t a).length 0 (joinC (after t a) b c) := joinC_wf w2 w3
  have e12 := joinC_aft w1 w2
  have w3' : WfC (after t (joinC t a b)).length 0 c := by rw [e12]; exact w3
  refine wf_eq (joinC_wf w12 w3') (joinC_wf w1 w23) ?_
  rw [mark_join w12 w3', mark_join w1 w23]
  show comp (mark t 0 (joinC t a b)) (mark (after t (joinC t a b)) 0 c) = comp (mark t 0 a) (mark (after t a) 0 (joinC (after t a) b c))
  rw [mark_join w1 w2, mark_join w2 w3, e12]
  exact comp_assoc _ _ _
def irs (t : List Nat) (a b : Nat) (ks : List (Nat × Nat)) : List Row := (List.range (b - a)).map fun x => (t.getD (a + x) 0, look ks (a + x))
theorem irs_app {t : List Nat} {a b c : Nat} {ks : List (Nat × Nat)} (h : a ≤ b) (h2 : b ≤ c) : irs t a b ks ++ irs t b c ks = irs t a c ks := by
  unfold irs
  rw [show c - a = (b - a) + (c - b) by omega, List.range_add, List.map_append, List.map_map]
  congr 1
  refine List.map_congr_left fun x _ => ?_
  show _ = (t.getD (a + ((b - a) + x)) 0, look ks (a + ((b - a) + x)))
  rw [show a + ((b - a) + x) = b + x by omega]
theorem irs_congr {t : List Nat} {a b : Nat} {ks ls : List (Nat × Nat)} (h : ∀ x, a ≤ x → x < b → look ks x = look ls x) : irs t a b ks = irs t a b ls := by
  unfold irs
  refine List.map_congr_left fun x hx => ?_
  have := List.mem_range.mp hx
  rw [h (a + x) (by omega) (by omega)]
theorem look_app {A B : List (Nat × Nat)} {k : Nat} : look (A ++ B) k = (look A k).or (look B k) := by
  unfold look
  rw [List.find?_append]
  cases A.find? fun x => x.1 == k <;> rfl
theorem look_rng : ∀ (n a i x : Nat), look ((List.range n).map fun k => (a + k, i + k)) x = if a ≤ x ∧ x < a + n then some (i + (x - a)) else none
  | 0, a, i, x => by rw [if_neg (by omega)]; rfl
  | n + 1, a, i, x => by
    rw [List.range_succ, List.map_append, look_app, look_rng n a i x]
    by_cases h : a ≤ x ∧ x < a + n
    · rw [if_pos h, if_pos (by omega)]
      rfl
    · rw [if_neg h]
      by_cases z : x = a + n
      · subst z
        rw [if_pos (by omega), show a + n - a = n by omega]
        simp [look]
      · rw [if_neg (by omega)]
        have : ¬ a + n = x := fun q => z q.symm
        simp [look, this]
theorem look_hi {ks : List (Nat × Nat)} {b x : Nat} (h : ∀ y ∈ ks, y.1 < b) (hx : b ≤ x) : look ks x = none := by
  unfold look
  rw [List.find?_eq_none.mpr fun y hy => by have := h y hy; simp; omega]
  rfl
theorem mark_inv {t u : List Nat} : ∀ {cs : List Pc} {lo old : Nat} {pre : List Nat}, WfC t.length lo cs → old ≤ lo → old ≤ t.length → u = pre ++ aft t old cs → mark u pre.length (invN t pre.length old cs) = irs t old t.length (kp pre.length (mark t old cs))
  | [], lo, old, pre, _, _, ho, hu => by
    rw [aft_nil] at hu
    have hul := congrArg List.length hu
    rw [List.length_append, List.length_drop] at hul
    show seg u pre.length u.length = irs t old t.length (kp pre.length (seg t old t.length))
    rw [kp_seg]
    unfold seg irs
    rw [show u.length - pre.length = t.length - old by omega]
    refine List.map_congr_left fun x hx => ?_
    have hx := List.mem_range.mp hx
    rw [look_rng, if_pos (by omega), show pre.length + (old + x - old) = pre.length + x by omega]
    congr 1
    rw [hu, List.getD_eq_getElem?_getD, List.getElem?_append_right (by omega), List.getElem?_drop, List.getD_eq_getElem?_getD, show old + (pre.length + x - pre.length) = old + x by omega]
  | c :: cs, lo, old, pre, ⟨w1, w2, w3, w4, w⟩, ho, hot, hu => by
    rw [aft_cons (by omega)] at hu
    have l1 : (slc t old c.s).length = c.s - old := slc_len (by omega)
    have hul := congrArg List.length hu
    rw [List.length_append, List.length_append, List.length_append, l1] at hul
    have ih := mark_inv (u := u) (pre := pre ++ slc t old c.s ++ c.put) w (Nat.le_succ _) w3 (by rw [hu]; simp)
    rw [List.length_append, List.length_append, l1] at ih
    show seg u pre.length (pre.length + (c.s - old)) ++ ins (slc t c.s c.e) ++ mark u (pre.length + (c.s - old) + c.put.length) (invN t (pre.length + (c.s - old) + c.put.length) c.e cs) = irs t old t.length (kp pre.length (seg t old c.s ++ ins c.put ++ mark t c.e cs))
    rw [ih, kp_app, kp_app, kp_ins, List.append_nil, kp_seg, List.length_append, seg_len, ins_len, show pre.length + (c.s - old + c.put.length) = pre.length + (c.s - old) + c.put.length by omega]
    have hge : ∀ y ∈ kp (pre.length + (c.s - old) + c.put.length) (mark t c.e cs), c.e ≤ y.1 := (kp_up1 w (Nat.le_succ _)).1.ge
    rw [← irs_app (a := old) (b := c.s) (c := t.length) (by omega) (by omega), ← irs_app (a := c.s) (b := c.e) (c := t.length) w2 w3, ← List.append_assoc]
    have lk : ∀ x, look ((List.range (c.s - old)).map (fun k => (old + k, pre.length + k)) ++ kp (pre.length + (c.s - old) + c.put.length) (mark t c.e cs)) x = if old ≤ x ∧ x < c.s then some (pre.length + (x - old)) else look (kp (pre.length + (c.s - old) + c.put.length) (mark t c.e cs)) x := fun x => by
      rw [look_app, look_rng, show old + (c.s - old) = c.s by omega]
      split <;> rfl
    congr 1
    · congr 1
      · unfold seg irs
        rw [show pre.length + (c.s - old) - pre.length = c.s - old by omega]
        refine List.map_congr_left fun x hx => ?_
        have hx := List.mem_range.mp hx
        rw [lk, if_pos (by omega), show pre.length + (old + x - old) = pre.length + x by omega]
        congr 1
        rw [hu, List.getD_eq_getElem?_getD, List.getElem?_append_right (by omega), List.append_assoc, List.getElem?_append_left (by rw [l1]; omega), List.getD_eq_getElem?_getD]
        unfold slc
        rw [List.getElem?_take_of_lt (by omega), List.getElem?_drop, show old + (pre.length + x - pre.length) = old + x by omega]
      · unfold irs ins slc
        refine List.ext_getElem? fun i => ?_
        rw [List.getElem?_map, List.getElem?_map]
        by_cases hi : i < c.e - c.s
        · rw [List.getElem?_take_of_lt hi, List.getElem?_drop, List.getElem?_range hi]
          have hlt : c.s + i < t.length := by omega
          have hn : look ((List.range (c.s - old)).map (fun k => (old + k, pre.length + k)) ++ kp (pre.length + (c.s - old) + c.put.length) (mark t c.e cs)) (c.s + i) = none := by
            rw [lk, if_neg (by omega), look_none (lo := c.e) (kp_up1 w (Nat.le_succ _)).1 (by omega)]
          show Option.map _ _ = some (t.getD (c.s + i) 0, look _ (c.s + i))
          rw [hn]
          simp [hlt]
        · rw [List.getElem?_eq_none (by rw [List.length_take, List.length_drop]; omega), List.getElem?_eq_none (by rw [List.length_range]; omega)]
          rfl
    · refine irs_congr fun x h1 h2 => ?_
      rw [lk, if_neg (by omega)]
end Co.Tx
end

section
set_option maxHeartbeats 4000000
namespace Co.Tx
open PySem PySem.Spec PyProof.Rows L2 Co
theorem look_joinA {B : List (Nat × Nat)} : ∀ {A : List (Nat × Nat)} {lo : Nat} (i : Nat), Up (·.1) lo A → look (joinA A B) i = (look A i).bind (look B)
  | [], _, _, _ => rfl
  | x :: A, lo, i, u => by
    have ih := look_joinA (B := B) i u.2
    have e : look (x :: A) i = if x.1 = i then some x.2 else look A i := by
      unfold look
      by_cases z : x.1 = i
      · rw [List.find?_cons_of_pos (by simp [z]), if_pos z]
        rfl
      · rw [List.find?_cons_of_neg (by simp [z]), if_neg z]
    have e2 : joinA (x :: A) B = ((look B x.2).map fun j => (x.1, j)).toList ++ joinA A B := by
      unfold joinA
      rw [List.filterMap_cons]
      cases look B x.2 <;> rfl
    rw [e, e2, look_app]
    by_cases z : x.1 = i
    · rw [if_pos z]
      have hn : look (joinA A B) i = none := by
        rw [ih, look_none (lo := x.1 + 1) u.2 (by omega)]
        rfl
      cases hb : look B x.2 with
      | none =>
        show (none : Option Nat).or (look (joinA A B) i) = _
        rw [hn]
        exact hb.symm
      | some j =>
        show (look [(x.1, j)] i).or _ = look B x.2
        rw [hb]
        simp [look, z]
    · rw [if_neg z, ← ih]
      cases hb : look B x.2 with
      | none => rfl
      | some j =>
        show (look [(x.1, j)] i).or _ = _
        simp [look, z]
abbrev iv (t : List Nat) (cs : List Pc) : List Row := irs t 0 t.length (kp 0 (mark t 0 cs))
theorem mark_inv0 {t : List Nat} {cs : List Pc} (w : WfC t.length 0 cs) : mark (after t cs) 0 (invN t 0 0 cs) = iv t cs := mark_inv (pre := []) w (Nat.le_refl 0) (Nat.zero_le _) rfl
theorem irs_get {t : List Nat} {ks : List (Nat × Nat)} {i : Nat} (h : i < t.length) : (irs t 0 t.length ks)[i]? = some (t.getD i 0, look ks i) := by
  unfold irs
  rw [List.getElem?_map, List.getElem?_range (by omega)]
  simp
theorem look_lt {t : List Nat} {cs : List Pc} {i k : Nat} (h : look (kp 0 (mark t 0 cs)) i = some k) : k < (after t cs).length := by
  obtain ⟨_, r, h2, _⟩ := kp_mem (look_mem h)
  have h2 : (mark t 0 cs)[k - 0]? = some r := h2
  have := (List.getElem?_eq_some_iff.mp h2).1
  rw [after_len]
  omega
theorem look_join {t : List Nat} {cs ds : List Pc} (w1 : WfC t.length 0 cs) (w2 : WfC (after t cs).length 0 ds) (i : Nat) : look (kp 0 (mark t 0 (joinC t cs ds))) i = (look (kp 0 (mark t 0 cs)) i).bind (look (kp 0 (mark (after t cs) 0 ds))) := by
  obtain ⟨u1, u2, um, uj⟩ := kpJ w1 w2
  rw [mark_join w1 w2, ← uj]
  exact look_joinA i (kp_up1 w1 (Nat.le_refl 0)).1
theorem comp_iv {t : List Nat} {cs ds : List Pc} (w1 : WfC t.length 0 cs) (w2 : WfC (after t cs).length 0 ds) : comp (iv (after t cs) ds) (iv t cs) = iv t (joinC t cs ds) := by
  unfold comp
  unfold iv
  conv => lhs; rw [show irs t 0 t.length (kp 0 (mark t 0 cs)) = (List.range (t.length - 0)).map fun x => (t.getD (0 + x) 0, look (kp 0 (mark t 0 cs)) (0 + x)) from rfl]
  conv => rhs; rw [show irs t 0 t.length (kp 0 (mark t 0 (joinC t cs ds))) = (List.range (t.length - 0)).map fun x => (t.getD (0 + x) 0, look (kp 0 (mark t 0 (joinC t cs ds))) (0 + x)) from rfl]
  rw [List.map_map]
  refine List.map_congr_left fun x hx => ?_
  show (t.getD (0 + x) 0, (look (kp 0 (mark t 0 cs)) (0 + x)).bind fun k => ((irs (after t cs) 0 (after t cs).length (kp 0 (mark (after t cs) 0 ds)))[k]?).bind (·.2)) = _
  rw [look_join w1 w2]
  congr 1
  cases hk : look (kp 0 (mark t 0 cs)) (0 + x) with
  | none => rfl
  | some k =>
    show ((irs (after t cs) 0 (after t cs).length (kp 0 (mark (after t cs) 0 ds)))[k]?).bind (·.2) = look _ k
    rw [irs_get (look_lt hk)]
    rfl
theorem invN_wf {t : List Nat} {cs : List Pc} (w : WfC t.length 0 cs) : WfC (after t cs).length 0 (invN t 0 0 cs) := by
  rw [after_len]
  exact inv_wf (new := 0) w (Nat.le_refl 0)
theorem after_inv {t : List Nat} {cs : List Pc} (w : WfC t.length 0 cs) : after (after t cs) (invN t 0 0 cs) = t := aft_inv (pre := []) w (Nat.le_refl 0) (Nat.zero_le _) rfl
theorem inv_join {t : List Nat} {cs ds : List Pc} (w1 : WfC t.length 0 cs) (w2 : WfC (after t cs).length 0 ds) :
    invN t 0 0 (joinC t cs ds) = joinC (finJ t cs ds) (invN (after t cs) 0 0 ds) (invN t 0 0 cs) := by
  have w12 := joinC_wf w1 w2
  have e12 := joinC_aft w1 w2
  have v1 := invN_wf w12
  rw [e12] at v1
  have v2 := invN_wf w2
  have e2 := after_inv w2
  have v3 : WfC (after (finJ t cs ds) (invN (after t cs) 0 0 ds)).length 0 (invN t 0 0 cs) := by
    rw [e2]
    exact invN_wf w1
  refine wf_eq v1 (joinC_wf v2 v3) ?_
  rw [mark_join v2 v3]
  have m1 := mark_inv0 w12
  rw [e12] at m1
  rw [m1]
  show iv t (joinC t cs ds) = comp (mark (finJ t cs ds) 0 (invN (after t cs) 0 0 ds)) (mark (after (finJ t cs ds) (invN (after t cs) 0 0 ds)) 0 (invN t 0 0 cs))
  rw [e2, mark_inv0 w1, mark_inv0 w2]
  exact (comp_iv w1 w2).symm
theorem carry_look {t : List Nat} {cs : List Pc} {p : Nat} (w : WfC t.length 0 cs) (hp : p < t.length) : carry t.length 0 cs p = (look (kp 0 (mark t 0 cs)) p).map fun (k : Nat) => (k : Int) := by
  rcases carry_spec hp cs 0 0 0 w (Nat.le_refl 0) (Nat.zero_le _) with ⟨k, ⟨r, k1, k2⟩, k3, k4⟩ | ⟨k1, k2⟩
  · rw [k4]
    have hm : (p, 0 + k) ∈ kp 0 (mark t 0 cs) := mem_kp k1 k2
    cases hl : look (kp 0 (mark t 0 cs)) p with
    | none =>
      unfold look at hl
      rw [Option.map_eq_none_iff, List.find?_eq_none] at hl
      have := hl _ hm
      simp at this
    | some k' =>
      obtain ⟨_, r', h2, h3⟩ := kp_mem (look_mem hl)
      have e := k3 (k' - 0) r' h2 h3
      show some _ = some (k' : Int)
      congr 1
      omega
  · rw [k2]
    cases hl : look (kp 0 (mark t 0 cs)) p with
    | none => rfl
    | some k' =>
      obtain ⟨_, r', h2, h3⟩ := kp_mem (look_mem hl)
      exact absurd h3 (k1 _ _ h2)
theorem carry_last {t : List Nat} {cs : List Pc} (w : WfC t.length 0 cs) : carry t.length 0 cs t.length = some ((after t cs).length : Int) := by
  rw [carry_end cs 0 0 0 w (Nat.le_refl 0) (Nat.zero_le _), after_len]
  congr 1
def carO (n : Nat) (cs : List Pc) : Option Nat → Option Nat
  | none => none
  | some p => (carry n 0 cs p).map Int.toNat
def car (t : List Nat) (cs : List Pc) (p : Nat) : Option Nat := if p = t.length then some (after t cs).length else look (kp 0 (mark t 0 cs)) p
theorem carry_car {t : List Nat} {cs : List Pc} {p : Nat} (w : WfC t.length 0 cs) (hp : p ≤ t.length) : carry t.length 0 cs p = (car t cs p).map fun (k : Nat) => (k : Int) := by
  unfold car
  by_cases z : p = t.length
  · subst z
    rw [if_pos rfl, carry_last w]
    rfl
  · rw [if_neg z, carry_look w (by omega)]
theorem car_le {t : List Nat} {cs : List Pc} {p k : Nat} (h : car t cs p = some k) : k ≤ (after t cs).length := by
  unfold car at h
  split at h
  · cases h
    exact Nat.le_refl _
  · exact Nat.le_of_lt (look_lt h)
theorem car_join {t : List Nat} {cs ds : List Pc} (w1 : WfC t.length 0 cs) (w2 : WfC (after t cs).length 0 ds) (p : Nat) : car t (joinC t cs ds) p = (car t cs p).bind (car (after t cs) ds) := by
  unfold car
  rw [joinC_aft w1 w2, look_join w1 w2]
  by_cases z : p = t.length
  · rw [if_pos z, if_pos z, Option.bind_some, if_pos rfl]
  · rw [if_neg z, if_neg z]
    cases hl : look (kp 0 (mark t 0 cs)) p with
    | none => rfl
    | some k =>
      have := look_lt hl
      rw [Option.bind_some, Option.bind_some, if_neg (by omega)]
def keepP (t : List Nat) (cs : List Pc) : List Pc := (cs.filter fun c => decide (c.s < c.e)).map fun c => ⟨c.s, c.e, slc t c.s c.e⟩
theorem keep_wf {t : List Nat} : ∀ {cs : List Pc} {lo : Nat}, WfC t.length lo cs → WfC t.length lo (keepP t cs)
  | [], _, _ => trivial
  | c :: cs, lo, ⟨w1, w2, w3, w4, w⟩ => by
    have ih := keep_wf w
    unfold keepP at ih ⊢
    by_cases z : c.s < c.e
    · rw [List.filter_cons_of_pos (by simp [z]), List.map_cons]
      exact ⟨w1, w2, w3, fun e => absurd e (by show c.s ≠ c.e; omega), ih⟩
    · rw [List.filter_cons_of_neg (by simp [z])]
      exact wf_mono ih (by omega)
def kps (t : List Nat) (a b : Nat) (ks : List (Nat × Nat)) : List Row := (List.range (b - a)).map fun x => (t.getD (a + x) 0, (look ks (a + x)).map fun _ => a + x)
theorem kps_app {t : List Nat} {a b c : Nat} {ks : List (Nat × Nat)} (h : a ≤ b) (h2 : b ≤ c) : kps t a b ks ++ kps t b c ks = kps t a c ks := by
  unfold kps
  rw [show c - a = (b - a) + (c - b) by omega, List.range_add, List.map_append, List.map_map]
  congr 1
  refine List.map_congr_left fun x _ => ?_
  show _ = (t.getD (a + ((b - a) + x)) 0, (look ks (a + ((b - a) + x))).map fun _ => a + ((b - a) + x))
  rw [show a + ((b - a) + x) = b + x by omega]
theorem kps_seg {t : List Nat} {a b : Nat} {ks : List (Nat × Nat)} (h : ∀ x, a ≤ x → x < b → look ks x ≠ none) : kps t a b ks = seg t a b := by
  unfold kps seg
  refine List.map_congr_left fun x hx => ?_
  have := List.mem_range.mp hx
  cases e : look ks (a + x) with
  | none => exact absurd e (h _ (by omega) (by omega))
  | some k => rfl
theorem kps_ins {t : List Nat} {a b : Nat} {ks : List (Nat × Nat)} (hb : b ≤ t.length) (h : ∀ x, a ≤ x → x < b → look ks x = none) : kps t a b ks = ins (slc t a b) := by
  unfold kps ins slc
  refine List.ext_getElem? fun i => ?_
  rw [List.getElem?_map, List.getElem?_map]
  by_cases hi : i < b - a
  · rw [List.getElem?_take_of_lt hi, List.getElem?_drop, List.getElem?_range hi]
    have hlt : a + i < t.length := by omega
    show some (t.getD (a + i) 0, (look ks (a + i)).map _) = _
    rw [h _ (by omega) (by omega)]
    simp [hlt]
  · rw [List.getElem?_eq_none (by rw [List.length_range]; omega), List.getElem?_eq_none (by rw [List.length_take, List.length_drop]; omega)]
    rfl
theorem kps_congr {t : List Nat} {a b : Nat} {ks ls : List (Nat × Nat)} (h : ∀ x, a ≤ x → x < b → look ks x = look ls x) : kps t a b ks = kps t a b ls := by
  unfold kps
  refine List.map_congr_left fun x hx => ?_
  have := List.mem_range.mp hx
  rw [h (a + x) (by omega) (by omega)]
theorem mark_keep {t : List Nat} : ∀ {cs : List Pc} {lo a i : Nat}, WfC t.length lo cs → a ≤ lo → a ≤ t.length → mark t a (keepP t cs) = kps t a t.length (kp i (mark t a cs))
  | [], lo, a, i, _, _, h => by
    show seg t a t.length = kps t a t.length (kp i (seg t a t.length))
    rw [kp_seg, kps_seg fun x h1 h2 => by rw [look_rng, if_pos (by omega)]; simp]
  | c :: cs, lo, a, i, ⟨w1, w2, w3, w4, w⟩, ha, h => by
    have lk : ∀ x, look (kp i (mark t a (c :: cs))) x = if a ≤ x ∧ x < c.s then some (i + (x - a)) else look (kp (i + (seg t a c.s ++ ins c.put).length) (mark t c.e cs)) x := fun x => by
      show look (kp i (seg t a c.s ++ ins c.put ++ mark t c.e cs)) x = _
      rw [kp_app, kp_app, kp_ins, List.append_nil, kp_seg, look_app, look_rng, show a + (c.s - a) = c.s by omega]
      split <;> rfl
    have ih := mark_keep (i := i + (seg t a c.s ++ ins c.put).length) w (Nat.le_succ c.e) w3
    have e3 : kps t c.e t.length (kp i (mark t a (c :: cs))) = mark t c.e (keepP t cs) := by
      rw [ih]
      exact kps_congr fun x h1 h2 => by rw [lk, if_neg (by omega)]
    have e1 : kps t a c.s (kp i (mark t a (c :: cs))) = seg t a c.s := kps_seg fun x h1 h2 => by rw [lk, if_pos ⟨h1, h2⟩]; simp
    have e2 : kps t c.s c.e (kp i (mark t a (c :: cs))) = ins (slc t c.s c.e) := kps_ins w3 fun x h1 h2 => by
      rw [lk, if_neg (by omega), look_none (lo := c.e) (kp_up1 w (Nat.le_succ _)).1 h2]
    rw [← kps_app (a := a) (b := c.s) (c := t.length) (by omega) (by omega), ← kps_app (a := c.s) (b := c.e) (c := t.length) w2 w3, e1, e2, e3]
    unfold keepP
    by_cases z : c.s < c.e
    · rw [List.filter_cons_of_pos (by simp [z]), List.map_cons]
      show seg t a c.s ++ ins (slc t c.s c.e) ++ mark t c.e _ = _
      rw [List.append_assoc]
    · rw [List.filter_cons_of_neg (by simp [z])]
      have e : c.s = c.e := by omega
      have wk : WfC t.length c.e (keepP t cs) := wf_mono (keep_wf w) (Nat.le_succ _)
      rw [e, slc_nil (Nat.le_refl _)]
      show mark t a (keepP t cs) = seg t a c.e ++ ([] ++ mark t c.e (keepP t cs))
      rw [List.nil_append]
      exact mark_shift wk (by omega) w3
theorem join_inv {t : List Nat} {cs : List Pc} (w : WfC t.length 0 cs) : joinC t cs (invN t 0 0 cs) = keepP t cs := by
  have v := invN_wf w
  refine wf_eq (joinC_wf w v) (keep_wf w) ?_
  rw [mark_join w v, mark_keep (i := 0) w (Nat.le_refl 0) (Nat.zero_le _)]
  show comp (mark t 0 cs) (mark (after t cs) 0 (invN t 0 0 cs)) = _
  rw [mark_inv0 w]
  unfold comp iv irs kps
  rw [List.map_map]
  refine List.map_congr_left fun x hx => ?_
  show (t.getD (0 + x) 0, (look (kp 0 (mark t 0 cs)) (0 + x)).bind fun k => ((mark t 0 cs)[k]?).bind (·.2)) = _
  congr 1
  cases hl : look (kp 0 (mark t 0 cs)) (0 + x) with
  | none => rfl
  | some k =>
    obtain ⟨_, r, h2, h3⟩ := kp_mem (look_mem hl)
    have h2 : (mark t 0 cs)[k - 0]? = some r := h2
    rw [Nat.sub_zero] at h2
    show ((mark t 0 cs)[k]?).bind (·.2) = some (0 + x)
    rw [h2]
    exact h3
end Co.Tx
end

section
set_option maxHeartbeats 4000000
namespace Co.Tx
open PySem PySem.Spec PyProof.Rows L2 Co
def vO (ts : Nat → List Nat) (css : Nat → List Pc) (p : Nat) : Nat → Option Nat
  | 0 => some p
  | i + 1 => (vO ts css p i).bind (car (ts i) (css i))
structure Row3 (ts : Nat → List Nat) (css : Nat → List Pc) : Prop where
  wf : ∀ i, i < 3 → WfC (ts i).length 0 (css i)
  nx : ∀ i, i < 3 → ts (i + 1) = after (ts i) (css i)
  tt : ∀ i, i < 3 → tot (css i) ≤ 18
  l0 : (ts 0).length ≤ 600
def sp_carried (K : PySem.W.Frag) : Sp := fun vs H Q _ => match vs with
  | [.ref s, .ref c, .int p] => ∃ (ts : Nat → List Nat) (css : Nat → List Pc) (as : Nat → Addr) (ss cl : List V) (p' : Nat), SqL K H s ss ∧ SqL K H c cl ∧ Row3 ts css ∧ (∀ i, i < 3 → ss[i]? = some (.int ((ts i).length : Int)) ∧ cl[i]? = some (.ref (as i)) ∧ Chg K H (as i) (css i)) ∧ p = (p' : Int) ∧ p' ≤ (ts 0).length ∧ Q (oN (vO ts css p' 3)) H
  | _ => False
abbrev N_Lcarried : List Str := ["_law_sizes", "_law_changes", "_law_place", "_law_k"]
def t_Lcarried (K : PySem.W.Frag) (E : XK) : TS :=
 (tSeq (tFor (iRng1 (tCons (tC (.int 3)) tNil)) (gName 3)
 (uIfS (tBo (tNt (tV 2))) (tAsg (uCall (sp_carry K) E0 (tCons (tOp (rIx K) (tV 0) (tV 3)) (tCons (tOp (rIx K) (tV 1) (tV 3)) (tCons (tV 2) tNil)))) (gName 2)) tNext))
 (tRet (tV 2)))
abbrev N_law : List Str := ["_law_script", "_law_pool_here", "_law_text_here", "_law_texts", "_law_changes", "_law_k", "_law_left", "_law_right", "_law_back", "_law_due", "_law_sizes", "_law_place", "_law_kept", "_law_both", "_law_one", "_law_start", "_law_stop", "_law_put"]
def t_law (K : PySem.W.Frag) (E : XK) : TS :=
 (tSeq (tAsg (uCall (sp_pool K) E0 (tCons (tV 0) tNil)) (gName 1))
 (tSeq (tAsg (uCall sp_text E0 (tCons (tV 1) (tCons (uCall sp_size E0 (tCons (tV 1) tNil)) tNil))) (gName 2))
 (tSeq (tAsg (tLst (tCons (tV 2) tNil)) (gName 3))
 (tSeq (tAsg (tLst tNil) (gName 4))
 (tSeq (tFor (iRng1 (tCons (tC (.int 3)) tNil)) (gName 5)
 (tSeq (tDrop (tBM K "list" rAppend (tV 4) (tCons (uCall (sp_change K) E0 (tCons (tV 1) (tCons (tOp (rIxL K) (tV 3) (tUn fNeg (tC (.int 1)))) tNil))) tNil)))
 (tDrop (tBM K "list" rAppend (tV 3) (tCons (uCall (sp_after K) E0 (tCons (tOp (rIxL K) (tV 3) (tUn fNeg (tC (.int 1)))) (tCons (tOp (rIxL K) (tV 4) (tUn fNeg (tC (.int 1)))) tNil))) tNil)))))
 (tSeq (tAsg (uCall (sp_join K) E0 (tCons (tV 2) (tCons (uCall (sp_join K) E0 (tCons (tV 2) (tCons (tOp (rIxL K) (tV 4) (tC (.int 0))) (tCons (tOp (rIxL K) (tV 4) (tC (.int 1))) tNil)))) (tCons (tOp (rIxL K) (tV 4) (tC (.int 2))) tNil)))) (gName 6))
 (tSeq (tAsg (uCall (sp_join K) E0 (tCons (tV 2) (tCons (tOp (rIxL K) (tV 4) (tC (.int 0))) (tCons (uCall (sp_join K) E0 (tCons (tOp (rIxL K) (tV 3) (tC (.int 1))) (tCons (tOp (rIxL K) (tV 4) (tC (.int 1))) (tCons (tOp (rIxL K) (tV 4) (tC (.int 2))) tNil)))) tNil)))) (gName 7))
 (tSeq (uIfS (uOr (tNot (tBo (uCall (sp_same K 4) E0 (tCons (tV 6) (tCons (tV 7) tNil))))) (tNot (tBo (uCall (sp_same K 4) E0 (tCons (uCall (sp_apply K) E0 (tCons (tV 2) (tCons (tV 6) tNil))) (tCons (tOp (rIxL K) (tV 3) (tC (.int 3))) tNil)))))) (tRet (tC (.bl false))) tNext)
 (tSeq (tAsg (uLc (iRng1 (tCons (tC (.int 3)) tNil)) (gName 5) tYes (uCall (sp_inv K) E0 (tCons (tOp (rIxL K) (tV 3) (tV 5)) (tCons (tOp (rIxL K) (tV 4) (tV 5)) tNil))) ([("_law_k", 5)].map (·.2))) (gName 8))
 (tSeq (tAsg (uCall (sp_join K) E0 (tCons (tOp (rIxL K) (tV 3) (tC (.int 3))) (tCons (uCall (sp_join K) E0 (tCons (tOp (rIxL K) (tV 3) (tC (.int 3))) (tCons (tOp (rIxL K) (tV 8) (tC (.int 2))) (tCons (tOp (rIxL K) (tV 8) (tC (.int 1))) tNil)))) (tCons (tOp (rIxL K) (tV 8) (tC (.int 0))) tNil)))) (gName 9))
 (tSeq (uIfS (tNot (tBo (uCall (sp_same K 4) E0 (tCons (uCall (sp_inv K) E0 (tCons (tV 2) (tCons (tV 6) tNil))) (tCons (tV 9) tNil))))) (tRet (tC (.bl false))) tNext)
 (tSeq (tAsg (uLc (iList K (tV 3)) (gName 14) tYes (tCB (cLenA K) (tCons (tV 14) tNil)) ([("_law_one", 14)].map (·.2))) (gName 10))
 (tSeq (tFor (iList K (tOp rCat (tLst (tCons (tC (.int 0)) (tCons (tCB cLenS (tCons (tV 2) tNil)) (tCons (tOp fDiv (tCB cLenS (tCons (tV 2) tNil)) (tC (.int 2))) tNil)))) (uLc (iRng1 (tCons (tC (.int 8)) tNil)) (gName 5) tYes (uCall (sp_take 2) E0 (tCons (tV 1) (tCons (tOp fAdd (tCB cLenS (tCons (tV 2) tNil)) (tC (.int 1))) tNil))) ([("_law_k", 5)].map (·.2))))) (gName 11)
 (uIfS (tNot (tBo (uCall (sp_same K 4) E0 (tCons (uCall (sp_carry K) E0 (tCons (tCB cLenS (tCons (tV 2) tNil)) (tCons (tV 6) (tCons (tV 11) tNil)))) (tCons (uCall (sp_carried K) E0 (tCons (tV 10) (tCons (tV 4) (tCons (tV 11) tNil)))) tNil))))) (tRet (tC (.bl false))) tNext))
 (tSeq (tAsg (tCB (rTupOf K) (tCons (uLc (iTup K (tV 6)) (gTup K 3 (gCons (gName 15) (gCons (gName 16) (gCons (gName 17) gNil)))) (tBo (tOp fLt (tV 15) (tV 16))) (tTup (tCons (tV 15) (tCons (tV 16) (tCons (tSl rSlS (tV 2) (tPart (tV 15)) (tPart (tV 16))) tNil)))) ([("_law_start", 15), ("_law_stop", 16), ("_law_put", 17)].map (·.2))) tNil)) (gName 12))
 (tSeq (tAsg (uCall (sp_join K) E0 (tCons (tV 2) (tCons (tV 6) (tCons (tV 9) tNil)))) (gName 13))
 (tRet (uAndV (uCall (sp_same K 4) E0 (tCons (tV 13) (tCons (tV 12) tNil))) (uCall (sp_same K 4) E0 (tCons (uCall (sp_apply K) E0 (tCons (tV 2) (tCons (tV 13) tNil))) (tCons (tV 2) tNil))))))))))))))))))))
def t_p2 (K : PySem.W.Frag) : TS :=
 (tSeq (tAsg (uCall (sp_join K) E0 (tCons (tV 2) (tCons (uCall (sp_join K) E0 (tCons (tV 2) (tCons (tOp (rIxL K) (tV 4) (tC (.int 0))) (tCons (tOp (rIxL K) (tV 4) (tC (.int 1))) tNil)))) (tCons (tOp (rIxL K) (tV 4) (tC (.int 2))) tNil)))) (gName 6))
 (tSeq (tAsg (uCall (sp_join K) E0 (tCons (tV 2) (tCons (tOp (rIxL K) (tV 4) (tC (.int 0))) (tCons (uCall (sp_join K) E0 (tCons (tOp (rIxL K) (tV 3) (tC (.int 1))) (tCons (tOp (rIxL K) (tV 4) (tC (.int 1))) (tCons (tOp (rIxL K) (tV 4) (tC (.int 2))) tNil)))) tNil)))) (gName 7))
 (tSeq (uIfS (uOr (tNot (tBo (uCall (sp_same K 4) E0 (tCons (tV 6) (tCons (tV 7) tNil))))) (tNot (tBo (uCall (sp_same K 4) E0 (tCons (uCall (sp_apply K) E0 (tCons (tV 2) (tCons (tV 6) tNil))) (tCons (tOp (rIxL K) (tV 3) (tC (.int 3))) tNil)))))) (tRet (tC (.bl false))) tNext)
 (tSeq (tAsg (uLc (iRng1 (tCons (tC (.int 3)) tNil)) (gName 5) tYes (uCall (sp_inv K) E0 (tCons (tOp (rIxL K) (tV 3) (tV 5)) (tCons (tOp (rIxL K) (tV 4) (tV 5)) tNil))) ([("_law_k", 5)].map (·.2))) (gName 8))
 (tSeq (tAsg (uCall (sp_join K) E0 (tCons (tOp (rIxL K) (tV 3) (tC (.int 3))) (tCons (uCall (sp_join K) E0 (tCons (tOp (rIxL K) (tV 3) (tC (.int 3))) (tCons (tOp (rIxL K) (tV 8) (tC (.int 2))) (tCons (tOp (rIxL K) (tV 8) (tC (.int 1))) tNil)))) (tCons (tOp (rIxL K) (tV 8) (tC (.int 0))) tNil)))) (gName 9))
 (tSeq (uIfS (tNot (tBo (uCall (sp_same K 4) E0 (tCons (uCall (sp_inv K) E0 (tCons (tV 2) (tCons (tV 6) tNil))) (tCons (tV 9) tNil))))) (tRet (tC (.bl false))) tNext)
 (tSeq (tAsg (uLc (iList K (tV 3)) (gName 14) tYes (tCB (cLenA K) (tCons (tV 14) tNil)) ([("_law_one", 14)].map (·.2))) (gName 10))
 (tSeq (tFor (iList K (tOp rCat (tLst (tCons (tC (.int 0)) (tCons (tCB cLenS (tCons (tV 2) tNil)) (tCons (tOp fDiv (tCB cLenS (tCons (tV 2) tNil)) (tC (.int 2))) tNil)))) (uLc (iRng1 (tCons (tC (.int 8)) tNil)) (gName 5) tYes (uCall (sp_take 2) E0 (tCons (tV 1) (tCons (tOp fAdd (tCB cLenS (tCons (tV 2) tNil)) (tC (.int 1))) tNil))) ([("_law_k", 5)].map (·.2))))) (gName 11)
 (uIfS (tNot (tBo (uCall (sp_same K 4) E0 (tCons (uCall (sp_carry K) E0 (tCons (tCB cLenS (tCons (tV 2) tNil)) (tCons (tV 6) (tCons (tV 11) tNil)))) (tCons (uCall (sp_carried K) E0 (tCons (tV 10) (tCons (tV 4) (tCons (tV 11) tNil)))) tNil))))) (tRet (tC (.bl false))) tNext))
 (tSeq (tAsg (tCB (rTupOf K) (tCons (uLc (iTup K (tV 6)) (gTup K 3 (gCons (gName 15) (gCons (gName 16) (gCons (gName 17) gNil)))) (tBo (tOp fLt (tV 15) (tV 16))) (tTup (tCons (tV 15) (tCons (tV 16) (tCons (tSl rSlS (tV 2) (tPart (tV 15)) (tPart (tV 16))) tNil)))) ([("_law_start", 15), ("_law_stop", 16), ("_law_put", 17)].map (·.2))) tNil)) (gName 12))
 (tSeq (tAsg (uCall (sp_join K) E0 (tCons (tV 2) (tCons (tV 6) (tCons (tV 9) tNil)))) (gName 13))
 (tRet (uAndV (uCall (sp_same K 4) E0 (tCons (tV 13) (tCons (tV 12) tNil))) (uCall (sp_same K 4) E0 (tCons (uCall (sp_apply K) E0 (tCons (tV 2) (tCons (tV 13) tNil))) (tCons (tV 2) tNil)))))))))))))))
def t_p3 (K : PySem.W.Frag) : TS :=
 (tSeq (tAsg (uLc (iRng1 (tCons (tC (.int 3)) tNil)) (gName 5) tYes (uCall (sp_inv K) E0 (tCons (tOp (rIxL K) (tV 3) (tV 5)) (tCons (tOp (rIxL K) (tV 4) (tV 5)) tNil))) ([("_law_k", 5)].map (·.2))) (gName 8))
 (tSeq (tAsg (uCall (sp_join K) E0 (tCons (tOp (rIxL K) (tV 3) (tC (.int 3))) (tCons (uCall (sp_join K) E0 (tCons (tOp (rIxL K) (tV 3) (tC (.int 3))) (tCons (tOp (rIxL K) (tV 8) (tC (.int 2))) (tCons (tOp (rIxL K) (tV 8) (tC (.int 1))) tNil)))) (tCons (tOp (rIxL K) (tV 8) (tC (.int 0))) tNil)))) (gName 9))
 (tSeq (uIfS (tNot (tBo (uCall (sp_same K 4) E0 (tCons (uCall (sp_inv K) E0 (tCons (tV 2) (tCons (tV 6) tNil))) (tCons (tV 9) tNil))))) (tRet (tC (.bl false))) tNext)
 (tSeq (tAsg (uLc (iList K (tV 3)) (gName 14) tYes (tCB (cLenA K) (tCons (tV 14) tNil)) ([("_law_one", 14)].map (·.2))) (gName 10))
 (tSeq (tFor (iList K (tOp rCat (tLst (tCons (tC (.int 0)) (tCons (tCB cLenS (tCons (tV 2) tNil)) (tCons (tOp fDiv (tCB cLenS (tCons (tV 2) tNil)) (tC (.int 2))) tNil)))) (uLc (iRng1 (tCons (tC (.int 8)) tNil)) (gName 5) tYes (uCall (sp_take 2) E0 (tCons (tV 1) (tCons (tOp fAdd (tCB cLenS (tCons (tV 2) tNil)) (tC (.int 1))) tNil))) ([("_law_k", 5)].map (·.2))))) (gName 11)
 (uIfS (tNot (tBo (uCall (sp_same K 4) E0 (tCons (uCall (sp_carry K) E0 (tCons (tCB cLenS (tCons (tV 2) tNil)) (tCons (tV 6) (tCons (tV 11) tNil)))) (tCons (uCall (sp_carried K) E0 (tCons (tV 10) (tCons (tV 4) (tCons (tV 11) tNil)))) tNil))))) (tRet (tC (.bl false))) tNext))
 (tSeq (tAsg (tCB (rTupOf K) (tCons (uLc (iTup K (tV 6)) (gTup K 3 (gCons (gName 15) (gCons (gName 16) (gCons (gName 17) gNil)))) (tBo (tOp fLt (tV 15) (tV 16))) (tTup (tCons (tV 15) (tCons (tV 16) (tCons (tSl rSlS (tV 2) (tPart (tV 15)) (tPart (tV 16))) tNil)))) ([("_law_start", 15), ("_law_stop", 16), ("_law_put", 17)].map (·.2))) tNil)) (gName 12))
 (tSeq (tAsg (uCall (sp_join K) E0 (tCons (tV 2) (tCons (tV 6) (tCons (tV 9) tNil)))) (gName 13))
 (tRet (uAndV (uCall (sp_same K 4) E0 (tCons (tV 13) (tCons (tV 12) tNil))) (uCall (sp_same K 4) E0 (tCons (uCall (sp_apply K) E0 (tCons (tV 2) (tCons (tV 13) tNil))) (tCons (tV 2) tNil))))))))))))
def t_p4 (K : PySem.W.Frag) : TS :=
 (tSeq (tAsg (uLc (iList K (tV 3)) (gName 14) tYes (tCB (cLenA K) (tCons (tV 14) tNil)) ([("_law_one", 14)].map (·.2))) (gName 10))
 (tSeq (tFor (iList K (tOp rCat (tLst (tCons (tC (.int 0)) (tCons (tCB cLenS (tCons (tV 2) tNil)) (tCons (tOp fDiv (tCB cLenS (tCons (tV 2) tNil)) (tC (.int 2))) tNil)))) (uLc (iRng1 (tCons (tC (.int 8)) tNil)) (gName 5) tYes (uCall (sp_take 2) E0 (tCons (tV 1) (tCons (tOp fAdd (tCB cLenS (tCons (tV 2) tNil)) (tC (.int 1))) tNil))) ([("_law_k", 5)].map (·.2))))) (gName 11)
 (uIfS (tNot (tBo (uCall (sp_same K 4) E0 (tCons (uCall (sp_carry K) E0 (tCons (tCB cLenS (tCons (tV 2) tNil)) (tCons (tV 6) (tCons (tV 11) tNil)))) (tCons (uCall (sp_carried K) E0 (tCons (tV 10) (tCons (tV 4) (tCons (tV 11) tNil)))) tNil))))) (tRet (tC (.bl false))) tNext))
 (tSeq (tAsg (tCB (rTupOf K) (tCons (uLc (iTup K (tV 6)) (gTup K 3 (gCons (gName 15) (gCons (gName 16) (gCons (gName 17) gNil)))) (tBo (tOp fLt (tV 15) (tV 16))) (tTup (tCons (tV 15) (tCons (tV 16) (tCons (tSl rSlS (tV 2) (tPart (tV 15)) (tPart (tV 16))) tNil)))) ([("_law_start", 15), ("_law_stop", 16), ("_law_put", 17)].map (·.2))) tNil)) (gName 12))
 (tSeq (tAsg (uCall (sp_join K) E0 (tCons (tV 2) (tCons (tV 6) (tCons (tV 9) tNil)))) (gName 13))
 (tRet (uAndV (uCall (sp_same K 4) E0 (tCons (tV 13) (tCons (tV 12) tNil))) (uCall (sp_same K 4) E0 (tCons (uCall (sp_apply K) E0 (tCons (tV 2) (tCons (tV 13) tNil))) (tCons (tV 2) tNil)))))))))
def t_p5 (K : PySem.W.Frag) : TS :=
 (tSeq (tAsg (tCB (rTupOf K) (tCons (uLc (iTup K (tV 6)) (gTup K 3 (gCons (gName 15) (gCons (gName 16) (gCons (gName 17) gNil)))) (tBo (tOp fLt (tV 15) (tV 16))) (tTup (tCons (tV 15) (tCons (tV 16) (tCons (tSl rSlS (tV 2) (tPart (tV 15)) (tPart (tV 16))) tNil)))) ([("_law_start", 15), ("_law_stop", 16), ("_law_put", 17)].map (·.2))) tNil)) (gName 12))
 (tSeq (tAsg (uCall (sp_join K) E0 (tCons (tV 2) (tCons (tV 6) (tCons (tV 9) tNil)))) (gName 13))
 (tRet (uAndV (uCall (sp_same K 4) E0 (tCons (tV 13) (tCons (tV 12) tNil))) (uCall (sp_same K 4) E0 (tCons (uCall (sp_apply K) E0 (tCons (tV 2) (tCons (tV 13) tNil))) (tCons (tV 2) tNil)))))))
end Co.Tx
end

section
set_option maxHeartbeats 4000000
namespace Co.Tx
open PySem PySem.Spec PyProof.Rows L2 Co
section
variable {K : PySem.W.Frag} {vs : List V} {H : Hp} {Q : VK} {E : XK}
theorem oI_map (o : Option Nat) : oI (o.map fun (k : Nat) => (k : Int)) = oN o := by cases o <;> rfl
theorem Row3.lens {ts : Nat → List Nat} {css : Nat → List Pc} (r : Row3 ts css) : (ts 1).length ≤ 618 ∧ (ts 2).length ≤ 636 ∧ (ts 3).length ≤ 654 := by
  have st : ∀ i, i < 3 → (ts (i + 1)).length ≤ (ts i).length + 18 := fun i hi => by
    have := mark_len (r.wf i hi) (Nat.le_refl 0) (Nat.zero_le _)
    rw [r.nx i hi, after_len]
    have := r.tt i hi
    omega
  have h0 := r.l0
  have h1 : (ts 1).length ≤ (ts 0).length + 18 := st 0 (by omega)
  have h2 : (ts 2).length ≤ (ts 1).length + 18 := st 1 (by omega)
  have h3 : (ts 3).length ≤ (ts 2).length + 18 := st 2 (by omega)
  exact ⟨by omega, by omega, by omega⟩
theorem r_carried (h : sp_carried K vs H Q E) : t_Lcarried K E (Dn Q) (start N_Lcarried vs) H := by
  unfold sp_carried at h
  split at h
  · rename_i s c p
    obtain ⟨ts, css, as, ss, cl, p', hs, hc, r3, hi3, rfl, hp, k⟩ := h
    refine ⟨3, rfl, by decide, by decide, ?_⟩
    refine for_range (lo := 0) (n := 3) (fun i σ' H' => ∃ (z3 : Option V), σ' = [some (.ref s), some (.ref c), some (oN (vO ts css p' i)), z3] ∧ H' = H ∧ (∀ k, vO ts css p' i = some k → k ≤ (ts i).length)) ⟨none, rfl, rfl, fun k e => by cases e; exact hp⟩ ?_ ?_
    · rintro i σ' H' hi ⟨z3, rfl, rfl, hk⟩
      obtain ⟨e1, e2, e3⟩ := hi3 i hi
      have e0 : (0 : Int) + (i : Int) = (i : Int) := Int.zero_add _
      rw [e0]
      have nxt : ∀ k, vO ts css p' (i + 1) = some k → k ≤ (ts (i + 1)).length := fun k e => by
        have e : (vO ts css p' i).bind (car (ts i) (css i)) = some k := e
        obtain ⟨j, h1, h2⟩ := Option.bind_eq_some_iff.mp e
        rw [r3.nx i hi]
        exact car_le h2
      cases hv : vO ts css p' i with
      | none =>
        refine ⟨fun e => (nomatch e), fun _ => ?_⟩
        refine ⟨some (.int (i : Int)), ?_, rfl, nxt⟩
        have : vO ts css p' (i + 1) = none := by
          show (vO ts css p' i).bind _ = none
          rw [hv]
          rfl
        rw [this]
        rfl
      | some j =>
        refine ⟨fun _ => ?_, fun e => (nomatch e)⟩
        refine .inl ⟨s, ss, _, _, rfl, rfl, hs, atI_nat e1, .inl ⟨c, cl, _, _, rfl, rfl, hc, atI_nat e2, ?_⟩⟩
        have htt := r3.tt i hi
        refine ⟨(ts i).length, css i, j, rfl, rfl, e3, by omega, ?_⟩
        refine ⟨some (.int (i : Int)), ?_, rfl, nxt⟩
        have : vO ts css p' (i + 1) = car (ts i) (css i) j := by
          show (vO ts css p' i).bind _ = _
          rw [hv]
          rfl
        rw [this, carry_car (r3.wf i hi) (hk j hv), oI_map]
        rfl
    · rintro σ' H' ⟨z3, rfl, rfl, hk⟩
      exact k
  · exact h.elim
end
end Co.Tx
end

section
set_option maxHeartbeats 4000000
namespace Co.Tx
open PySem PySem.Spec PyProof.Rows L2 Co
section
variable {K : PySem.W.Frag} {vs : List V} {H : Hp} {Q : VK} {E : XK}
structure L5 (K : PySem.W.Frag) (G : Hp) (p q T C : Addr) (ts : Nat → List Nat) (css : Nat → List Pc) (as : Nat → Addr) : Prop where
  po : PoolAt G p q
  eT : G T = some (.lst ((List.range 4).map fun i => V.str (S (ts i))))
  eC : G C = some (.lst ((List.range 3).map fun i => V.ref (as i)))
  ch : ∀ i, i < 3 → ∃ xs, G (as i) = some (.lst xs) ∧ Rw fC G xs (css i)
  nT : T ≠ p
  nC : C ≠ p
  na : ∀ i, i < 3 → as i ≠ p
  r3 : Row3 ts css
theorem L5.fr {G G' : Hp} {p q T C : Addr} {ts : Nat → List Nat} {css : Nat → List Pc} {as : Nat → Addr} (L : L5 K G p q T C ts css as) (f : Fr [p] G G') (P : PoolAt G' p q) : L5 K G' p q T C ts css as :=
  ⟨P, f.at1 L.eT L.nT, f.at1 L.eC L.nC, fun i hi => let ⟨xs, h1, h2⟩ := L.ch i hi; ⟨xs, f.at1 h1 (L.na i hi), h2.kt (pool_kt L.po f)⟩, L.nT, L.nC, L.na, L.r3⟩
theorem L5.same {G G' : Hp} {p q T C : Addr} {ts : Nat → List Nat} {css : Nat → List Pc} {as : Nat → Addr} (L : L5 K G p q T C ts css as) (s : Same G G') : L5 K G' p q T C ts css as := L.fr (Fr.of s) (L.po.same s)
theorem L5.chg {G : Hp} {p q T C : Addr} {ts : Nat → List Nat} {css : Nat → List Pc} {as : Nat → Addr} (L : L5 K G p q T C ts css as) {i : Nat} (hi : i < 3) : Chg K G (as i) (css i) := let ⟨xs, h1, h2⟩ := L.ch i hi; ⟨xs, .inl (SqL.of h1), h2⟩
def ChT (G : Hp) (a : Addr) (cs : List Pc) : Prop := ∃ xs, G a = some (.tup xs) ∧ Rw fC G xs cs
theorem ChT.kt {G G' : Hp} {a : Addr} {cs : List Pc} (h : ChT G a cs) (k : Kt G G') : ChT G' a cs := let ⟨xs, h1, h2⟩ := h; ⟨xs, k _ _ h1, h2.kt k⟩
theorem ChT.chg {G : Hp} {a : Addr} {cs : List Pc} (h : ChT G a cs) : Chg K G a cs := let ⟨xs, h1, h2⟩ := h; ⟨xs, .inr (SqT.of h1), h2⟩
theorem sm_chT {G : Hp} {a b : Addr} {cs : List Pc} {QB : Hp → Prop} (h : ChT G a cs) (h' : ChT G b cs) (hl : cs.length ≤ 100000) (k : ∀ H', Same G H' → QB H') : SmB K 4 (.ref a) (.ref b) G QB :=
  let ⟨xs, h1, h2⟩ := h; let ⟨ys, h3, h4⟩ := h'; sm_rowsT (n := 1) (SqT.of h1) h2 (SqT.of h3) h4 fC_sc hl fC_len k
abbrev J3 (ts : Nat → List Nat) (css : Nat → List Pc) : List Pc := joinC (ts 0) (joinC (ts 0) (css 0) (css 1)) (css 2)
structure Fa3 (ts : Nat → List Nat) (css : Nat → List Pc) : Prop where
  w0 : WfC (ts 0).length 0 (css 0)
  w1 : WfC (after (ts 0) (css 0)).length 0 (css 1)
  w2 : WfC (finJ (ts 0) (css 0) (css 1)).length 0 (css 2)
  w01 : WfC (ts 0).length 0 (joinC (ts 0) (css 0) (css 1))
  w2' : WfC (after (ts 0) (joinC (ts 0) (css 0) (css 1))).length 0 (css 2)
  e1 : after (ts 0) (css 0) = ts 1
  e2 : finJ (ts 0) (css 0) (css 1) = ts 2
  e2' : after (ts 0) (joinC (ts 0) (css 0) (css 1)) = ts 2
  e3 : after (ts 2) (css 2) = ts 3
  wJ : WfC (ts 0).length 0 (J3 ts css)
  eJ : after (ts 0) (J3 ts css) = ts 3
  t01 : tot (joinC (ts 0) (css 0) (css 1)) ≤ 637
  tJ : tot (J3 ts css) ≤ 655
  lJ : (J3 ts css).length ≤ 601
theorem Row3.fa {ts : Nat → List Nat} {css : Nat → List Pc} (r : Row3 ts css) : Fa3 ts css := by
  obtain ⟨l1, l2, l3⟩ := r.lens
  have l0 := r.l0
  have e1 : ts 1 = after (ts 0) (css 0) := r.nx 0 (by omega)
  have e2 : ts 2 = after (ts 1) (css 1) := r.nx 1 (by omega)
  have e3 : ts 3 = after (ts 2) (css 2) := r.nx 2 (by omega)
  have w0 := r.wf 0 (by omega)
  have w1 := r.wf 1 (by omega)
  have w2 := r.wf 2 (by omega)
  have w1' : WfC (after (ts 0) (css 0)).length 0 (css 1) := e1 ▸ w1
  have f2 : finJ (ts 0) (css 0) (css 1) = ts 2 := by
    show after (after (ts 0) (css 0)) (css 1) = _
    rw [← e1, ← e2]
  have w2f : WfC (finJ (ts 0) (css 0) (css 1)).length 0 (css 2) := by rw [f2]; exact w2
  have a2 : after (ts 0) (joinC (ts 0) (css 0) (css 1)) = ts 2 := (joinC_aft w0 w1').trans f2
  have w2' : WfC (after (ts 0) (joinC (ts 0) (css 0) (css 1))).length 0 (css 2) := by rw [a2]; exact w2
  have w01 := joinC_wf w0 w1'
  have wJ := joinC_wf w01 w2'
  have fJ : finJ (ts 0) (joinC (ts 0) (css 0) (css 1)) (css 2) = ts 3 := by
    show after (after (ts 0) (joinC (ts 0) (css 0) (css 1))) (css 2) = _
    rw [a2, ← e3]
  have t01 := joinC_tot w0 w1'
  have tJ : tot (J3 ts css) ≤ (finJ (ts 0) (joinC (ts 0) (css 0) (css 1)) (css 2)).length + 1 := joinC_tot w01 w2'
  rw [f2] at t01
  rw [fJ] at tJ
  have lJ : (J3 ts css).length ≤ (ts 0).length + 1 - 0 := wf_count wJ
  exact ⟨w0, w1', w2f, w01, w2', e1.symm, f2, a2, e3.symm, wJ, (joinC_aft w01 w2').trans fJ, by omega, by omega, by omega⟩
theorem atT {f : Nat → V} {n i : Nat} (h : i < n) : atI ((List.range n).map f) (i : Int) = some (f i) := atI_nat (by rw [List.getElem?_map, List.getElem?_range h]; rfl)
theorem p5 {a p q T C v du : Addr} {z5 z7 z8 z10 z11 : Option V} {ts : Nat → List Nat} {css : Nat → List Pc} {as : Nat → Addr} (L : L5 K H p q T C ts css as) (hv : ChT H v (J3 ts css)) (hd : ChT H du (invN (ts 0) 0 0 (J3 ts css))) (kk : ∀ H', Q (.bl true) H') :
    t_p5 K (Dn Q) [some (.ref a), some (.ref p), some (.str (S (ts 0))), some (.ref T), some (.ref C), z5, some (.ref v), z7, z8, some (.ref du), z10, z11, none, none, none, none, none, none] H := by
  have F := L.r3.fa
  have l0 := L.r3.l0
  obtain ⟨l1, l2, l3⟩ := L.r3.lens
  have hL : (S (ts 0)).length ≤ sizeLine := by rw [S_len, sizeLine_eq]; omega
  obtain ⟨xs, ev, Rv⟩ := id hv
  refine ⟨v, rfl, ⟨xs, SqT.of ev⟩, lcW (wk_tup (xs := xs)) fun D hD => ?_⟩
  refine ⟨fun i G => ∃ ys, G D = some (.lst ys) ∧ Rw fC G ys (keepP (ts 0) ((J3 ts css).take i)) ∧ Same H G, ⟨[], upd_same, Rw.nil, same_new (Same.refl _) hD⟩, fun i G _ ⟨_, _, _, s⟩ => sqT_same s (SqT.of ev), ?_, ?_⟩
  · rintro i x G hx ⟨ys, g1, g2, g3⟩
    obtain ⟨c, l, hc, rfl, hl2⟩ := (Rv.kt (Kt.same g3)).get hx
    have hci : i < (J3 ts css).length := (List.getElem?_eq_some_iff.mp hc).1
    have lJ := F.lJ
    obtain ⟨w1, w2, w3, w4⟩ := wf_mem F.wJ (List.mem_of_getElem? hc)
    have ht : (J3 ts css).take (i + 1) = (J3 ts css).take i ++ [c] := by rw [List.take_add_one, hc]; rfl
    have hkl : (keepP (ts 0) ((J3 ts css).take i)).length ≤ i := by
      unfold keepP
      rw [List.length_map]
      refine Nat.le_trans (List.length_filter_le _ _) ?_
      rw [List.length_take]
      exact Nat.min_le_left _ _
    refine ⟨l, _, rfl, SqT.of hl2, rfl, _, _, rfl, _, _, rfl, _, _, rfl, rfl, rfl, oneD (fun e => ?_) (fun e => ?_)⟩
    · refine ⟨_, rfl, _, rfl, _, rfl, hL, by show 3 ≤ sizeLine; rw [sizeLine_eq]; omega, fun l' hl' => ?_⟩
      have e1 := keep_new (o' := .tup [.int (c.s : Int), .int (c.e : Int), .str (cutS (S (ts 0)) (some (c.s : Int)) (some (c.e : Int)))]) hl' g1
      refine ⟨_, e1, by rw [g2.len, sizeLine_eq]; omega, _, upd_same, ?_, same_loc (same_new g3 hl') hD⟩
      have ek : keepP (ts 0) ((J3 ts css).take (i + 1)) = keepP (ts 0) ((J3 ts css).take i) ++ [⟨c.s, c.e, slc (ts 0) c.s c.e⟩] := by
        rw [ht]
        unfold keepP
        rw [List.filter_append, List.map_append, List.filter_cons_of_pos (by simp; omega)]
        rfl
      rw [ek]
      refine (g2.kt ((Kt.new hl').trans (Kt.lst e1))).app (Rw.one ((Kt.lst e1) _ _ (upd_same.trans (congrArg (fun z => some (HO.tup z)) ?_))))
      show [V.int (c.s : Int), V.int (c.e : Int), V.str (cutS (S (ts 0)) (some (c.s : Int)) (some (c.e : Int)))] = [V.int (c.s : Int), V.int (c.e : Int), V.str (S (slc (ts 0) c.s c.e))]
      rw [cutS_slc w3]
    · have ek : keepP (ts 0) ((J3 ts css).take (i + 1)) = keepP (ts 0) ((J3 ts css).take i) := by
        rw [ht]
        unfold keepP
        rw [List.filter_append, List.map_append, List.filter_cons_of_neg (by simp; omega)]
        simp
      exact ⟨ys, g1, by rw [ek]; exact g2, g3⟩
  · rintro G ⟨ys, g1, g2, g3⟩
    rw [Rv.len, List.take_length] at g2
    refine ⟨D, ys, rfl, .inl ⟨SqL.of g1, fun kt hkt => ?_⟩⟩
    have s1 : Same H (upd G kt (.tup ys)) := same_new g3 hkt
    have hK : ChT (upd G kt (.tup ys)) kt (keepP (ts 0) (J3 ts css)) := ⟨ys, upd_same, g2.kt (Kt.new hkt)⟩
    have tJ := F.tJ
    have it := (inv_tot (old := 0) (new := 0) F.wJ).2
    have wI : WfC (after (ts 0) (J3 ts css)).length 0 (invN (ts 0) 0 0 (J3 ts css)) := invN_wf F.wJ
    refine ⟨ts 0, J3 ts css, invN (ts 0) 0 0 (J3 ts css), rfl, by omega, (hv.kt (Kt.same s1)).chg, (hd.kt (Kt.same s1)).chg, F.wJ, wI, fun bo bs G2 hb eb Rb s2 => ?_⟩
    have hB : ChT G2 bo (keepP (ts 0) (J3 ts css)) := ⟨bs, eb, by rw [← join_inv F.wJ]; exact Rb⟩
    have wK := keep_wf F.wJ
    have wc := wf_count wK
    refine sm_chT hB (hK.kt (Kt.same s2)) (by omega) fun G3 s3 => ⟨fun _ => ?_, fun e => (nomatch e)⟩
    have tK := joinC_tot F.wJ wI
    have aK := joinC_aft F.wJ wI
    have eK : finJ (ts 0) (J3 ts css) (invN (ts 0) 0 0 (J3 ts css)) = ts 0 := after_inv F.wJ
    rw [join_inv F.wJ] at tK aK
    rw [eK] at tK aK
    refine ⟨ts 0, keepP (ts 0) (J3 ts css), rfl, by omega, (hB.kt (Kt.same s3)).chg, wK, fun G4 s4 => ?_⟩
    rw [aK]
    exact sm_sc (n := 3) (v := .str (S (ts 0))) rfl fun G5 s5 => kk _
theorem car_J {ts : Nat → List Nat} {css : Nat → List Pc} (F : Fa3 ts css) (m : Nat) : car (ts 0) (J3 ts css) m = vO ts css m 3 := by
  show car (ts 0) (joinC (ts 0) (joinC (ts 0) (css 0) (css 1)) (css 2)) m = ((((some m).bind (car (ts 0) (css 0))).bind (car (ts 1) (css 1))).bind (car (ts 2) (css 2)))
  rw [car_join F.w01 F.w2', car_join F.w0 F.w1, F.e1, F.e2']
  rfl
theorem p4 {a p q T C v du : Addr} {z5 z7 z8 : Option V} {ts : Nat → List Nat} {css : Nat → List Pc} {as : Nat → Addr} (L : L5 K H p q T C ts css as) (hv : ChT H v (J3 ts css)) (hd : ChT H du (invN (ts 0) 0 0 (J3 ts css))) (kk : ∀ H', Q (.bl true) H') :
    t_p4 K (Dn Q) [some (.ref a), some (.ref p), some (.str (S (ts 0))), some (.ref T), some (.ref C), z5, some (.ref v), z7, z8, some (.ref du), none, none, none, none, none, none, none, none] H := by
  have F := L.r3.fa
  have l0 := L.r3.l0
  obtain ⟨l1, l2, l3⟩ := L.r3.lens
  have hL : (S (ts 0)).length ≤ sizeLine := by rw [S_len, sizeLine_eq]; omega
  have hLe := S_len (ts 0)
  have hall : ∀ i, i < 4 → (ts i).length ≤ 654 := fun i hi => by
    rcases (by omega : i = 0 ∨ i = 1 ∨ i = 2 ∨ i = 3) with rfl | rfl | rfl | rfl <;> omega
  refine ⟨T, rfl, ⟨_, SqL.of L.eT⟩, lcVal (ws := (List.range 4).map fun i => V.int ((S (ts i)).length : Int)) (wk_list (xs := (List.range 4).map fun i => V.str (S (ts i)))) (by simp) (by simp) (fun G s => s.seq (SqL.of L.eT)) ?_ fun sz H1 hsz e1 s1 => ?_⟩
  · intro i x y G Q' hx hy s q
    rw [List.getElem?_map] at hx hy
    obtain ⟨j, hj, rfl⟩ := Option.map_eq_some_iff.mp hx
    rw [hj] at hy
    cases Option.some.inj hy
    have hj4 : j < 4 := List.mem_range.mp (List.mem_of_getElem? hj)
    have := hall j hj4
    exact ⟨rfl, by rw [S_len, sizeLine_eq]; omega, q⟩
  have L1 := L.same s1
  refine ⟨hL, hL, ⟨by decide, by decide⟩, by show 3 ≤ sizeLine; rw [sizeLine_eq]; omega, fun pl hpl => ?_⟩
  have s2 : Same H1 (upd H1 pl (.lst [.int 0, .int ((S (ts 0)).length : Int), .int (((S (ts 0)).length : Int) / 2)])) := same_new (Same.refl _) hpl
  have L2' := L1.same s2
  refine ⟨8, rfl, by decide, by decide, lcW (wk_rng (lo := 0) (n := 8)) fun D hD => ?_⟩
  obtain ⟨np1, np2⟩ := ne_pool hD L2'.po
  refine ⟨fun i G => ∃ ms : List Nat, G D = some (.lst (ms.map fun (m : Nat) => V.int (m : Int))) ∧ ms.length = i ∧ (∀ m ∈ ms, m ≤ (ts 0).length) ∧ PoolAt G p q ∧ Fr [p] (upd H1 pl (.lst [.int 0, .int ((S (ts 0)).length : Int), .int (((S (ts 0)).length : Int) / 2)])) G, ⟨[], upd_same, rfl, by simp, L2'.po.same (same_new (Same.refl _) hD), Fr.of (same_new (Same.refl _) hD)⟩, fun _ _ _ _ => trivial, ?_, ?_⟩
  · rintro i x G hx ⟨ms, g1, g2, g3, g4, g5⟩
    have hi := (rgV_get hx).1
    refine ⟨rfl, ⟨fun _ => ⟨hL, ?_⟩, fun e => (nomatch e)⟩⟩
    refine ⟨by decide, q, g4.take, by omega, by omega, fun r G2 v1 v2 P2 f2 => ?_⟩
    have e2 := f2.at1 g1 np1
    obtain ⟨vn, rfl⟩ : ∃ n : Nat, r = (n : Int) := ⟨r.toNat, by omega⟩
    refine ⟨_, e2, by rw [List.length_map, sizeLine_eq]; omega, ms ++ [vn], ?_, by simp [g2], ?_, P2.fr (S := [D]) ((Fr.refl _ _).wr (by simp)) (by simp [np1.symm]) (by simp [np2.symm]), (g5.trans f2).loc hD⟩
    · rw [upd_same, List.map_append]
      rfl
    · intro m hm
      rcases List.mem_append.mp hm with hm | hm
      · exact g3 m hm
      · rw [List.mem_singleton] at hm
        omega
  · rintro G ⟨ms, g1, g2, g3, g4, g5⟩
    have npl : pl ≠ p := (ne_pool hpl L1.po).1
    have epl := g5.at1 upd_same npl
    refine ⟨pl, D, _, _, rfl, rfl, epl, g1, by rw [List.length_map, g2, sizeLine_eq, rgV_len]; show 3 + 8 ≤ _; omega, fun r hr => ⟨r, rfl, ⟨_, SqL.of upd_same⟩, ?_⟩⟩
    have elist : ([V.int 0, .int ((S (ts 0)).length : Int), .int (((S (ts 0)).length : Int) / 2)] ++ ms.map fun (m : Nat) => V.int (m : Int)) = (([0, (S (ts 0)).length, (S (ts 0)).length / 2] ++ ms).map fun (m : Nat) => V.int (m : Int)) := by
      rw [List.map_append]
      rfl
    rw [elist]
    have s3 : Same G (upd G r (.lst (([0, (S (ts 0)).length, (S (ts 0)).length / 2] ++ ms).map fun (m : Nat) => V.int (m : Int)))) := same_new (Same.refl _) hr
    have L3 := (L2'.fr g5 g4).same s3
    have kG : Kt H (upd G r (.lst (([0, (S (ts 0)).length, (S (ts 0)).length / 2] ++ ms).map fun (m : Nat) => V.int (m : Int)))) := (Kt.same (s1.trans s2)).trans ((pool_kt L2'.po g5).trans (Kt.same s3))
    have nsz : sz ≠ p := (ne_pool hsz L.po).1
    have esz := s3 _ _ (g5.at1 (s2 _ _ e1) nsz)
    have er : (upd G r (.lst (([0, (S (ts 0)).length, (S (ts 0)).length / 2] ++ ms).map fun (m : Nat) => V.int (m : Int)))) r = some (.lst (([0, (S (ts 0)).length, (S (ts 0)).length / 2] ++ ms).map fun (m : Nat) => V.int (m : Int))) := upd_same
    generalize upd G r (.lst (([0, (S (ts 0)).length, (S (ts 0)).length / 2] ++ ms).map fun (m : Nat) => V.int (m : Int))) = G3 at L3 kG esz er
    have hv3 := hv.kt kG
    have hd3 := hd.kt kG
    refine forW (wk_list (xs := ([0, (S (ts 0)).length, (S (ts 0)).length / 2] ++ ms).map fun (m : Nat) => V.int (m : Int))) (fun i σ' H' => ∃ (z11 : Option V), σ' = [some (.ref a), some (.ref p), some (.str (S (ts 0))), some (.ref T), some (.ref C), z5, some (.ref v), z7, z8, some (.ref du), some (.ref sz), z11, none, none, none, none, none, none] ∧ Same G3 H')
      ⟨none, rfl, Same.refl _⟩ (fun i σ' H' _ ⟨_, _, s⟩ => s.seq (SqL.of er)) ?_ ?_
    · rintro i x σ' H' hx ⟨z11, rfl, s⟩
      rw [List.getElem?_map] at hx
      obtain ⟨m, hm1, rfl⟩ := Option.map_eq_some_iff.mp hx
      have hm : m ≤ (ts 0).length := by
        rcases List.mem_append.mp (List.mem_of_getElem? hm1) with hm | hm
        · simp only [List.mem_cons, List.not_mem_nil, or_false] at hm
          omega
        · exact g3 m hm
      have L4 := L3.same s
      have tJ := F.tJ
      refine ⟨hL, (ts 0).length, J3 ts css, m, rfl, rfl, (hv3.kt (Kt.same s)).chg, by omega, ?_⟩
      refine ⟨ts, css, as, _, _, m, SqL.of (s _ _ esz), SqL.of L4.eC, L4.r3, fun i hi => ⟨?_, ?_, L4.chg hi⟩, rfl, hm, ?_⟩
      · rw [List.getElem?_map, List.getElem?_range (by omega)]
        rfl
      · rw [List.getElem?_map, List.getElem?_range (by omega)]
        rfl
      · rw [carry_car F.wJ hm, oI_map, car_J F]
        exact sm_sc (K := K) (n := 3) (v := oN (vO ts css m 3)) (by cases vO ts css m 3 <;> rfl) fun H5 s5 => ⟨fun e => (nomatch e), fun _ => ⟨some (.int (m : Int)), rfl, s.trans s5⟩⟩
    · rintro σ' H' ⟨z11, rfl, s⟩
      exact p5 (L3.same s) (hv3.kt (Kt.same s)) (hd3.kt (Kt.same s)) kk
structure Fb3 (ts : Nat → List Nat) (css : Nat → List Pc) : Prop where
  w2 : WfC (ts 3).length 0 (invN (ts 2) 0 0 (css 2))
  w1 : WfC (after (ts 3) (invN (ts 2) 0 0 (css 2))).length 0 (invN (ts 1) 0 0 (css 1))
  w21 : WfC (ts 3).length 0 (joinC (ts 3) (invN (ts 2) 0 0 (css 2)) (invN (ts 1) 0 0 (css 1)))
  w0 : WfC (after (ts 3) (joinC (ts 3) (invN (ts 2) 0 0 (css 2)) (invN (ts 1) 0 0 (css 1)))).length 0 (invN (ts 0) 0 0 (css 0))
  eq : joinC (ts 3) (joinC (ts 3) (invN (ts 2) 0 0 (css 2)) (invN (ts 1) 0 0 (css 1))) (invN (ts 0) 0 0 (css 0)) = invN (ts 0) 0 0 (J3 ts css)
  t : tot (invN (ts 2) 0 0 (css 2)) ≤ 636 ∧ tot (invN (ts 1) 0 0 (css 1)) ≤ 618 ∧ tot (invN (ts 0) 0 0 (css 0)) ≤ 600 ∧ tot (joinC (ts 3) (invN (ts 2) 0 0 (css 2)) (invN (ts 1) 0 0 (css 1))) ≤ 619 ∧ tot (invN (ts 0) 0 0 (J3 ts css)) ≤ 600 ∧ (invN (ts 0) 0 0 (J3 ts css)).length ≤ 601
theorem Row3.fb {ts : Nat → List Nat} {css : Nat → List Pc} (r : Row3 ts css) : Fb3 ts css := by
  have F := r.fa
  obtain ⟨l1, l2, l3⟩ := r.lens
  have l0 := r.l0
  have v0 := r.wf 0 (by omega)
  have v1 := r.wf 1 (by omega)
  have v2 := r.wf 2 (by omega)
  have e2 : after (ts 1) (css 1) = ts 2 := (r.nx 1 (by omega)).symm
  have i2 := invN_wf v2
  have i1 := invN_wf v1
  have i0 := invN_wf v0
  rw [F.e3] at i2
  rw [e2] at i1
  rw [F.e1] at i0
  have a2 : after (ts 3) (invN (ts 2) 0 0 (css 2)) = ts 2 := by
    have := after_inv v2
    rwa [F.e3] at this
  have a1 : after (ts 2) (invN (ts 1) 0 0 (css 1)) = ts 1 := by
    have := after_inv v1
    rwa [e2] at this
  have w1 : WfC (after (ts 3) (invN (ts 2) 0 0 (css 2))).length 0 (invN (ts 1) 0 0 (css 1)) := by rw [a2]; exact i1
  have f21 : finJ (ts 3) (invN (ts 2) 0 0 (css 2)) (invN (ts 1) 0 0 (css 1)) = ts 1 := by
    show after (after _ _) _ = _
    rw [a2, a1]
  have w21 := joinC_wf i2 w1
  have a21 := (joinC_aft i2 w1).trans f21
  have w0 : WfC (after (ts 3) (joinC (ts 3) (invN (ts 2) 0 0 (css 2)) (invN (ts 1) 0 0 (css 1)))).length 0 (invN (ts 0) 0 0 (css 0)) := by rw [a21]; exact i0
  have w0' : WfC (finJ (ts 3) (invN (ts 2) 0 0 (css 2)) (invN (ts 1) 0 0 (css 1))).length 0 (invN (ts 0) 0 0 (css 0)) := by rw [f21]; exact i0
  have eq : joinC (ts 3) (joinC (ts 3) (invN (ts 2) 0 0 (css 2)) (invN (ts 1) 0 0 (css 1))) (invN (ts 0) 0 0 (css 0)) = invN (ts 0) 0 0 (J3 ts css) := by
    rw [join_assoc i2 w1 w0', a2]
    show _ = invN (ts 0) 0 0 (joinC (ts 0) (joinC (ts 0) (css 0) (css 1)) (css 2))
    rw [inv_join F.w01 F.w2', inv_join F.w0 F.w1]
    have e4 : finJ (ts 0) (joinC (ts 0) (css 0) (css 1)) (css 2) = ts 3 := by
      show after (after _ _) _ = _
      rw [F.e2', F.e3]
    rw [e4, F.e2', F.e2, F.e1]
  have t2 := (inv_tot (old := 0) (new := 0) v2).2
  have t1 := (inv_tot (old := 0) (new := 0) v1).2
  have t0 := (inv_tot (old := 0) (new := 0) v0).2
  have tJ := (inv_tot (old := 0) (new := 0) F.wJ).2
  have t21 := joinC_tot i2 w1
  rw [f21] at t21
  have lJ := F.lJ
  have ln := invN_len (t := ts 0) (J3 ts css) 0 0
  exact ⟨i2, w1, w21, w0, eq, by omega, by omega, by omega, by omega, by omega, by omega⟩
theorem three_of {α : Type} {l : List α} (h : l.length = 3) : ∃ x y z, l = [x, y, z] := by
  match l, h with
  | [x, y, z], _ => exact ⟨x, y, z, rfl⟩
theorem p3 {a p q T C v : Addr} {z5 z7 : Option V} {ts : Nat → List Nat} {css : Nat → List Pc} {as : Nat → Addr} (L : L5 K H p q T C ts css as) (hv : ChT H v (J3 ts css)) (kk : ∀ H', Q (.bl true) H') :
    t_p3 K (Dn Q) [some (.ref a), some (.ref p), some (.str (S (ts 0))), some (.ref T), some (.ref C), z5, some (.ref v), z7, none, none, none, none, none, none, none, none, none, none] H := by
  have F := L.r3.fa
  have Fb := L.r3.fb
  have l0 := L.r3.l0
  obtain ⟨l1, l2, l3⟩ := L.r3.lens
  obtain ⟨b1, b2, b3, b4, b5, b6⟩ := Fb.t
  have hall : ∀ i, i < 4 → (ts i).length ≤ 654 := fun i hi => by
    rcases (by omega : i = 0 ∨ i = 1 ∨ i = 2 ∨ i = 3) with rfl | rfl | rfl | rfl <;> omega
  refine ⟨3, rfl, by decide, by decide, lcW (wk_rng (lo := 0) (n := 3)) fun D hD => ?_⟩
  refine ⟨fun i G => ∃ bs : List Addr, G D = some (.lst (bs.map V.ref)) ∧ bs.length = i ∧ (∀ (j : Nat) b, bs[j]? = some b → ChT G b (invN (ts j) 0 0 (css j))) ∧ Same H G, ⟨[], upd_same, rfl, fun j b e => by simp at e, same_new (Same.refl _) hD⟩, fun _ _ _ _ => trivial, ?_, ?_⟩
  · rintro i x G hx ⟨bs, g1, g2, g3, g4⟩
    obtain ⟨hi, rfl⟩ := rgV_get hx
    have hi : i < 3 := hi
    have LG := L.same g4
    have htt := L.r3.tt i hi
    have hli := hall i (by omega)
    rw [Int.zero_add]
    refine ⟨rfl, ⟨fun _ => ?_, fun e => (nomatch e)⟩⟩
    refine ⟨T, _, _, _, rfl, rfl, SqL.of LG.eT, atT (by omega), ⟨C, _, _, _, rfl, rfl, SqL.of LG.eC, atT hi, ?_⟩⟩
    refine ⟨ts i, css i, rfl, by omega, LG.chg hi, L.r3.wf i hi, fun r ys G2 hr er Rr s2 => ?_⟩
    have e2 := s2 _ _ g1
    refine ⟨_, e2, by rw [List.length_map, sizeLine_eq]; omega, bs ++ [r], ?_, by simp [g2], ?_, same_loc (g4.trans s2) hD⟩
    · rw [upd_same, List.map_append]
      rfl
    · intro j b hb
      rw [List.getElem?_append] at hb
      split at hb
      · exact (g3 j b hb).kt ((Kt.same s2).trans (Kt.lst e2))
      · rename_i hj
        have : j - bs.length = 0 := by
          by_cases z : j - bs.length = 0
          · exact z
          · rw [List.getElem?_eq_none (by simp; omega)] at hb
            cases hb
        rw [this] at hb
        have hb : r = b := by simpa using hb
        subst hb
        have hj2 : j = i := by omega
        subst hj2
        exact ⟨ys, (Kt.lst e2) _ _ er, Rr.kt (Kt.lst e2)⟩
  · rintro G ⟨bs, g1, g2, g3, g4⟩
    rw [rgV_len] at g2
    obtain ⟨x0, x1, x2, rfl⟩ := three_of g2
    have c0 := g3 0 x0 rfl
    have c1 := g3 1 x1 rfl
    have c2 := g3 2 x2 rfl
    have LG := L.same g4
    have hvG := hv.kt (Kt.same g4)
    refine ⟨T, _, _, _, rfl, rfl, SqL.of LG.eT, atT (i := 3) (by omega), ⟨T, _, _, _, rfl, rfl, SqL.of LG.eT, atT (i := 3) (by omega), ?_⟩⟩
    refine ⟨D, _, _, .ref x2, rfl, rfl, SqL.of g1, rfl, ⟨D, _, _, .ref x1, rfl, rfl, SqL.of g1, rfl, ?_⟩⟩
    refine ⟨ts 3, _, _, rfl, by omega, c2.chg, c1.chg, Fb.w2, Fb.w1, fun m ms G2 hm em Rm s2 => ?_⟩
    have cm : ChT G2 m _ := ⟨ms, em, Rm⟩
    refine ⟨D, _, _, .ref x0, rfl, rfl, SqL.of (s2 _ _ g1), rfl, ?_⟩
    refine ⟨ts 3, _, _, rfl, by omega, cm.chg, (c0.kt (Kt.same s2)).chg, Fb.w21, Fb.w0, fun du ds G3 hdu edu Rdu s3 => ?_⟩
    have cdu : ChT G3 du (invN (ts 0) 0 0 (J3 ts css)) := ⟨ds, edu, by rw [← Fb.eq]; exact Rdu⟩
    have s13 := s2.trans s3
    have tJ := F.tJ
    refine ⟨ts 0, J3 ts css, rfl, by omega, (hvG.kt (Kt.same s13)).chg, F.wJ, fun iv' is G4 hiv eiv Riv s4 => ?_⟩
    have civ : ChT G4 iv' (invN (ts 0) 0 0 (J3 ts css)) := ⟨is, eiv, Riv⟩
    refine sm_chT civ (cdu.kt (Kt.same s4)) (by omega) fun G5 s5 => ⟨fun e => (nomatch e), fun _ => ?_⟩
    have s45 := s4.trans s5
    exact p4 (LG.same (s13.trans s45)) (hvG.kt (Kt.same (s13.trans s45))) (cdu.kt (Kt.same s45)) kk
theorem p2 {a p q T C : Addr} {z5 : Option V} {ts : Nat → List Nat} {css : Nat → List Pc} {as : Nat → Addr} (L : L5 K H p q T C ts css as) (kk : ∀ H', Q (.bl true) H') :
    t_p2 K (Dn Q) [some (.ref a), some (.ref p), some (.str (S (ts 0))), some (.ref T), some (.ref C), z5, none, none, none, none, none, none, none, none, none, none, none, none] H := by
  have F := L.r3.fa
  have l0 := L.r3.l0
  obtain ⟨l1, l2, l3⟩ := L.r3.lens
  have t0 := L.r3.tt 0 (by omega)
  have t1 := L.r3.tt 1 (by omega)
  have t2 := L.r3.tt 2 (by omega)
  have t01 := F.t01
  have tJ := F.tJ
  have lJ := F.lJ
  refine ⟨C, _, _, _, rfl, rfl, SqL.of L.eC, atT (i := 0) (by omega), ⟨C, _, _, _, rfl, rfl, SqL.of L.eC, atT (i := 1) (by omega), ?_⟩⟩
  refine ⟨ts 0, css 0, css 1, rfl, by omega, L.chg (by omega), L.chg (by omega), F.w0, F.w1, fun m ms G1 hm em Rm s1 => ?_⟩
  have cm : ChT G1 m (joinC (ts 0) (css 0) (css 1)) := ⟨ms, em, Rm⟩
  have L1 := L.same s1
  refine ⟨C, _, _, _, rfl, rfl, SqL.of L1.eC, atT (i := 2) (by omega), ?_⟩
  refine ⟨ts 0, _, css 2, rfl, by omega, cm.chg, L1.chg (by omega), F.w01, F.w2', fun v vs' G2 hv ev Rv s2 => ?_⟩
  have cv : ChT G2 v (J3 ts css) := ⟨vs', ev, Rv⟩
  have L2' := L1.same s2
  refine ⟨C, _, _, _, rfl, rfl, SqL.of L2'.eC, atT (i := 0) (by omega), ?_⟩
  refine ⟨T, _, _, _, rfl, rfl, SqL.of L2'.eT, atT (i := 1) (by omega), ⟨C, _, _, _, rfl, rfl, SqL.of L2'.eC, atT (i := 1) (by omega), ⟨C, _, _, _, rfl, rfl, SqL.of L2'.eC, atT (i := 2) (by omega), ?_⟩⟩⟩
  have w1 := L.r3.wf 1 (by omega)
  have w2 := L.r3.wf 2 (by omega)
  have e2 : after (ts 1) (css 1) = ts 2 := (L.r3.nx 1 (by omega)).symm
  have w2a : WfC (after (ts 1) (css 1)).length 0 (css 2) := by rw [e2]; exact w2
  refine ⟨ts 1, css 1, css 2, rfl, by omega, L2'.chg (by omega), L2'.chg (by omega), w1, w2a, fun m2 ms2 G3 hm2 em2 Rm2 s3 => ?_⟩
  have cm2 : ChT G3 m2 (joinC (ts 1) (css 1) (css 2)) := ⟨ms2, em2, Rm2⟩
  have L3 := L2'.same s3
  have w12 : WfC (after (ts 0) (css 0)).length 0 (joinC (ts 1) (css 1) (css 2)) := by rw [F.e1]; exact joinC_wf w1 w2a
  have t12 : tot (joinC (ts 1) (css 1) (css 2)) ≤ 655 := by
    have h : tot (joinC (ts 1) (css 1) (css 2)) ≤ (after (after (ts 1) (css 1)) (css 2)).length + 1 := joinC_tot w1 w2a
    rw [e2, F.e3] at h
    omega
  refine ⟨ts 0, css 0, joinC (ts 1) (css 1) (css 2), rfl, by omega, L3.chg (by omega), cm2.chg, F.w0, w12, fun w ws G4 hw ew Rw' s4 => ?_⟩
  have eas : joinC (ts 0) (css 0) (joinC (ts 1) (css 1) (css 2)) = J3 ts css := by
    have := join_assoc F.w0 F.w1 F.w2
    rw [F.e1] at this
    exact this.symm
  rw [eas] at Rw'
  have cw : ChT G4 w (J3 ts css) := ⟨ws, ew, Rw'⟩
  refine sm_chT (cv.kt (Kt.same (s3.trans s4))) cw (by omega) fun G5 s5 => ⟨fun e => (nomatch e), fun _ => ?_⟩
  have s25 := (s3.trans s4).trans s5
  refine ⟨ts 0, J3 ts css, rfl, by omega, (cv.kt (Kt.same s25)).chg, F.wJ, fun G6 s6 => ?_⟩
  have L6 := L2'.same (s25.trans s6)
  refine ⟨T, _, _, _, rfl, rfl, SqL.of L6.eT, atT (i := 3) (by omega), ?_⟩
  rw [F.eJ]
  refine sm_sc (n := 3) (v := .str (S (ts 3))) rfl fun G7 s7 => ⟨fun e => (nomatch e), fun _ => ?_⟩
  exact p3 (L6.same s7) (cv.kt (Kt.same ((s25.trans s6).trans s7))) kk
theorem atLast {α : Type} {l : List α} {x : α} : atI (l ++ [x]) (-1) = some x := by
  unfold atI ixN
  rw [if_neg (by decide), if_pos (by rw [List.length_append, List.length_singleton]; omega)]
  show (l ++ [x])[((-1 : Int) + ((l ++ [x]).length : Int)).toNat]? = some x
  rw [List.length_append, List.length_singleton, show ((-1 : Int) + ((l.length + 1 : Nat) : Int)).toNat = l.length by omega]
  simp
theorem rgS (f : Nat → V) (n : Nat) : (List.range (n + 1)).map f = (List.range n).map f ++ [f n] := by rw [List.range_succ, List.map_append]; rfl
theorem rgS2 {f g : Nat → V} {n : Nat} {x : V} (h : ∀ j, j < n → g j = f j) (hx : g n = x) : (List.range n).map f ++ [x] = (List.range (n + 1)).map g := by
  rw [rgS, hx]
  congr 1
  exact List.map_congr_left fun j hj => (h j (List.mem_range.mp hj)).symm
theorem r_law05 (h : sp_law K vs H Q E) : t_law K E (Dn Q) (start N_law vs) H := by
  unfold sp_law at h
  split at h
  · rename_i a
    obtain ⟨ns, hs, hl, kk⟩ := h
    refine ⟨ns, hs, hl, fun p q H1 hp hq P1 S1 => ?_⟩
    refine ⟨q, P1, fun n H2 n0 n1 P2 f2 => ⟨q, P2, n0, by omega, fun t H3 ht P3 f3 => ?_⟩⟩
    refine ⟨by show 1 ≤ sizeLine; rw [sizeLine_eq]; omega, fun T hT => ⟨by show 0 ≤ sizeLine; omega, fun C hC => ?_⟩⟩
    obtain ⟨nTp, nTq⟩ := ne_pool hT P3
    have P4 := P3.same (same_new (o := .lst [.str (S t)]) (Same.refl _) hT)
    obtain ⟨nCp, nCq⟩ := ne_pool hC P4
    have nTC : T ≠ C := fun z => by subst z; rw [upd_same] at hC; cases hC
    refine ⟨3, rfl, by decide, by decide, ?_⟩
    refine for_range (lo := 0) (n := 3) (fun i σ' G => ∃ (z5 : Option V) (ts : Nat → List Nat) (css : Nat → List Pc) (as : Nat → Addr), σ' = [some (.ref a), some (.ref p), some (.str (S (ts 0))), some (.ref T), some (.ref C), z5, none, none, none, none, none, none, none, none, none, none, none, none] ∧
        G T = some (.lst ((List.range (i + 1)).map fun i => V.str (S (ts i)))) ∧ G C = some (.lst ((List.range i).map fun i => V.ref (as i))) ∧ (∀ j, j < i → (∃ xs, G (as j) = some (.lst xs) ∧ Rw fC G xs (css j)) ∧ as j ≠ p ∧ as j ≠ T ∧ as j ≠ C ∧ WfC (ts j).length 0 (css j) ∧ ts (j + 1) = after (ts j) (css j) ∧ tot (css j) ≤ 18) ∧ (∀ j, j ≤ i → (ts j).length ≤ 600 + 18 * j) ∧ PoolAt G p q)
      ⟨none, fun _ => t, fun _ => [], fun _ => 0, rfl, keep_new hC upd_same, upd_same, fun j hj => absurd hj (Nat.not_lt_zero _), fun j hj => by show t.length ≤ _; omega, P4.same (same_new (Same.refl _) hC)⟩ ?_ ?_
    · rintro i σ' G hi ⟨z5, ts, css, as, rfl, g1, g2, g3, g4, g5⟩
      have eT1 : (List.range (i + 1)).map (fun i => V.str (S (ts i))) = (List.range i).map (fun i => V.str (S (ts i))) ++ [V.str (S (ts i))] := rgS _ _
      have hti := g4 i (Nat.le_refl _)
      refine ⟨.inl ⟨rfl, _, SqL.of g2⟩, ⟨T, _, _, .str (S (ts i)), rfl, rfl, SqL.of g1, by rw [eT1]; exact atLast, ?_⟩⟩
      refine ⟨q, ts i, rfl, by omega, g5, fun c xs cs G1 hc e1 R1 w1 tt1 hcl P6 f1 => ?_⟩
      have ncT : c ≠ T := fun z => by subst z; rw [g1] at hc; cases hc
      have ncC : c ≠ C := fun z => by subst z; rw [g2] at hc; cases hc
      have ncp := (ne_pool hc g5).1
      have gT1 := f1.at1 g1 nTp
      have gC1 := f1.at1 g2 nCp
      refine ⟨C, _, _, rfl, rfl, gC1, by rw [List.length_map, List.length_range, sizeLine_eq]; omega, ?_⟩
      have kC : Kt G1 (upd G1 C (.lst ((List.range i).map (fun i => V.ref (as i)) ++ [.ref c]))) := Kt.lst gC1
      have eTC := keep_ne (o' := .lst ((List.range i).map (fun i => V.ref (as i)) ++ [.ref c])) nTC gT1
      have ec2 := keep_ne (o' := .lst ((List.range i).map (fun i => V.ref (as i)) ++ [.ref c])) ncC e1
      refine ⟨.inl ⟨rfl, _, SqL.of eTC⟩, ⟨T, _, _, .str (S (ts i)), rfl, rfl, SqL.of eTC, by rw [eT1]; exact atLast, ⟨C, _, _, .ref c, rfl, rfl, SqL.of upd_same, atLast, ?_⟩⟩⟩
      refine ⟨ts i, cs, .inl rfl, ⟨xs, .inl (SqL.of ec2), R1.kt kC⟩, w1, by omega, fun G3 s3 => ?_⟩
      refine ⟨T, _, _, rfl, rfl, s3 _ _ eTC, by rw [List.length_map, List.length_range, sizeLine_eq]; omega, ?_⟩
      have eTC3 := s3 _ _ eTC
      have kAll : Kt G (upd G3 T (.lst ((List.range (i + 1)).map (fun i => V.str (S (ts i))) ++ [.str (S (after (ts i) cs))]))) := ((pool_kt g5 f1).trans kC).trans ((Kt.same s3).trans (Kt.lst eTC3))
      have keepA : ∀ {b : Addr} {o : HO}, G1 b = some o → b ≠ T → b ≠ C → (upd G3 T (.lst ((List.range (i + 1)).map (fun i => V.str (S (ts i))) ++ [.str (S (after (ts i) cs))]))) b = some o := fun e h1 h2 => keep_ne h1 (s3 _ _ (keep_ne h2 e))
      refine ⟨some (.int (0 + (i : Int))), fun j => if j = i + 1 then after (ts i) cs else ts j, fun j => if j = i then cs else css j, fun j => if j = i then c else as j, ?_, ?_, ?_, fun j hj => ?_, fun j hj => ?_, ?_⟩
      · show _ = [some (V.ref a), some (.ref p), some (.str (S (if 0 = i + 1 then after (ts i) cs else ts 0))), some (.ref T), some (.ref C), _, none, none, none, none, none, none, none, none, none, none, none, none]
        rw [if_neg (by omega)]
        rfl
      · rw [upd_same]
        exact congrArg (fun l => some (HO.lst l)) (rgS2 (g := fun k => V.str (S (if k = i + 1 then after (ts i) cs else ts k))) (fun j hj => by show V.str (S (if j = i + 1 then after (ts i) cs else ts j)) = _; rw [if_neg (by omega)]) (by show V.str (S (if i + 1 = i + 1 then after (ts i) cs else ts (i + 1))) = _; rw [if_pos rfl]))
      · rw [keep_ne nTC.symm (s3 _ _ upd_same)]
        exact congrArg (fun l => some (HO.lst l)) (rgS2 (g := fun k => V.ref (if k = i then c else as k)) (fun j hj => by show V.ref (if j = i then c else as j) = _; rw [if_neg (by omega)]) (by show V.ref (if i = i then c else as i) = _; rw [if_pos rfl]))
      · by_cases z : j = i
        · subst z
          simp only [if_pos, if_neg (show ¬ j = j + 1 by omega)]
          exact ⟨⟨xs, keepA e1 ncT ncC, R1.kt (kC.trans ((Kt.same s3).trans (Kt.lst eTC3)))⟩, ncp, ncT, ncC, w1, trivial, tt1⟩
        · obtain ⟨⟨ys, y1, y2⟩, y3, y4, y5, y6, y7, y8⟩ := g3 j (by omega)
          simp only [if_neg z, if_neg (show ¬ j = i + 1 by omega), if_neg (show ¬ j + 1 = i + 1 by omega)]
          exact ⟨⟨ys, keepA (f1.at1 y1 y3) y4 y5, y2.kt kAll⟩, y3, y4, y5, y6, y7, y8⟩
      · by_cases z : j = i + 1
        · have := mark_len w1 (Nat.le_refl 0) (Nat.zero_le _)
          have hal := after_len (t := ts i) (cs := cs)
          show (if j = i + 1 then after (ts i) cs else ts j).length ≤ _
          rw [if_pos z]
          omega
        · show (if j = i + 1 then after (ts i) cs else ts j).length ≤ _
          rw [if_neg z]
          exact g4 j (by omega)
      · exact ((P6.fr (S := [C]) ((Fr.refl _ _).wr (by simp)) (by simp [nCp.symm]) (by simp [nCq.symm])).same s3).fr (S := [T]) ((Fr.refl _ _).wr (by simp)) (by simp [nTp.symm]) (by simp [nTq.symm])
    · rintro σ' G ⟨z5, ts, css, as, rfl, g1, g2, g3, g4, g5⟩
      exact p2 ⟨g5, g1, g2, fun i hi => (g3 i hi).1, nTp, nCp, fun i hi => (g3 i hi).2.1, ⟨fun i hi => (g3 i hi).2.2.2.2.1, fun i hi => (g3 i hi).2.2.2.2.2.1, fun i hi => (g3 i hi).2.2.2.2.2.2, g4 0 (by omega)⟩⟩ kk
  · exact h.elim
end
end Co.Tx
end

section
set_option maxHeartbeats 0
namespace Co.Txk05
open PySem PySem.Spec PyProof.Rows L2 Co Co.Tx
def top (i : Nat) : Stmt := PySem.Challenge.pw_tongues_k05_whole_rows_of_changes.main.body.getD i (.Pass ⟨0, 0, 0, 0⟩)
abbrev s_Lpool : Stmt := top 7
abbrev N_Lpool : List Str := ["_law_script", "_law_cell"]
theorem sc_Lpool : FnScope N_Lpool ["_law_script"] (defScope s_Lpool) := ⟨rfl, rfl, rfl, by decide +kernel, rfl, by decide +kernel, by decide +kernel⟩
abbrev s_Ltake : Stmt := top 8
abbrev N_Ltake : List Str := ["_law_pool_here", "_law_many", "_law_digit", "_law_cell", "_law_mixed"]
theorem sc_Ltake : FnScope N_Ltake ["_law_pool_here", "_law_many"] (defScope s_Ltake) := ⟨rfl, rfl, rfl, by decide +kernel, rfl, by decide +kernel, by decide +kernel⟩
abbrev s_Lis_integer : Stmt := top 15
abbrev N_Lis_integer : List Str := ["_law_actual"]
theorem sc_Lis_integer : FnScope N_Lis_integer ["_law_actual"] (defScope s_Lis_integer) := ⟨rfl, rfl, rfl, by decide +kernel, rfl, by decide +kernel, by decide +kernel⟩
abbrev s_Lsame : Stmt := top 16
abbrev N_Lsame : List Str := ["_law_actual", "_law_due", "_law_k"]
theorem sc_Lsame : FnScope N_Lsame ["_law_actual", "_law_due"] (defScope s_Lsame) := ⟨rfl, rfl, rfl, by decide +kernel, rfl, by decide +kernel, by decide +kernel⟩
abbrev s_Lchar : Stmt := top 9
abbrev N_Lchar : List Str := ["_law_cell", "_law_signs"]
theorem sc_Lchar : FnScope N_Lchar ["_law_cell"] (defScope s_Lchar) := ⟨rfl, rfl, rfl, by decide +kernel, rfl, by decide +kernel, by decide +kernel⟩
abbrev s_Ltext : Stmt := top 10
abbrev N_Ltext : List Str := ["_law_pool_here", "_law_size_here", "_law_kind", "_law_base", "_law_row", "_law_k"]
theorem sc_Ltext : FnScope N_Ltext ["_law_pool_here", "_law_size_here"] (defScope s_Ltext) := ⟨rfl, rfl, rfl, by decide +kernel, rfl, by decide +kernel, by decide +kernel⟩
abbrev s_Lsize : Stmt := top 11
abbrev N_Lsize : List Str := ["_law_pool_here"]
theorem sc_Lsize : FnScope N_Lsize ["_law_pool_here"] (defScope s_Lsize) := ⟨rfl, rfl, rfl, by decide +kernel, rfl, by decide +kernel, by decide +kernel⟩
abbrev s_Lchange : Stmt := top 12
abbrev N_Lchange : List Str := ["_law_pool_here", "_law_text_here", "_law_pieces", "_law_at", "_law_k", "_law_start", "_law_stop", "_law_put"]
theorem sc_Lchange : FnScope N_Lchange ["_law_pool_here", "_law_text_here"] (defScope s_Lchange) := ⟨rfl, rfl, rfl, by decide +kernel, rfl, by decide +kernel, by decide +kernel⟩
abbrev s_Lmarked : Stmt := top 13
abbrev N_Lmarked : List Str := ["_law_text_here", "_law_change_here", "_law_rows", "_law_at", "_law_start", "_law_stop", "_law_put", "_law_k", "_law_sign"]
theorem sc_Lmarked : FnScope N_Lmarked ["_law_text_here", "_law_change_here"] (defScope s_Lmarked) := ⟨rfl, rfl, rfl, by decide +kernel, rfl, by decide +kernel, by decide +kernel⟩
abbrev s_Lafter : Stmt := top 14
abbrev N_Lafter : List Str := ["_law_text_here", "_law_change_here", "_law_row"]
theorem sc_Lafter : FnScope N_Lafter ["_law_text_here", "_law_change_here"] (defScope s_Lafter) := ⟨rfl, rfl, rfl, by decide +kernel, rfl, by decide +kernel, by decide +kernel⟩
abbrev s_carry_place : Stmt := top 3
abbrev N_carry_place : List Str := ["size", "change", "place", "moved", "start", "stop", "put"]
theorem sc_carry_place : FnScope N_carry_place ["size", "change", "place"] (defScope s_carry_place) := ⟨rfl, rfl, rfl, by decide +kernel, rfl, by decide +kernel, by decide +kernel⟩
abbrev s_apply_change : Stmt := top 1
abbrev N_apply_change : List Str := ["text", "change", "found", "at", "start", "stop", "put"]
theorem sc_apply_change : FnScope N_apply_change ["text", "change"] (defScope s_apply_change) := ⟨rfl, rfl, rfl, by decide +kernel, rfl, by decide +kernel, by decide +kernel⟩
abbrev s_invert_change : Stmt := top 2
abbrev N_invert_change : List Str := ["text", "change", "found", "moved", "start", "stop", "put"]
theorem sc_invert_change : FnScope N_invert_change ["text", "change"] (defScope s_invert_change) := ⟨rfl, rfl, rfl, by decide +kernel, rfl, by decide +kernel, by decide +kernel⟩
abbrev s_kept_places : Stmt := top 4
abbrev N_kept_places : List Str := ["size", "change", "found", "at", "moved", "start", "stop", "put", "place"]
theorem sc_kept_places : FnScope N_kept_places ["size", "change"] (defScope s_kept_places) := ⟨rfl, rfl, rfl, by decide +kernel, rfl, by decide +kernel, by decide +kernel⟩
abbrev s_join_changes : Stmt := top 5
abbrev N_join_changes : List Str := ["text", "first", "second", "middle", "final", "found", "old", "new", "before", "behind", "after", "between"]
theorem sc_join_changes : FnScope N_join_changes ["text", "first", "second"] (defScope s_join_changes) := ⟨rfl, rfl, rfl, by decide +kernel, rfl, by decide +kernel, by decide +kernel⟩
abbrev s_Lcarried : Stmt := top 17
abbrev N_Lcarried : List Str := ["_law_sizes", "_law_changes", "_law_place", "_law_k"]
theorem sc_Lcarried : FnScope N_Lcarried ["_law_sizes", "_law_changes", "_law_place"] (defScope s_Lcarried) := ⟨rfl, rfl, rfl, by decide +kernel, rfl, by decide +kernel, by decide +kernel⟩
abbrev s_law : Stmt := top 18
abbrev N_law : List Str := ["_law_script", "_law_pool_here", "_law_text_here", "_law_texts", "_law_changes", "_law_k", "_law_left", "_law_right", "_law_back", "_law_due", "_law_sizes", "_law_place", "_law_kept", "_law_both", "_law_one", "_law_start", "_law_stop", "_law_put"]
theorem sc_law : FnScope N_law ["_law_script"] (defScope s_law) := ⟨rfl, rfl, rfl, by decide +kernel, rfl, by decide +kernel, by decide +kernel⟩
def df_Lpool : He.DefD := ⟨("_law_pool", none), "_law_pool", "_law_pool", defArgs s_Lpool, defBody s_Lpool, defScope s_Lpool, [], []⟩
def df_Ltake : He.DefD := ⟨("_law_take", none), "_law_take", "_law_take", defArgs s_Ltake, defBody s_Ltake, defScope s_Ltake, [], []⟩
def df_Lis_integer : He.DefD := ⟨("_law_is_integer", none), "_law_is_integer", "_law_is_integer", defArgs s_Lis_integer, defBody s_Lis_integer, defScope s_Lis_integer, [], []⟩
def df_Lsame : He.DefD := ⟨("_law_same", none), "_law_same", "_law_same", defArgs s_Lsame, defBody s_Lsame, defScope s_Lsame, [], []⟩
def df_Lchar : He.DefD := ⟨("_law_char", none), "_law_char", "_law_char", defArgs s_Lchar, defBody s_Lchar, defScope s_Lchar, [], []⟩
def df_Ltext : He.DefD := ⟨("_law_text", none), "_law_text", "_law_text", defArgs s_Ltext, defBody s_Ltext, defScope s_Ltext, [], []⟩
def df_Lsize : He.DefD := ⟨("_law_size", none), "_law_size", "_law_size", defArgs s_Lsize, defBody s_Lsize, defScope s_Lsize, [], []⟩
def df_Lchange : He.DefD := ⟨("_law_change", none), "_law_change", "_law_change", defArgs s_Lchange, defBody s_Lchange, defScope s_Lchange, [], []⟩
def df_Lmarked : He.DefD := ⟨("_law_marked", none), "_law_marked", "_law_marked", defArgs s_Lmarked, defBody s_Lmarked, defScope s_Lmarked, [], []⟩
def df_Lafter : He.DefD := ⟨("_law_after", none), "_law_after", "_law_after", defArgs s_Lafter, defBody s_Lafter, defScope s_Lafter, [], []⟩
def df_carry_place : He.DefD := ⟨("carry_place", none), "carry_place", "carry_place", defArgs s_carry_place, defBody s_carry_place, defScope s_carry_place, [], []⟩
def df_apply_change : He.DefD := ⟨("apply_change", none), "apply_change", "apply_change", defArgs s_apply_change, defBody s_apply_change, defScope s_apply_change, [], []⟩
def df_invert_change : He.DefD := ⟨("invert_change", none), "invert_change", "invert_change", defArgs s_invert_change, defBody s_invert_change, defScope s_invert_change, [], []⟩
def df_kept_places : He.DefD := ⟨("kept_places", none), "kept_places", "kept_places", defArgs s_kept_places, defBody s_kept_places, defScope s_kept_places, [], []⟩
def df_join_changes : He.DefD := ⟨("join_changes", none), "join_changes", "join_changes", defArgs s_join_changes, defBody s_join_changes, defScope s_join_changes, [], []⟩
def df_Lcarried : He.DefD := ⟨("_law_carried", none), "_law_carried", "_law_carried", defArgs s_Lcarried, defBody s_Lcarried, defScope s_Lcarried, [], []⟩
def df_law : He.DefD := ⟨("law", none), "law", "law", defArgs s_law, defBody s_law, defScope s_law, [], []⟩
def fn : List He.DefD := [df_Lpool, df_Ltake, df_Lis_integer, df_Lsame, df_Lchar, df_Ltext, df_Lsize, df_Lchange, df_Lmarked, df_Lafter, df_carry_place, df_apply_change, df_invert_change, df_kept_places, df_join_changes, df_Lcarried, df_law]
def fa : List He.Fa := [.free "int", .free "len", .glo "_law_take", .free "isinstance", .free "bool", .free "tuple", .free "range", .glo "_law_same", .free "all", .free "list", .free "str", .glo "_law_is_integer", .glo "_law_char", .free "min", .glo "_law_text", .glo "_law_marked", .glo "apply_change", .glo "kept_places", .glo "carry_place", .glo "_law_pool", .glo "_law_size", .glo "_law_change", .glo "_law_after", .glo "join_changes", .glo "invert_change", .glo "_law_carried", .glo "law"]
section
variable {P : Program} {w : World} {K : PySem.W.Frag} {mg : Str → Option Value} {base : Heap}
theorem ok_Lpool (T : Fx fa fn K mg) : Def P w K mg base 1 (He.ga K "_law_pool") ["_law_script"] (sp_pool K) := by
  obtain ⟨fd, F⟩ := T.c.def_ 0 (d := df_Lpool) rfl
  refine Def.of (k := 0) (N := N_Lpool) F sc_Lpool (fun _ _ _ _ _ _ us hl => match us, hl with | [_], _ => rfl) (fun vs H Q E h => by unfold sp_pool at h; split at h <;> first | rfl | exact h.elim) (fun cdv A outer s H vs Q E hr h => ⟨_, ?_, r_Lpool h⟩)
  exact (pss_one (ps_ret (pe_lst (pa_cons (e_lc (own := [("_law_cell", 1)]) (g := (gName 1)) rfl sc_Lpool.nd (pi_list (va 0)) (blkOk_by (own := [("_law_cell", 1)]) (N := N_Lpool) (sc := defScope s_Lpool) (by decide +kernel)) (fun _ _ _ _ _ => (pg_name (i := 1) sc_Lpool.nd rfl (Or.inl rfl))) (fun _ _ _ _ _ => pts_nil) (fun _ _ _ _ _ => (e_if (t_cmp o_ge (va 1) pe_int (nomark _)) (pe_op o_mul pe_int (va 1)) (pe_op o_sub (pe_op o_mul (pe_un u_neg pe_int) (va 1)) pe_int)))) (pa_cons pe_int (pa_cons pe_int (pa_cons pe_int pa_nil)))))))
theorem ok_Ltake (n : Nat) (T : Fx fa fn K mg) (D_Ltake : Def P w K mg base n (He.ga K "_law_take") ["_law_pool_here", "_law_many"] (sp_take n)) : Def P w K mg base (n + 1) (He.ga K "_law_take") ["_law_pool_here", "_law_many"] (sp_take (n + 1)) := by
  obtain ⟨fd, F⟩ := T.c.def_ 1 (d := df_Ltake) rfl
  refine Def.of (k := n) (N := N_Ltake) F sc_Ltake (fun _ _ _ _ _ _ us hl => match us, hl with | [_, _], _ => rfl) (fun vs H Q E h => by unfold sp_take at h; split at h <;> first | rfl | exact h.elim) (fun cdv A outer s H vs Q E hr h => ⟨_, ?_, r_Ltake (K := K) h⟩)
  exact (pss_cons (s_if (t_cmp o_gt (pe_ix ix_list (va 0) pe_int (fun _ _ => rfl)) pe_int (nomark _)) (pss_cons (ps_set (i := 2) sc_Ltake.nd rfl (Or.inl rfl) (pe_op o_mod (pe_callTy c_int (by rfl) (T.free 0) (by decide +kernel) (pa_cons (pe_ix ix_list (va 0) pe_int (fun _ _ => rfl)) pa_nil)) (va 1)))
 (pss_cons (ps_asg (pe_op o_div (pe_ix ix_list (va 0) pe_int (fun _ _ => rfl)) (va 1)) (pg_sub (va 0) pe_int set_list))
 (pss_one (ps_ret (va 2))))) pss_nil)
 (pss_cons (ps_set (i := 3) sc_Ltake.nd rfl (Or.inl rfl) pe_int)
 (pss_cons (s_if (t_cmp o_lt (pe_ix ix_list (va 0) pe_int (fun _ _ => rfl)) (pe_callB c_lenA (by rfl) (T.free 1) PySem.boot_len (pa_cons (pe_ix ix_list (va 0) pe_int (fun _ _ => rfl)) pa_nil)) (nomark _)) (pss_one (ps_set (i := 3) sc_Ltake.nd rfl (Or.inl rfl) (pe_ix ix_seq (pe_ix ix_list (va 0) pe_int (fun _ _ => rfl)) (pe_ix ix_list (va 0) pe_int (fun _ _ => rfl)) (fun _ _ => rfl)))) pss_nil)
 (pss_cons (ps_asg (pe_op o_add (pe_ix ix_list (va 0) pe_int (fun _ _ => rfl)) pe_int) (pg_sub (va 0) pe_int set_list))
 (pss_cons (s_if (t_cmp o_ge (va 3) (pe_op o_pow pe_int pe_int) (nomark _)) (pss_cons (ps_asg (pe_op o_div (va 3) pe_int) (pg_sub (va 0) pe_int set_list))
 (pss_one (ps_ret (e_call D_Ltake (hr.mono (by omega)) rfl (T.glo 2) passL (pa_cons (va 0) (pa_cons (va 1) pa_nil)))))) pss_nil)
 (pss_cons (ps_asg (pe_op o_mod (pe_callTy c_int (by rfl) (T.free 0) (by decide +kernel) (pa_cons (pe_op o_add (pe_op o_add (pe_op o_mul (pe_ix ix_list (va 0) pe_int (fun _ _ => rfl)) pe_int) (pe_op o_mul (va 3) pe_int)) (pe_op o_mul (pe_ix ix_list (va 0) pe_int (fun _ _ => rfl)) pe_int)) pa_nil)) pe_int) (pg_sub (va 0) pe_int set_list))
 (pss_cons (ps_set (i := 4) sc_Ltake.nd rfl (Or.inl rfl) (pe_op o_mod (pe_callTy c_int (by rfl) (T.free 0) (by decide +kernel) (pa_cons (pe_op o_add (pe_op o_add (pe_op o_mul (pe_ix ix_list (va 0) pe_int (fun _ _ => rfl)) (pe_ix ix_list (va 0) pe_int (fun _ _ => rfl))) (pe_op o_mul (pe_ix ix_list (va 0) pe_int (fun _ _ => rfl)) pe_int)) pe_int) pa_nil)) pe_int))
 (pss_one (ps_ret (pe_op o_mod (pe_callTy c_int (by rfl) (T.free 0) (by decide +kernel) (pa_cons (pe_op o_div (va 4) pe_int) pa_nil)) (va 1)))))))))))
theorem no_Ltake (T : Fx fa fn K mg) : Def P w K mg base 0 (He.ga K "_law_take") ["_law_pool_here", "_law_many"] (fun _ _ _ _ => False) := by
  obtain ⟨fd, F⟩ := T.c.def_ 1 (d := df_Ltake) rfl
  exact Def.zero F (fun _ _ _ _ _ _ us hl => match us, hl with | [_, _], _ => rfl)
theorem ok_Lis_integer (T : Fx fa fn K mg) : Def P w K mg base 1 (He.ga K "_law_is_integer") ["_law_actual"] sp_isint := by
  obtain ⟨fd, F⟩ := T.c.def_ 2 (d := df_Lis_integer) rfl
  refine Def.of (k := 0) (N := N_Lis_integer) F sc_Lis_integer (fun _ _ _ _ _ _ us hl => match us, hl with | [_], _ => rfl) (fun vs H Q E h => by unfold sp_isint at h; split at h <;> first | rfl | exact h.elim) (fun cdv A outer s H vs Q E hr h => ⟨_, ?_, r_Lis_integer (K := K) h⟩)
  exact (pss_one (ps_ret (e_and (pe_callB c_isi (by rfl) (T.free 3) (by decide +kernel) (pa_cons (va 0) (pa_cons (pe_bltn (by rfl) (T.free 0) (by decide +kernel) rfl) pa_nil))) (pe_one (e_not (pe_callB c_isi (by rfl) (T.free 3) (by decide +kernel) (pa_cons (va 0) (pa_cons (pe_bltn (by rfl) (T.free 4) (by decide +kernel) rfl) pa_nil))))))))
theorem ok_Lsame (n : Nat) (T : Fx fa fn K mg) (D_Lsame : Def P w K mg base (n + 1) (He.ga K "_law_same") ["_law_actual", "_law_due"] (sp_same K n)) (D_Lis_integer : Def P w K mg base 1 (He.ga K "_law_is_integer") ["_law_actual"] sp_isint) : Def P w K mg base (n + 2) (He.ga K "_law_same") ["_law_actual", "_law_due"] (sp_same K (n + 1)) := by
  obtain ⟨fd, F⟩ := T.c.def_ 3 (d := df_Lsame) rfl
  refine Def.of (k := (n + 1)) (N := N_Lsame) F sc_Lsame (fun _ _ _ _ _ _ us hl => match us, hl with | [_, _], _ => rfl) (fun vs H Q E h => by unfold sp_same at h; split at h <;> first | rfl | exact h.elim) (fun cdv A outer s H vs Q E hr h => ⟨_, ?_, r_LsameA h⟩)
  exact (pss_cons (s_if (t_val (pe_callB c_isi (by rfl) (T.free 3) (by decide +kernel) (pa_cons (va 1) (pa_cons (pe_bltn (by rfl) (T.free 5) (by decide +kernel) rfl) pa_nil)))) (pss_cons (s_if (PW.pt (w_or (pt_not (t_val (pe_callB c_isi (by rfl) (T.free 3) (by decide +kernel) (pa_cons (va 0) (pa_cons (pe_bltn (by rfl) (T.free 5) (by decide +kernel) rfl) pa_nil))))) (pw_or1 (t_cmp o_ne (pe_callB c_lenA (by rfl) (T.free 1) PySem.boot_len (pa_cons (va 0) pa_nil)) (pe_callB c_lenA (by rfl) (T.free 1) PySem.boot_len (pa_cons (va 1) pa_nil)) (nomark _))))) (pss_one (ps_ret pe_bl)) pss_nil)
 (pss_one (ps_ret (pe_callB (cr_all rfl) (by rfl) (T.free 8) (by decide +kernel) (pa_cons (e_lc (own := [("_law_k", 2)]) (g := (gName 2)) rfl sc_Lsame.nd (pi_range1 rfl (T.free 6) (pa_cons (pe_callB c_lenA (by rfl) (T.free 1) PySem.boot_len (pa_cons (va 1) pa_nil)) pa_nil)) (blkOk_by (own := [("_law_k", 2)]) (N := N_Lsame) (sc := defScope s_Lsame) (by decide +kernel)) (fun _ _ _ _ _ => (pg_name (i := 2) sc_Lsame.nd rfl (Or.inl rfl))) (fun _ _ _ _ _ => pts_nil) (fun _ _ _ _ _ => (e_call D_Lsame (hr.mono (by omega)) rfl (T.glo 7) passL (pa_cons (pe_ix ix_seq (va 0) (va 2) (fun _ _ => rfl)) (pa_cons (pe_ix ix_seq (va 1) (va 2) (fun _ _ => rfl)) pa_nil))))) pa_nil))))) pss_nil)
 (pss_cons (s_if (t_val (pe_callB c_isi (by rfl) (T.free 3) (by decide +kernel) (pa_cons (va 1) (pa_cons (pe_bltn (by rfl) (T.free 9) (by decide +kernel) rfl) pa_nil)))) (pss_cons (s_if (PW.pt (w_or (pt_not (t_val (pe_callB c_isi (by rfl) (T.free 3) (by decide +kernel) (pa_cons (va 0) (pa_cons (pe_bltn (by rfl) (T.free 9) (by decide +kernel) rfl) pa_nil))))) (pw_or1 (t_cmp o_ne (pe_callB c_lenA (by rfl) (T.free 1) PySem.boot_len (pa_cons (va 0) pa_nil)) (pe_callB c_lenA (by rfl) (T.free 1) PySem.boot_len (pa_cons (va 1) pa_nil)) (nomark _))))) (pss_one (ps_ret pe_bl)) pss_nil)
 (pss_one (ps_ret (pe_callB (cr_all rfl) (by rfl) (T.free 8) (by decide +kernel) (pa_cons (e_lc (own := [("_law_k", 2)]) (g := (gName 2)) rfl sc_Lsame.nd (pi_range1 rfl (T.free 6) (pa_cons (pe_callB c_lenA (by rfl) (T.free 1) PySem.boot_len (pa_cons (va 1) pa_nil)) pa_nil)) (blkOk_by (own := [("_law_k", 2)]) (N := N_Lsame) (sc := defScope s_Lsame) (by decide +kernel)) (fun _ _ _ _ _ => (pg_name (i := 2) sc_Lsame.nd rfl (Or.inl rfl))) (fun _ _ _ _ _ => pts_nil) (fun _ _ _ _ _ => (e_call D_Lsame (hr.mono (by omega)) rfl (T.glo 7) passL (pa_cons (pe_ix ix_seq (va 0) (va 2) (fun _ _ => rfl)) (pa_cons (pe_ix ix_seq (va 1) (va 2) (fun _ _ => rfl)) pa_nil))))) pa_nil))))) pss_nil)
 (pss_cons (s_if (t_isN (va 1)) (pss_one (ps_ret (e_isN (va 0)))) pss_nil)
 (pss_cons (s_if (t_val (pe_callB c_isi (by rfl) (T.free 3) (by decide +kernel) (pa_cons (va 1) (pa_cons (pe_bltn (by rfl) (T.free 4) (by decide +kernel) rfl) pa_nil)))) (pss_one (ps_ret (e_and (pe_callB c_isi (by rfl) (T.free 3) (by decide +kernel) (pa_cons (va 0) (pa_cons (pe_bltn (by rfl) (T.free 4) (by decide +kernel) rfl) pa_nil))) (pe_one (pe_cmpR o_eq (va 0) (va 1) (nomark _)))))) pss_nil)
 (pss_cons (s_if (t_val (pe_callB c_isi (by rfl) (T.free 3) (by decide +kernel) (pa_cons (va 1) (pa_cons (pe_bltn (by rfl) (T.free 10) (by decide +kernel) rfl) pa_nil)))) (pss_one (ps_ret (e_and (pe_callB c_isi (by rfl) (T.free 3) (by decide +kernel) (pa_cons (va 0) (pa_cons (pe_bltn (by rfl) (T.free 10) (by decide +kernel) rfl) pa_nil))) (pe_one (pe_cmpR o_eq (va 0) (va 1) (nomark _)))))) pss_nil)
 (pss_one (ps_ret (e_and (e_call D_Lis_integer (hr.mono (by omega)) rfl (T.glo 11) passL (pa_cons (va 0) pa_nil)) (pe_one (pe_cmpR o_eq (va 0) (va 1) (nomark _)))))))))))
theorem no_Lsame (T : Fx fa fn K mg) : Def P w K mg base 0 (He.ga K "_law_same") ["_law_actual", "_law_due"] (fun _ _ _ _ => False) := by
  obtain ⟨fd, F⟩ := T.c.def_ 3 (d := df_Lsame) rfl
  exact Def.zero F (fun _ _ _ _ _ _ us hl => match us, hl with | [_, _], _ => rfl)
theorem ok_Lchar (T : Fx fa fn K mg) : Def P w K mg base 1 (He.ga K "_law_char") ["_law_cell"] sp_char := by
  obtain ⟨fd, F⟩ := T.c.def_ 4 (d := df_Lchar) rfl
  refine Def.of (k := 0) (N := N_Lchar) F sc_Lchar (fun _ _ _ _ _ _ us hl => match us, hl with | [_], _ => rfl) (fun vs H Q E h => by unfold sp_char at h; split at h <;> first | rfl | exact h.elim) (fun cdv A outer s H vs Q E hr h => ⟨_, ?_, r_char (K := K) h⟩)
  exact (pss_cons (ps_set (i := 1) sc_Lchar.nd rfl (Or.inl rfl) pe_str)
 (pss_one (ps_ret (pe_ix ix_str (va 1) (pe_op o_mod (va 0) pe_int) (fun _ _ => rfl)))))
theorem ok_Ltext (T : Fx fa fn K mg) (D_Ltake : Def P w K mg base 2 (He.ga K "_law_take") ["_law_pool_here", "_law_many"] (sp_take 2)) (D_Lchar : Def P w K mg base 1 (He.ga K "_law_char") ["_law_cell"] sp_char) : Def P w K mg base 3 (He.ga K "_law_text") ["_law_pool_here", "_law_size_here"] sp_text := by
  obtain ⟨fd, F⟩ := T.c.def_ 5 (d := df_Ltext) rfl
  refine Def.of (k := 2) (N := N_Ltext) F sc_Ltext (fun _ _ _ _ _ _ us hl => match us, hl with | [_, _], _ => rfl) (fun vs H Q E h => by unfold sp_text at h; split at h <;> first | rfl | exact h.elim) (fun cdv A outer s H vs Q E hr h => ⟨_, ?_, r_text (K := K) h⟩)
  exact (pss_cons (ps_set (i := 2) sc_Ltext.nd rfl (Or.inl rfl) (e_call D_Ltake (hr.mono (by omega)) rfl (T.glo 2) passL (pa_cons (va 0) (pa_cons pe_int pa_nil))))
 (pss_cons (ps_set (i := 3) sc_Ltext.nd rfl (Or.inl rfl) (e_call D_Ltake (hr.mono (by omega)) rfl (T.glo 2) passL (pa_cons (va 0) (pa_cons pe_int pa_nil))))
 (pss_cons (ps_set (i := 4) sc_Ltext.nd rfl (Or.inl rfl) (pe_lst pa_nil))
 (pss_cons (ps_for (passes_of rfl) rfl (pi_range1 rfl (T.free 6) (pa_cons (va 1) pa_nil)) (pg_name (i := 5) sc_Ltext.nd rfl (Or.inl rfl))
 (pss_one (s_if (t_cmp o_eq (va 2) pe_int (nomark _)) (pss_one (ps_expr (pe_bm PySem.F.plainAttrs_list PySem.F.slot_list_append PySem.F.type_list_append mt_append (va 4) (pa_cons (e_call D_Lchar (hr.mono (by omega)) rfl (T.glo 12) passL (pa_cons (e_call D_Ltake (hr.mono (by omega)) rfl (T.glo 2) passL (pa_cons (va 0) (pa_cons pe_int pa_nil))) pa_nil)) pa_nil)))) (pss_one (s_if (t_cmp o_eq (va 2) pe_int (nomark _)) (pss_one (ps_expr (pe_bm PySem.F.plainAttrs_list PySem.F.slot_list_append PySem.F.type_list_append mt_append (va 4) (pa_cons (pe_ix ix_str pe_str (e_call D_Ltake (hr.mono (by omega)) rfl (T.glo 2) passL (pa_cons (va 0) (pa_cons pe_int pa_nil))) (fun _ _ => rfl)) pa_nil)))) (pss_one (ps_expr (pe_bm PySem.F.plainAttrs_list PySem.F.slot_list_append PySem.F.type_list_append mt_append (va 4) (pa_cons (e_call D_Lchar (hr.mono (by omega)) rfl (T.glo 12) passL (pa_cons (va 3) pa_nil)) pa_nil)))))))))
 (pss_one (ps_ret (pe_m1 PySem.F.slot_str_join PySem.F.type_str_join m_join pe_str (va 4))))))))
theorem ok_Lsize (T : Fx fa fn K mg) (D_Ltake : Def P w K mg base 2 (He.ga K "_law_take") ["_law_pool_here", "_law_many"] (sp_take 2)) : Def P w K mg base 3 (He.ga K "_law_size") ["_law_pool_here"] sp_size := by
  obtain ⟨fd, F⟩ := T.c.def_ 6 (d := df_Lsize) rfl
  refine Def.of (k := 2) (N := N_Lsize) F sc_Lsize (fun _ _ _ _ _ _ us hl => match us, hl with | [_], _ => rfl) (fun vs H Q E h => by unfold sp_size at h; split at h <;> first | rfl | exact h.elim) (fun cdv A outer s H vs Q E hr h => ⟨_, ?_, r_size (K := K) h⟩)
  exact (pss_cons (s_if (t_cmp o_eq (e_call D_Ltake (hr.mono (by omega)) rfl (T.glo 2) passL (pa_cons (va 0) (pa_cons pe_int pa_nil))) pe_int (nomark _)) (pss_one (ps_ret (e_call D_Ltake (hr.mono (by omega)) rfl (T.glo 2) passL (pa_cons (va 0) (pa_cons pe_int pa_nil))))) pss_nil)
 (pss_one (ps_ret (e_call D_Ltake (hr.mono (by omega)) rfl (T.glo 2) passL (pa_cons (va 0) (pa_cons pe_int pa_nil))))))
theorem ok_Lchange (T : Fx fa fn K mg) (D_Ltake : Def P w K mg base 2 (He.ga K "_law_take") ["_law_pool_here", "_law_many"] (sp_take 2)) (D_Ltext : Def P w K mg base 3 (He.ga K "_law_text") ["_law_pool_here", "_law_size_here"] sp_text) : Def P w K mg base 4 (He.ga K "_law_change") ["_law_pool_here", "_law_text_here"] (sp_change K) := by
  obtain ⟨fd, F⟩ := T.c.def_ 7 (d := df_Lchange) rfl
  refine Def.of (k := 3) (N := N_Lchange) F sc_Lchange (fun _ _ _ _ _ _ us hl => match us, hl with | [_, _], _ => rfl) (fun vs H Q E h => by unfold sp_change at h; split at h <;> first | rfl | exact h.elim) (fun cdv A outer s H vs Q E hr h => ⟨_, ?_, r_change h⟩)
  exact (pss_cons (ps_set (i := 2) sc_Lchange.nd rfl (Or.inl rfl) (pe_lst pa_nil))
 (pss_cons (ps_set (i := 3) sc_Lchange.nd rfl (Or.inl rfl) pe_int)
 (pss_cons (ps_for (passes_of rfl) rfl (pi_range1 rfl (T.free 6) (pa_cons (e_call D_Ltake (hr.mono (by omega)) rfl (T.glo 2) passL (pa_cons (va 0) (pa_cons pe_int pa_nil))) pa_nil)) (pg_name (i := 4) sc_Lchange.nd rfl (Or.inl rfl))
 (pss_cons (ps_set (i := 5) sc_Lchange.nd rfl (Or.inl rfl) (pe_op o_add (va 3) (pe_ix ix_tup (pe_tup (pa_cons (e_call D_Ltake (hr.mono (by omega)) rfl (T.glo 2) passL (pa_cons (va 0) (pa_cons pe_int pa_nil))) (pa_cons (e_call D_Ltake (hr.mono (by omega)) rfl (T.glo 2) passL (pa_cons (va 0) (pa_cons pe_int pa_nil))) pa_nil))) (pe_op o_div (e_call D_Ltake (hr.mono (by omega)) rfl (T.glo 2) passL (pa_cons (va 0) (pa_cons pe_int pa_nil))) pe_int) (fun _ _ => rfl))))
 (pss_one (s_if (t_cmp o_le (va 5) (pe_callB c_lenS (by rfl) (T.free 1) PySem.boot_len (pa_cons (va 1) pa_nil)) (nomark _)) (pss_cons (ps_set (i := 6) sc_Lchange.nd rfl (Or.inl rfl) (pe_callB (c_minW rfl) (by rfl) (T.free 13) (by decide +kernel) (pa_cons (pe_callB c_lenS (by rfl) (T.free 1) PySem.boot_len (pa_cons (va 1) pa_nil)) (pa_cons (pe_op o_add (va 5) (pe_ix ix_tup (pe_tup (pa_cons (e_call D_Ltake (hr.mono (by omega)) rfl (T.glo 2) passL (pa_cons (va 0) (pa_cons pe_int pa_nil))) (pa_cons (e_call D_Ltake (hr.mono (by omega)) rfl (T.glo 2) passL (pa_cons (va 0) (pa_cons pe_int pa_nil))) pa_nil))) (pe_op o_div (e_call D_Ltake (hr.mono (by omega)) rfl (T.glo 2) passL (pa_cons (va 0) (pa_cons pe_int pa_nil))) pe_int) (fun _ _ => rfl))) pa_nil))))
 (pss_cons (ps_set (i := 7) sc_Lchange.nd rfl (Or.inl rfl) (e_call D_Ltext (hr.mono (by omega)) rfl (T.glo 14) passL (pa_cons (va 0) (pa_cons (e_call D_Ltake (hr.mono (by omega)) rfl (T.glo 2) passL (pa_cons (va 0) (pa_cons pe_int pa_nil))) pa_nil))))
 (pss_cons (s_if (PW.pt (w_and (t_cmp o_eq (va 5) (va 6) (nomark _)) (pw_and1 (t_cmp o_eq (va 7) pe_str (nomark _))))) (pss_one (ps_set (i := 7) sc_Lchange.nd rfl (Or.inl rfl) pe_str)) pss_nil)
 (pss_cons (ps_expr (pe_bm PySem.F.plainAttrs_list PySem.F.slot_list_append PySem.F.type_list_append mt_append (va 2) (pa_cons (pe_tup (pa_cons (va 5) (pa_cons (va 6) (pa_cons (va 7) pa_nil)))) pa_nil)))
 (pss_one (ps_set (i := 3) sc_Lchange.nd rfl (Or.inl rfl) (pe_op o_add (va 6) pe_int))))))) pss_nil))))
 (pss_one (ps_ret (va 2))))))
theorem ok_Lmarked (T : Fx fa fn K mg) : Def P w K mg base 1 (He.ga K "_law_marked") ["_law_text_here", "_law_change_here"] (sp_marked K) := by
  obtain ⟨fd, F⟩ := T.c.def_ 8 (d := df_Lmarked) rfl
  refine Def.of (k := 0) (N := N_Lmarked) F sc_Lmarked (fun _ _ _ _ _ _ us hl => match us, hl with | [_, _], _ => rfl) (fun vs H Q E h => by unfold sp_marked at h; split at h <;> first | rfl | exact h.elim) (fun cdv A outer s H vs Q E hr h => ⟨_, ?_, r_marked h⟩)
  exact (pss_cons (ps_set (i := 2) sc_Lmarked.nd rfl (Or.inl rfl) (pe_lst pa_nil))
 (pss_cons (ps_set (i := 3) sc_Lmarked.nd rfl (Or.inl rfl) pe_int)
 (pss_cons (ps_for (passes_of rfl) rfl (pi_seq (va 1)) (pg_tup rfl (pgs_cons (pg_name (i := 4) sc_Lmarked.nd rfl (Or.inl rfl)) (pgs_cons (pg_name (i := 5) sc_Lmarked.nd rfl (Or.inl rfl)) (pgs_cons (pg_name (i := 6) sc_Lmarked.nd rfl (Or.inl rfl)) pgs_nil))))
 (pss_cons (ps_set (i := 2) sc_Lmarked.nd rfl (Or.inl rfl) (pe_op op_cat (pe_op op_cat (va 2) (e_lc (own := [("_law_k", 7)]) (g := (gName 7)) rfl sc_Lmarked.nd (pi_range2 rfl (T.free 6) (pa_cons (va 3) (pa_cons (va 4) pa_nil))) (blkOk_by (own := [("_law_k", 7)]) (N := N_Lmarked) (sc := defScope s_Lmarked) (by decide +kernel)) (fun _ _ _ _ _ => (pg_name (i := 7) sc_Lmarked.nd rfl (Or.inl rfl))) (fun _ _ _ _ _ => pts_nil) (fun _ _ _ _ _ => (pe_tup (pa_cons (pe_ix ix_seq (va 0) (va 7) (fun _ _ => rfl)) (pa_cons (va 7) pa_nil)))))) (e_lc (own := [("_law_sign", 8)]) (g := (gName 8)) rfl sc_Lmarked.nd (pi_str (va 6)) (blkOk_by (own := [("_law_sign", 8)]) (N := N_Lmarked) (sc := defScope s_Lmarked) (by decide +kernel)) (fun _ _ _ _ _ => (pg_name (i := 8) sc_Lmarked.nd rfl (Or.inl rfl))) (fun _ _ _ _ _ => pts_nil) (fun _ _ _ _ _ => (pe_tup (pa_cons (va 8) (pa_cons pe_non pa_nil)))))))
 (pss_one (ps_set (i := 3) sc_Lmarked.nd rfl (Or.inl rfl) (va 5)))))
 (pss_one (ps_ret (pe_op op_cat (va 2) (e_lc (own := [("_law_k", 7)]) (g := (gName 7)) rfl sc_Lmarked.nd (pi_range2 rfl (T.free 6) (pa_cons (va 3) (pa_cons (pe_callB c_lenA (by rfl) (T.free 1) PySem.boot_len (pa_cons (va 0) pa_nil)) pa_nil))) (blkOk_by (own := [("_law_k", 7)]) (N := N_Lmarked) (sc := defScope s_Lmarked) (by decide +kernel)) (fun _ _ _ _ _ => (pg_name (i := 7) sc_Lmarked.nd rfl (Or.inl rfl))) (fun _ _ _ _ _ => pts_nil) (fun _ _ _ _ _ => (pe_tup (pa_cons (pe_ix ix_seq (va 0) (va 7) (fun _ _ => rfl)) (pa_cons (va 7) pa_nil)))))))))))
theorem ok_Lafter (T : Fx fa fn K mg) (D_Lmarked : Def P w K mg base 1 (He.ga K "_law_marked") ["_law_text_here", "_law_change_here"] (sp_marked K)) : Def P w K mg base 2 (He.ga K "_law_after") ["_law_text_here", "_law_change_here"] (sp_after K) := by
  obtain ⟨fd, F⟩ := T.c.def_ 9 (d := df_Lafter) rfl
  refine Def.of (k := 1) (N := N_Lafter) F sc_Lafter (fun _ _ _ _ _ _ us hl => match us, hl with | [_, _], _ => rfl) (fun vs H Q E h => by unfold sp_after at h; split at h <;> first | rfl | exact h.elim) (fun cdv A outer s H vs Q E hr h => ⟨_, ?_, r_after h⟩)
  exact (pss_one (ps_ret (pe_m1 PySem.F.slot_str_join PySem.F.type_str_join m_join pe_str (e_lc (own := [("_law_row", 2)]) (g := (gName 2)) rfl sc_Lafter.nd (pi_list (e_call D_Lmarked (hr.mono (by omega)) rfl (T.glo 15) passL (pa_cons (va 0) (pa_cons (va 1) pa_nil)))) (blkOk_by (own := [("_law_row", 2)]) (N := N_Lafter) (sc := defScope s_Lafter) (by decide +kernel)) (fun _ _ _ _ _ => (pg_name (i := 2) sc_Lafter.nd rfl (Or.inl rfl))) (fun _ _ _ _ _ => pts_nil) (fun _ _ _ _ _ => (pe_ix ix_seq (va 2) pe_int (fun _ _ => rfl)))))))
theorem ok_carry_place (T : Fx fa fn K mg) : Def P w K mg base 1 (He.ga K "carry_place") ["size", "change", "place"] (sp_carry K) := by
  obtain ⟨fd, F⟩ := T.c.def_ 10 (d := df_carry_place) rfl
  refine Def.of (k := 0) (N := N_carry_place) F sc_carry_place (fun _ _ _ _ _ _ us hl => match us, hl with | [_, _, _], _ => rfl) (fun vs H Q E h => by unfold sp_carry at h; split at h <;> first | rfl | exact h.elim) (fun cdv A outer s H vs Q E hr h => ⟨_, ?_, r_carry h⟩)
  exact (pss_cons (ps_set (i := 3) sc_carry_place.nd rfl (Or.inl rfl) pe_int)
 (pss_cons (ps_for (passes_of rfl) rfl (pi_seq (va 1)) (pg_tup rfl (pgs_cons (pg_name (i := 4) sc_carry_place.nd rfl (Or.inl rfl)) (pgs_cons (pg_name (i := 5) sc_carry_place.nd rfl (Or.inl rfl)) (pgs_cons (pg_name (i := 6) sc_carry_place.nd rfl (Or.inl rfl)) pgs_nil))))
 (pss_cons (s_if (PW.pt (w_and (t_cmp o_lt (va 2) (va 0) (nomark _)) (pw_and1 (t_cmp o_lt (va 2) (va 4) (nomark _))))) (pss_one (ps_ret (pe_op o_add (va 2) (va 3)))) pss_nil)
 (pss_cons (s_if (PW.pt (w_and (t_cmp o_lt (va 2) (va 0) (nomark _)) (pw_and1 (t_cmp o_lt (va 2) (va 5) (nomark _))))) (pss_one (ps_ret pe_non)) pss_nil)
 (pss_one (s_augadd (i := 3) sc_carry_place.nd rfl (Or.inl rfl) (pe_op o_sub (pe_callB c_lenS (by rfl) (T.free 1) PySem.boot_len (pa_cons (va 6) pa_nil)) (pe_op o_sub (va 5) (va 4))))))))
 (pss_one (ps_ret (pe_op o_add (va 2) (va 3))))))
theorem ok_apply_change (T : Fx fa fn K mg) : Def P w K mg base 1 (He.ga K "apply_change") ["text", "change"] (sp_apply K) := by
  obtain ⟨fd, F⟩ := T.c.def_ 11 (d := df_apply_change) rfl
  refine Def.of (k := 0) (N := N_apply_change) F sc_apply_change (fun _ _ _ _ _ _ us hl => match us, hl with | [_, _], _ => rfl) (fun vs H Q E h => by unfold sp_apply at h; split at h <;> first | rfl | exact h.elim) (fun cdv A outer s H vs Q E hr h => ⟨_, ?_, r_apply h⟩)
  exact (pss_cons (ps_set (i := 2) sc_apply_change.nd rfl (Or.inl rfl) (pe_lst pa_nil))
 (pss_cons (ps_set (i := 3) sc_apply_change.nd rfl (Or.inl rfl) pe_int)
 (pss_cons (ps_for (passes_of rfl) rfl (pi_seq (va 1)) (pg_tup rfl (pgs_cons (pg_name (i := 4) sc_apply_change.nd rfl (Or.inl rfl)) (pgs_cons (pg_name (i := 5) sc_apply_change.nd rfl (Or.inl rfl)) (pgs_cons (pg_name (i := 6) sc_apply_change.nd rfl (Or.inl rfl)) pgs_nil))))
 (pss_cons (ps_expr (pe_bm PySem.F.plainAttrs_list PySem.F.slot_list_append PySem.F.type_list_append mt_append (va 2) (pa_cons (pe_slice sl_str (va 0) (po_some (va 3)) (po_some (va 4))) pa_nil)))
 (pss_cons (ps_expr (pe_bm PySem.F.plainAttrs_list PySem.F.slot_list_append PySem.F.type_list_append mt_append (va 2) (pa_cons (va 6) pa_nil)))
 (pss_one (ps_set (i := 3) sc_apply_change.nd rfl (Or.inl rfl) (va 5))))))
 (pss_cons (ps_expr (pe_bm PySem.F.plainAttrs_list PySem.F.slot_list_append PySem.F.type_list_append mt_append (va 2) (pa_cons (pe_slice sl_str (va 0) (po_some (va 3)) po_none) pa_nil)))
 (pss_one (ps_ret (pe_m1 PySem.F.slot_str_join PySem.F.type_str_join m_join pe_str (va 2))))))))
theorem ok_invert_change (T : Fx fa fn K mg) : Def P w K mg base 1 (He.ga K "invert_change") ["text", "change"] (sp_inv K) := by
  obtain ⟨fd, F⟩ := T.c.def_ 12 (d := df_invert_change) rfl
  refine Def.of (k := 0) (N := N_invert_change) F sc_invert_change (fun _ _ _ _ _ _ us hl => match us, hl with | [_, _], _ => rfl) (fun vs H Q E h => by unfold sp_inv at h; split at h <;> first | rfl | exact h.elim) (fun cdv A outer s H vs Q E hr h => ⟨_, ?_, r_inv h⟩)
  exact (pss_cons (ps_set (i := 2) sc_invert_change.nd rfl (Or.inl rfl) (pe_lst pa_nil))
 (pss_cons (ps_set (i := 3) sc_invert_change.nd rfl (Or.inl rfl) pe_int)
 (pss_cons (ps_for (passes_of rfl) rfl (pi_seq (va 1)) (pg_tup rfl (pgs_cons (pg_name (i := 4) sc_invert_change.nd rfl (Or.inl rfl)) (pgs_cons (pg_name (i := 5) sc_invert_change.nd rfl (Or.inl rfl)) (pgs_cons (pg_name (i := 6) sc_invert_change.nd rfl (Or.inl rfl)) pgs_nil))))
 (pss_cons (ps_expr (pe_bm PySem.F.plainAttrs_list PySem.F.slot_list_append PySem.F.type_list_append mt_append (va 2) (pa_cons (pe_tup (pa_cons (pe_op o_add (va 4) (va 3)) (pa_cons (pe_op o_add (pe_op o_add (va 4) (va 3)) (pe_callB c_lenS (by rfl) (T.free 1) PySem.boot_len (pa_cons (va 6) pa_nil))) (pa_cons (pe_slice sl_str (va 0) (po_some (va 4)) (po_some (va 5))) pa_nil)))) pa_nil)))
 (pss_one (s_augadd (i := 3) sc_invert_change.nd rfl (Or.inl rfl) (pe_op o_sub (pe_callB c_lenS (by rfl) (T.free 1) PySem.boot_len (pa_cons (va 6) pa_nil)) (pe_op o_sub (va 5) (va 4)))))))
 (pss_one (ps_ret (pe_callTy call_tuple_of (by rfl) (T.free 5) (by decide +kernel) (pa_cons (va 2) pa_nil)))))))
theorem ok_kept_places (T : Fx fa fn K mg) : Def P w K mg base 1 (He.ga K "kept_places") ["size", "change"] (sp_kept K) := by
  obtain ⟨fd, F⟩ := T.c.def_ 13 (d := df_kept_places) rfl
  refine Def.of (k := 0) (N := N_kept_places) F sc_kept_places (fun _ _ _ _ _ _ us hl => match us, hl with | [_, _], _ => rfl) (fun vs H Q E h => by unfold sp_kept at h; split at h <;> first | rfl | exact h.elim) (fun cdv A outer s H vs Q E hr h => ⟨_, ?_, r_kept h⟩)
  exact (pss_cons (ps_set (i := 2) sc_kept_places.nd rfl (Or.inl rfl) (pe_lst pa_nil))
 (pss_cons (ps_set (i := 3) sc_kept_places.nd rfl (Or.inl rfl) pe_int)
 (pss_cons (ps_set (i := 4) sc_kept_places.nd rfl (Or.inr rfl) pe_int)
 (pss_cons (ps_for (passes_of rfl) rfl (pi_seq (va 1)) (pg_tup rfl (pgs_cons (pg_name (i := 5) sc_kept_places.nd rfl (Or.inl rfl)) (pgs_cons (pg_name (i := 6) sc_kept_places.nd rfl (Or.inl rfl)) (pgs_cons (pg_name (i := 7) sc_kept_places.nd rfl (Or.inl rfl)) pgs_nil))))
 (pss_cons (ps_expr (pe_bm PySem.F.plainAttrs_list PySem.F.slot_list_extend PySem.F.type_list_extend mt_extend (va 2) (pa_cons (e_lc (own := [("place", 8)]) (g := (gName 8)) rfl sc_kept_places.nd (pi_range2 rfl (T.free 6) (pa_cons (va 3) (pa_cons (va 5) pa_nil))) (blkOk_by (own := [("place", 8)]) (N := N_kept_places) (sc := defScope s_kept_places) (by decide +kernel)) (fun _ _ _ _ _ => (pg_name (i := 8) sc_kept_places.nd rfl (Or.inl rfl))) (fun _ _ _ _ _ => pts_nil) (fun _ _ _ _ _ => (pe_tup (pa_cons (va 8) (pa_cons (pe_op o_add (va 8) (va 4)) pa_nil))))) pa_nil)))
 (pss_cons (s_augadd (i := 4) sc_kept_places.nd rfl (Or.inr rfl) (pe_op o_sub (pe_callB c_lenS (by rfl) (T.free 1) PySem.boot_len (pa_cons (va 7) pa_nil)) (pe_op o_sub (va 6) (va 5))))
 (pss_one (ps_set (i := 3) sc_kept_places.nd rfl (Or.inl rfl) (va 6))))))
 (pss_cons (ps_expr (pe_bm PySem.F.plainAttrs_list PySem.F.slot_list_extend PySem.F.type_list_extend mt_extend (va 2) (pa_cons (e_lc (own := [("place", 8)]) (g := (gName 8)) rfl sc_kept_places.nd (pi_range2 rfl (T.free 6) (pa_cons (va 3) (pa_cons (va 0) pa_nil))) (blkOk_by (own := [("place", 8)]) (N := N_kept_places) (sc := defScope s_kept_places) (by decide +kernel)) (fun _ _ _ _ _ => (pg_name (i := 8) sc_kept_places.nd rfl (Or.inl rfl))) (fun _ _ _ _ _ => pts_nil) (fun _ _ _ _ _ => (pe_tup (pa_cons (va 8) (pa_cons (pe_op o_add (va 8) (va 4)) pa_nil))))) pa_nil)))
 (pss_one (ps_ret (va 2))))))))
theorem ok_join_changes (T : Fx fa fn K mg) (D_apply_change : Def P w K mg base 1 (He.ga K "apply_change") ["text", "change"] (sp_apply K)) (D_kept_places : Def P w K mg base 1 (He.ga K "kept_places") ["size", "change"] (sp_kept K)) : Def P w K mg base 2 (He.ga K "join_changes") ["text", "first", "second"] (sp_join K) := by
  obtain ⟨fd, F⟩ := T.c.def_ 14 (d := df_join_changes) rfl
  refine Def.of (k := 1) (N := N_join_changes) F sc_join_changes (fun _ _ _ _ _ _ us hl => match us, hl with | [_, _, _], _ => rfl) (fun vs H Q E h => by unfold sp_join at h; split at h <;> first | rfl | exact h.elim) (fun cdv A outer s H vs Q E hr h => ⟨_, ?_, r_join h⟩)
  exact (pss_cons (ps_set (i := 3) sc_join_changes.nd rfl (Or.inl rfl) (e_call D_apply_change (hr.mono (by omega)) rfl (T.glo 16) passL (pa_cons (va 0) (pa_cons (va 1) pa_nil))))
 (pss_cons (ps_set (i := 4) sc_join_changes.nd rfl (Or.inl rfl) (e_call D_apply_change (hr.mono (by omega)) rfl (T.glo 16) passL (pa_cons (va 3) (pa_cons (va 2) pa_nil))))
 (pss_cons (ps_set (i := 5) sc_join_changes.nd rfl (Or.inl rfl) (pe_lst pa_nil))
 (pss_cons (ps_set (i := 6) sc_join_changes.nd rfl (Or.inl rfl) pe_int)
 (pss_cons (ps_set (i := 7) sc_join_changes.nd rfl (Or.inl rfl) pe_int)
 (pss_cons (s_setDc (i := 10) (own := [("before", 8), ("behind", 9)]) (g := (gTup K 2 (gCons (gName 8) (gCons (gName 9) gNil)))) rfl sc_join_changes.nd rfl rfl (sw_trueD rfl rfl rfl (by decide +kernel)) (pi_list (e_call D_kept_places (hr.mono (by omega)) rfl (T.glo 17) passL (pa_cons (pe_callB c_lenS (by rfl) (T.free 1) PySem.boot_len (pa_cons (va 3) pa_nil)) (pa_cons (va 2) pa_nil)))) (blkOk_by (own := [("before", 8), ("behind", 9)]) (N := N_join_changes) (sc := defScope s_join_changes) (by decide +kernel)) (fun _ _ _ _ _ => (pg_tup rfl (pgs_cons (pg_name (i := 8) sc_join_changes.nd rfl (Or.inl rfl)) (pgs_cons (pg_name (i := 9) sc_join_changes.nd rfl (Or.inl rfl)) pgs_nil)))) (fun _ _ _ _ _ => pts_nil) (fun _ _ _ _ _ => (va 8)) (fun _ _ _ _ _ => (va 9)))
 (pss_cons (ps_for (passes_of rfl) rfl (pi_list (pe_op op_cat (e_call D_kept_places (hr.mono (by omega)) rfl (T.glo 17) passL (pa_cons (pe_callB c_lenS (by rfl) (T.free 1) PySem.boot_len (pa_cons (va 0) pa_nil)) (pa_cons (va 1) pa_nil))) (pe_lst (pa_cons (pe_tup (pa_cons (pe_callB c_lenS (by rfl) (T.free 1) PySem.boot_len (pa_cons (va 0) pa_nil)) (pa_cons (pe_callB c_lenS (by rfl) (T.free 1) PySem.boot_len (pa_cons (va 3) pa_nil)) pa_nil))) pa_nil)))) (pg_tup rfl (pgs_cons (pg_name (i := 8) sc_join_changes.nd rfl (Or.inl rfl)) (pgs_cons (pg_name (i := 11) sc_join_changes.nd rfl (Or.inl rfl)) pgs_nil)))
 (pss_cons (ps_set (i := 9) sc_join_changes.nd rfl (Or.inl rfl) (e_if (t_cmp o_eq (va 8) (pe_callB c_lenS (by rfl) (T.free 1) PySem.boot_len (pa_cons (va 0) pa_nil)) (nomark _)) (pe_callB c_lenS (by rfl) (T.free 1) PySem.boot_len (pa_cons (va 4) pa_nil)) (pe_dget1 (hu_of hr) (va 10) (va 11) (by first | exact ⟨rfl, rfl, rfl⟩ | constructor <;> rfl))))
 (pss_one (s_if (t_notN (va 9)) (pss_cons (s_if (PW.pt (w_or (t_cmp o_gt (va 8) (va 6) (nomark _)) (pw_or1 (t_cmp o_gt (va 9) (va 7) (nomark _))))) (pss_one (ps_expr (pe_bm PySem.F.plainAttrs_list PySem.F.slot_list_append PySem.F.type_list_append mt_append (va 5) (pa_cons (pe_tup (pa_cons (va 6) (pa_cons (va 8) (pa_cons (pe_slice sl_str (va 4) (po_some (va 7)) (po_some (va 9))) pa_nil)))) pa_nil)))) pss_nil)
 (pss_cons (ps_set (i := 6) sc_join_changes.nd rfl (Or.inl rfl) (pe_op o_add (va 8) pe_int))
 (pss_one (ps_set (i := 7) sc_join_changes.nd rfl (Or.inl rfl) (pe_op o_add (va 9) pe_int))))) pss_nil))))
 (pss_one (ps_ret (pe_callTy call_tuple_of (by rfl) (T.free 5) (by decide +kernel) (pa_cons (va 5) pa_nil)))))))))))
theorem ok_Lcarried (T : Fx fa fn K mg) (D_carry_place : Def P w K mg base 1 (He.ga K "carry_place") ["size", "change", "place"] (sp_carry K)) : Def P w K mg base 2 (He.ga K "_law_carried") ["_law_sizes", "_law_changes", "_law_place"] (sp_carried K) := by
  obtain ⟨fd, F⟩ := T.c.def_ 15 (d := df_Lcarried) rfl
  refine Def.of (k := 1) (N := N_Lcarried) F sc_Lcarried (fun _ _ _ _ _ _ us hl => match us, hl with | [_, _, _], _ => rfl) (fun vs H Q E h => by unfold sp_carried at h; split at h <;> first | rfl | exact h.elim) (fun cdv A outer s H vs Q E hr h => ⟨_, ?_, r_carried h⟩)
  exact (pss_cons (ps_for (passes_of rfl) rfl (pi_range1 rfl (T.free 6) (pa_cons pe_int pa_nil)) (pg_name (i := 3) sc_Lcarried.nd rfl (Or.inl rfl))
 (pss_one (s_if (t_notN (va 2)) (pss_one (ps_set (i := 2) sc_Lcarried.nd rfl (Or.inl rfl) (e_call D_carry_place (hr.mono (by omega)) rfl (T.glo 18) passL (pa_cons (pe_ix ix_seq (va 0) (va 3) (fun _ _ => rfl)) (pa_cons (pe_ix ix_seq (va 1) (va 3) (fun _ _ => rfl)) (pa_cons (va 2) pa_nil)))))) pss_nil)))
 (pss_one (ps_ret (va 2))))
theorem ok_law (T : Fx fa fn K mg) (D_Lpool : Def P w K mg base 1 (He.ga K "_law_pool") ["_law_script"] (sp_pool K)) (D_Lsize : Def P w K mg base 3 (He.ga K "_law_size") ["_law_pool_here"] sp_size) (D_Ltext : Def P w K mg base 3 (He.ga K "_law_text") ["_law_pool_here", "_law_size_here"] sp_text) (D_Lchange : Def P w K mg base 4 (He.ga K "_law_change") ["_law_pool_here", "_law_text_here"] (sp_change K)) (D_Lafter : Def P w K mg base 2 (He.ga K "_law_after") ["_law_text_here", "_law_change_here"] (sp_after K)) (D_join_changes : Def P w K mg base 2 (He.ga K "join_changes") ["text", "first", "second"] (sp_join K)) (D_Lsame : Def P w K mg base 5 (He.ga K "_law_same") ["_law_actual", "_law_due"] (sp_same K 4)) (D_apply_change : Def P w K mg base 1 (He.ga K "apply_change") ["text", "change"] (sp_apply K)) (D_invert_change : Def P w K mg base 1 (He.ga K "invert_change") ["text", "change"] (sp_inv K)) (D_Ltake : Def P w K mg base 2 (He.ga K "_law_take") ["_law_pool_here", "_law_many"] (sp_take 2)) (D_Lcarried : Def P w K mg base 2 (He.ga K "_law_carried") ["_law_sizes", "_law_changes", "_law_place"] (sp_carried K)) (D_carry_place : Def P w K mg base 1 (He.ga K "carry_place") ["size", "change", "place"] (sp_carry K)) {fd : FuncData} (F : FunD K "law" "law" (defArgs s_law) (defBody s_law) (defScope s_law) [] [] (He.ga K "law") fd) : FnOk P w K mg base (L2.CX P w) 7 (He.ga K "law") fd ["_law_script"] (Co.Tx.sp_law K) := by
  refine fn_by (k := 6) (N := N_law) F sc_law (fun vs H Q E h => by unfold Co.Tx.sp_law at h; split at h <;> first | rfl | exact h.elim) (fun cdv A outer s H vs Q E hr h => ⟨_, ?_, r_law05 h⟩)
  exact (pss_cons (ps_set (i := 1) sc_law.nd rfl (Or.inr rfl) (e_call D_Lpool (hr.mono (by omega)) rfl (T.glo 19) passL (pa_cons (va 0) pa_nil)))
 (pss_cons (ps_set (i := 2) sc_law.nd rfl (Or.inr rfl) (e_call D_Ltext (hr.mono (by omega)) rfl (T.glo 14) passL (pa_cons (va 1) (pa_cons (e_call D_Lsize (hr.mono (by omega)) rfl (T.glo 20) passL (pa_cons (va 1) pa_nil)) pa_nil))))
 (pss_cons (ps_set (i := 3) sc_law.nd rfl (Or.inr rfl) (pe_lst (pa_cons (va 2) pa_nil)))
 (pss_cons (ps_set (i := 4) sc_law.nd rfl (Or.inr rfl) (pe_lst pa_nil))
 (pss_cons (ps_for (passes_of rfl) rfl (pi_range1 rfl (T.free 6) (pa_cons pe_int pa_nil)) (pg_name (i := 5) sc_law.nd rfl (Or.inl rfl))
 (pss_cons (ps_expr (pe_bm PySem.F.plainAttrs_list PySem.F.slot_list_append PySem.F.type_list_append mt_append (va 4) (pa_cons (e_call D_Lchange (hr.mono (by omega)) rfl (T.glo 21) passL (pa_cons (va 1) (pa_cons (pe_ix ix_list (va 3) (pe_un u_neg pe_int) (fun _ _ => rfl)) pa_nil))) pa_nil)))
 (pss_one (ps_expr (pe_bm PySem.F.plainAttrs_list PySem.F.slot_list_append PySem.F.type_list_append mt_append (va 3) (pa_cons (e_call D_Lafter (hr.mono (by omega)) rfl (T.glo 22) passL (pa_cons (pe_ix ix_list (va 3) (pe_un u_neg pe_int) (fun _ _ => rfl)) (pa_cons (pe_ix ix_list (va 4) (pe_un u_neg pe_int) (fun _ _ => rfl)) pa_nil))) pa_nil))))))
 (pss_cons (ps_set (i := 6) sc_law.nd rfl (Or.inl rfl) (e_call D_join_changes (hr.mono (by omega)) rfl (T.glo 23) passL (pa_cons (va 2) (pa_cons (e_call D_join_changes (hr.mono (by omega)) rfl (T.glo 23) passL (pa_cons (va 2) (pa_cons (pe_ix ix_list (va 4) pe_int (fun _ _ => rfl)) (pa_cons (pe_ix ix_list (va 4) pe_int (fun _ _ => rfl)) pa_nil)))) (pa_cons (pe_ix ix_list (va 4) pe_int (fun _ _ => rfl)) pa_nil)))))
 (pss_cons (ps_set (i := 7) sc_law.nd rfl (Or.inl rfl) (e_call D_join_changes (hr.mono (by omega)) rfl (T.glo 23) passL (pa_cons (va 2) (pa_cons (pe_ix ix_list (va 4) pe_int (fun _ _ => rfl)) (pa_cons (e_call D_join_changes (hr.mono (by omega)) rfl (T.glo 23) passL (pa_cons (pe_ix ix_list (va 3) pe_int (fun _ _ => rfl)) (pa_cons (pe_ix ix_list (va 4) pe_int (fun _ _ => rfl)) (pa_cons (pe_ix ix_list (va 4) pe_int (fun _ _ => rfl)) pa_nil)))) pa_nil)))))
 (pss_cons (s_if (PW.pt (w_or (pt_not (t_val (e_call D_Lsame (hr.mono (by omega)) rfl (T.glo 7) passL (pa_cons (va 6) (pa_cons (va 7) pa_nil))))) (pw_or1 (pt_not (t_val (e_call D_Lsame (hr.mono (by omega)) rfl (T.glo 7) passL (pa_cons (e_call D_apply_change (hr.mono (by omega)) rfl (T.glo 16) passL (pa_cons (va 2) (pa_cons (va 6) pa_nil))) (pa_cons (pe_ix ix_list (va 3) pe_int (fun _ _ => rfl)) pa_nil)))))))) (pss_one (ps_ret pe_bl)) pss_nil)
 (pss_cons (s_setLc (i := 8) (own := [("_law_k", 5)]) (g := (gName 5)) rfl sc_law.nd rfl rfl (sw_true rfl rfl rfl (by decide +kernel)) (pi_range1 rfl (T.free 6) (pa_cons pe_int pa_nil)) (blkOk_by (own := [("_law_k", 5)]) (N := N_law) (sc := defScope s_law) (by decide +kernel)) (fun _ _ _ _ _ => (pg_name (i := 5) sc_law.nd rfl (Or.inl rfl))) (fun _ _ _ _ _ => pts_nil) (fun _ _ _ _ _ => (e_call D_invert_change (hr.mono (by omega)) rfl (T.glo 24) passL (pa_cons (pe_ix ix_list (va 3) (va 5) (fun _ _ => rfl)) (pa_cons (pe_ix ix_list (va 4) (va 5) (fun _ _ => rfl)) pa_nil)))))
 (pss_cons (ps_set (i := 9) sc_law.nd rfl (Or.inl rfl) (e_call D_join_changes (hr.mono (by omega)) rfl (T.glo 23) passL (pa_cons (pe_ix ix_list (va 3) pe_int (fun _ _ => rfl)) (pa_cons (e_call D_join_changes (hr.mono (by omega)) rfl (T.glo 23) passL (pa_cons (pe_ix ix_list (va 3) pe_int (fun _ _ => rfl)) (pa_cons (pe_ix ix_list (va 8) pe_int (fun _ _ => rfl)) (pa_cons (pe_ix ix_list (va 8) pe_int (fun _ _ => rfl)) pa_nil)))) (pa_cons (pe_ix ix_list (va 8) pe_int (fun _ _ => rfl)) pa_nil)))))
 (pss_cons (s_if (pt_not (t_val (e_call D_Lsame (hr.mono (by omega)) rfl (T.glo 7) passL (pa_cons (e_call D_invert_change (hr.mono (by omega)) rfl (T.glo 24) passL (pa_cons (va 2) (pa_cons (va 6) pa_nil))) (pa_cons (va 9) pa_nil))))) (pss_one (ps_ret pe_bl)) pss_nil)
 (pss_cons (s_setLc (i := 10) (own := [("_law_one", 14)]) (g := (gName 14)) rfl sc_law.nd rfl rfl (sw_true rfl rfl rfl (by decide +kernel)) (pi_list (va 3)) (blkOk_by (own := [("_law_one", 14)]) (N := N_law) (sc := defScope s_law) (by decide +kernel)) (fun _ _ _ _ _ => (pg_name (i := 14) sc_law.nd rfl (Or.inl rfl))) (fun _ _ _ _ _ => pts_nil) (fun _ _ _ _ _ => (pe_callB c_lenA (by rfl) (T.free 1) PySem.boot_len (pa_cons (va 14) pa_nil))))
 (pss_cons (ps_for (passes_of rfl) rfl (pi_list (pe_op op_cat (pe_lst (pa_cons pe_int (pa_cons (pe_callB c_lenS (by rfl) (T.free 1) PySem.boot_len (pa_cons (va 2) pa_nil)) (pa_cons (pe_op o_div (pe_callB c_lenS (by rfl) (T.free 1) PySem.boot_len (pa_cons (va 2) pa_nil)) pe_int) pa_nil)))) (e_lc (own := [("_law_k", 5)]) (g := (gName 5)) rfl sc_law.nd (pi_range1 rfl (T.free 6) (pa_cons pe_int pa_nil)) (blkOk_by (own := [("_law_k", 5)]) (N := N_law) (sc := defScope s_law) (by decide +kernel)) (fun _ _ _ _ _ => (pg_name (i := 5) sc_law.nd rfl (Or.inl rfl))) (fun _ _ _ _ _ => pts_nil) (fun _ _ _ _ _ => (e_call D_Ltake (hr.mono (by omega)) rfl (T.glo 2) passL (pa_cons (va 1) (pa_cons (pe_op o_add (pe_callB c_lenS (by rfl) (T.free 1) PySem.boot_len (pa_cons (va 2) pa_nil)) pe_int) pa_nil))))))) (pg_name (i := 11) sc_law.nd rfl (Or.inl rfl))
 (pss_one (s_if (pt_not (t_val (e_call D_Lsame (hr.mono (by omega)) rfl (T.glo 7) passL (pa_cons (e_call D_carry_place (hr.mono (by omega)) rfl (T.glo 18) passL (pa_cons (pe_callB c_lenS (by rfl) (T.free 1) PySem.boot_len (pa_cons (va 2) pa_nil)) (pa_cons (va 6) (pa_cons (va 11) pa_nil)))) (pa_cons (e_call D_Lcarried (hr.mono (by omega)) rfl (T.glo 25) passL (pa_cons (va 10) (pa_cons (va 4) (pa_cons (va 11) pa_nil)))) pa_nil))))) (pss_one (ps_ret pe_bl)) pss_nil)))
 (pss_cons (ps_set (i := 12) sc_law.nd rfl (Or.inl rfl) (pe_callTy call_tuple_of (by rfl) (T.free 5) (by decide +kernel) (pa_cons (e_lc (own := [("_law_start", 15), ("_law_stop", 16), ("_law_put", 17)]) (g := (gTup K 3 (gCons (gName 15) (gCons (gName 16) (gCons (gName 17) gNil))))) rfl sc_law.nd (pi_tup (va 6)) (blkOk_by (own := [("_law_start", 15), ("_law_stop", 16), ("_law_put", 17)]) (N := N_law) (sc := defScope s_law) (by decide +kernel)) (fun _ _ _ _ _ => (pg_tup rfl (pgs_cons (pg_name (i := 15) sc_law.nd rfl (Or.inl rfl)) (pgs_cons (pg_name (i := 16) sc_law.nd rfl (Or.inl rfl)) (pgs_cons (pg_name (i := 17) sc_law.nd rfl (Or.inl rfl)) pgs_nil))))) (fun _ _ _ _ _ => (pts_one (t_cmp o_lt (va 15) (va 16) (nomark _)))) (fun _ _ _ _ _ => (pe_tup (pa_cons (va 15) (pa_cons (va 16) (pa_cons (pe_slice sl_str (va 2) (po_some (va 15)) (po_some (va 16))) pa_nil)))))) pa_nil)))
 (pss_cons (ps_set (i := 13) sc_law.nd rfl (Or.inl rfl) (e_call D_join_changes (hr.mono (by omega)) rfl (T.glo 23) passL (pa_cons (va 2) (pa_cons (va 6) (pa_cons (va 9) pa_nil)))))
 (pss_one (ps_ret (e_and (e_call D_Lsame (hr.mono (by omega)) rfl (T.glo 7) passL (pa_cons (va 13) (pa_cons (va 12) pa_nil))) (pe_one (e_call D_Lsame (hr.mono (by omega)) rfl (T.glo 7) passL (pa_cons (e_call D_apply_change (hr.mono (by omega)) rfl (T.glo 16) passL (pa_cons (va 2) (pa_cons (va 13) pa_nil))) (pa_cons (va 2) pa_nil))))))))))))))))))))))
theorem facts {h : Heap} {f : Addr} (X : K.In h) (G : h.Ns mainGlobals mg) (hfa : mg ("law" : Str) = some (.ref f)) (c : He.SaysD fa fn K) :
    ∃ fd : FuncData, (∀ (s : Shared) (v : Value), BindsTo s fd ⟨[v], []⟩ [("_law_script", v)]) ∧ ∀ base : Heap, K.In base → base.Ns mainGlobals mg → FnOk P w K mg base CX0 7 f fd ["_law_script"] (Co.Tx.sp_law K) := by
  have T : Fx fa fn K mg := ⟨⟨h, X, G⟩, c⟩
  obtain ⟨fd, F⟩ := c.def_ 16 (d := df_law) rfl
  have e := hfa.symm.trans (T.glo 26)
  cases e
  have b := FunD.bindsA (ps := ["_law_script"]) F fun _ _ _ _ _ _ us hl => match us, hl with | [_], _ => rfl
  refine ⟨fd, fun s v => b s [v] rfl, fun base _ _ => ?_⟩
  have D_Lpool : Def P w K mg base 1 (He.ga K "_law_pool") ["_law_script"] (sp_pool K) := ok_Lpool T
  have D_Ltake : Def P w K mg base 2 (He.ga K "_law_take") ["_law_pool_here", "_law_many"] (sp_take 2) := ok_Ltake 1 T (ok_Ltake 0 T ((no_Ltake T).imp fun vs H Q E h => by unfold sp_take at h; split at h; exact absurd h.1 (by decide); exact h))
  have D_Lis_integer : Def P w K mg base 1 (He.ga K "_law_is_integer") ["_law_actual"] sp_isint := ok_Lis_integer T
  have D_Lsame : Def P w K mg base 5 (He.ga K "_law_same") ["_law_actual", "_law_due"] (sp_same K 4) := (ok_Lsame 3 T (ok_Lsame 2 T (ok_Lsame 1 T (ok_Lsame 0 T (((no_Lsame T).mono (by decide)).imp fun vs H Q E h => by unfold sp_same at h; split at h; obtain ⟨d, m, e, _⟩ := h; omega; exact h)  D_Lis_integer)  D_Lis_integer)  D_Lis_integer)  D_Lis_integer)
  have D_Lchar : Def P w K mg base 1 (He.ga K "_law_char") ["_law_cell"] sp_char := ok_Lchar T
  have D_Ltext : Def P w K mg base 3 (He.ga K "_law_text") ["_law_pool_here", "_law_size_here"] sp_text := ok_Ltext T D_Ltake D_Lchar
  have D_Lsize : Def P w K mg base 3 (He.ga K "_law_size") ["_law_pool_here"] sp_size := ok_Lsize T D_Ltake
  have D_Lchange : Def P w K mg base 4 (He.ga K "_law_change") ["_law_pool_here", "_law_text_here"] (sp_change K) := ok_Lchange T D_Ltake D_Ltext
  have D_Lmarked : Def P w K mg base 1 (He.ga K "_law_marked") ["_law_text_here", "_law_change_here"] (sp_marked K) := ok_Lmarked T
  have D_Lafter : Def P w K mg base 2 (He.ga K "_law_after") ["_law_text_here", "_law_change_here"] (sp_after K) := ok_Lafter T D_Lmarked
  have D_carry_place : Def P w K mg base 1 (He.ga K "carry_place") ["size", "change", "place"] (sp_carry K) := ok_carry_place T
  have D_apply_change : Def P w K mg base 1 (He.ga K "apply_change") ["text", "change"] (sp_apply K) := ok_apply_change T
  have D_invert_change : Def P w K mg base 1 (He.ga K "invert_change") ["text", "change"] (sp_inv K) := ok_invert_change T
  have D_kept_places : Def P w K mg base 1 (He.ga K "kept_places") ["size", "change"] (sp_kept K) := ok_kept_places T
  have D_join_changes : Def P w K mg base 2 (He.ga K "join_changes") ["text", "first", "second"] (sp_join K) := ok_join_changes T D_apply_change D_kept_places
  have D_Lcarried : Def P w K mg base 2 (He.ga K "_law_carried") ["_law_sizes", "_law_changes", "_law_place"] (sp_carried K) := ok_Lcarried T D_carry_place
  exact fn_to0 (ok_law T D_Lpool D_Lsize D_Ltext D_Lchange D_Lafter D_join_changes D_Lsame D_apply_change D_invert_change D_Ltake D_Lcarried D_carry_place F) (fun _ _ _ _ h => h)
end
abbrev R : PySem.W.OpenRow := PySem.W.OpenLaw.row PySem.Challenge.rw_tongues_k05_whole_rows_of_changes
abbrev hk : PySem.W.Hook := He.hookD 5 fa fn
def ob (s : PySem.W.SharedT) : He.AlD := He.obsDG 5 fa fn (HandSHeadRun.getT s)
theorem ob_eq (s : PySem.W.SharedT) : ob s = hk.obs s.abs := He.obsDG_eq (HandSHeadRun.getT_eq s)
def loose : List Str := ["apply_change", "invert_change", "carry_place", "kept_places", "join_changes", "_law_pool", "_law_take", "_law_char", "_law_text", "_law_size", "_law_change", "_law_marked", "_law_after", "_law_is_integer", "_law_same", "_law_carried"]
theorem run (w : World) : HandSHeadRun.RunEq R (PySem.W.view R.prog [18]) hk ob 3000 loose w := by
  intro os
  kernel_rfl
end Co.Txk05
open PySem PySem.W PySem.Calls PyProof.Rows
set_option maxRecDepth 100000 in
set_option maxHeartbeats 0 in
theorem PySem.Challenge.cw_tongues_k05_whole_rows_of_changes_holds : PySem.Challenge.rw_tongues_k05_whole_rows_of_changes.Holds := by
  w_on; o_law
  refine HandSHeadRun.head_any (r := OpenLaw.row PySem.Challenge.rw_tongues_k05_whole_rows_of_changes) (q := view (OpenLaw.row PySem.Challenge.rw_tongues_k05_whole_rows_of_changes).prog [18]) (H := Co.Txk05.hk) (ob := Co.Txk05.ob) (M := 3000) (loose := Co.Txk05.loose) (d := HandSHeadRun.topDef (OpenLaw.row PySem.Challenge.rw_tongues_k05_whole_rows_of_changes).prog 18) (kwd := []) Co.Txk05.ob_eq
    (by kernel_rfl) (fun s => by kernel_rfl) Co.Txk05.run (by kernel_rfl) (by kernel_rfl) (by kernel_rfl) (by rfl) (by first | assumption | decide +kernel) (by decide +kernel) ⟨rfl, rfl, rfl, rfl, rfl, by decide +kernel⟩ ?hw ?hc
  case hw => w_witness2
  case hc =>
    refine L2.walk_ofE (l := PySem.Challenge.rw_tongues_k05_whole_rows_of_changes) (n := 63) (k := 7) (x := "_law_script") (CX := L2.CX0) rfl (by decide) (by kernel_rfl) ⟨rfl, by decide, by decide⟩ ?F (fun _ _ _ _ z => z)
    intro w mg fa h Y G hmg0
    obtain ⟨K, KX, c⟩ := Y
    have hmg : mg ("law" : PySem.Str) = some (.ref fa) := by
      have e : (HandSHeadRun.topDef (OpenLaw.row PySem.Challenge.rw_tongues_k05_whole_rows_of_changes).prog 18).name = ("law" : PySem.Str) := by kernel_rfl
      rw [← e]
      exact hmg0
    obtain ⟨fd, hb, hF⟩ := Co.Txk05.facts (P := (PySem.Challenge.rw_tongues_k05_whole_rows_of_changes).prog) (w := w) KX G hmg c
    exact ⟨K, fd, (Co.Tx.sp_law K), KX, hb, fun H a ns hl _ hS => ⟨ns, hS, hl, fun _ => rfl⟩, hF⟩
end
