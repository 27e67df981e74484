import PyProof.Rows.All
import Wide.All
import OpenK.AllK
import Wide.FinOn
import PyProof.EqAt
import PyProof.EqKinds
import PyProof.TupleCall
import HandS.ForMost
import HandS.ForExc
import HandS.TryMany
import HandS.IsInst
import HandS.Flow
import HandS.Small
import HandS.CallSlots
import HandS.ExcIs
import HandS.Defaults
import HandS.Head0
import HandS.Head1
import HandS.Head2
import HandS.HeadEnd
import HandS.HeadHook1
import HandS.HeadHook2
import HandS.WideBits
import Lean
import HandS.StrMore
import HandS.DictComp
import HandS.Conv
import KE.GoesEnum
import KE.GoesMore
import HandS.ExcInit
import HandS.ExcField
import HandS.HeadHook4
import HandS.Deep
import HandS.Steps
import HandS.Text
import HandS.TupAny
import HandS.TupLen
import PyProof.P3Eq
import PyProof.P3In
import PyProof.NeData
import HandS.Replace
import HandS.More
import HandS.SetFor
import HandS.Strs
import HandS.Style
import HandS.SetBool
import HandS.SortInts
import HandS.Star
import PyProof.ReprRoads
import PyProof.ReprText
import PySem.Challenge.RW_tongues_k01_changes
set_option Elab.async false
set_option linter.all false
set_option maxRecDepth 100000
section
set_option maxHeartbeats 4000000
namespace Co
open PySem PySem.Spec PyProof.Rows L2
section
variable {X : Cx} {a b : Expr} {ta tb : TE} {pos : Pos}
theorem PE.imp {e : Expr} {t t' : TE} (h : PE X e t) (i : ∀ σ H Q, t' σ H Q → t σ H Q) : PE X e t' := ⟨fun pins s σ H Q I q => h.run pins s σ H Q I (i σ H Q q)⟩
theorem PT.imp {e : Expr} {t t' : TT} (h : PT X e t) (i : ∀ σ H Q, t' σ H Q → t σ H Q) : PT X e t' := ⟨fun pins s σ H Q I q => h.run pins s σ H Q I (i σ H Q q)⟩
theorem PW.imp {e : Expr} {t t' : TT} (h : PW X e t) (i : ∀ σ H Q, t' σ H Q → t σ H Q) : PW X e t' := ⟨fun wh pins s σ H Q I q => h.run wh pins s σ H Q I (i σ H Q q)⟩
theorem PS.imp {st : Stmt} {t t' : TS} (h : PS X st t) (i : ∀ D σ H, t' D σ H → t D σ H) : PS X st t' := ⟨fun pins s σ H D I q => h.run pins s σ H D I (i D σ H q)⟩
def tV (i : Nat) : TE := fun σ H Q => match σ[i]? with
  | some (some v) => Q v H
  | _ => False
theorem v_of {i : Nat} {σ : L2.St} {H : Hp} {Q : VK} (h : tV i σ H Q) : tVar i σ H Q := by
  unfold tV at h
  split at h
  · exact ⟨_, by assumption, h⟩
  · exact h.elim
theorem va (i : Nat) {x : Str} {pos : Pos} (hN : X.N[i]? = some x := by rfl) (hv : Vis X.env.scope x := by first | exact Or.inl rfl | exact Or.inr (Or.inl rfl) | exact Or.inr (Or.inr rfl)) (hd : (x == ("__debug__" : Str)) = false := by decide)
    (hcd : (x == ("__classdict__" : Str)) = false := by decide) : PE X (.Name x pos) (tV i) := PE.imp (pe_var hN hv hd hcd) fun _ _ _ => v_of
theorem OpR.imp {f : Value → Value → Sem Value} {r r' : R2} (h : OpR X f r) (i : ∀ x y H Q, r' x y H Q → r x y H Q) : OpR X f r' := fun pins s σ H x y v u Q I rx ry q => h pins s σ H x y v u Q I rx ry (i _ _ _ _ q)
theorem CallR.imp {f : Value} {r r' : List V → Hp → VK → Prop} (h : CallR X f r) (i : ∀ xs H Q, r' xs H Q → r xs H Q) : CallR X f r' := fun pins s σ H xs us Q I rx q => h pins s σ H xs us Q I rx (i _ _ _ q)
def fII (g : Int → Int → V) : R2 := fun x y H Q => match x, y with
  | .int i, .int j => Q (g i j) H
  | _, _ => False
theorem fII_of {g : Int → Int → V} {x y : V} {H : Hp} {Q : VK} (h : fII g x y H Q) : rI0 g x y H Q := by
  unfold fII at h
  split at h
  · exact ⟨_, _, rfl, rfl, h⟩
  · exact h.elim
def fIC (C : Int → Int → Prop) (g : Int → Int → V) : R2 := fun x y H Q => match x, y with
  | .int i, .int j => C i j ∧ Q (g i j) H
  | _, _ => False
theorem fIC_of {C : Int → Int → Prop} {g : Int → Int → V} {x y : V} {H : Hp} {Q : VK} (h : fIC C g x y H Q) : rI C g x y H Q := by
  unfold fIC at h
  split at h
  · exact ⟨_, _, rfl, rfl, h.1, h.2⟩
  · exact h.elim
def fAdd : R2 := fII fun i j => .int (i + j)
def fSub : R2 := fII fun i j => .int (i - j)
def CMulL (i j : Int) : Prop := (-(2 ^ 64) < i ∧ i < 2 ^ 64) ∨ (-(2 ^ 64) < j ∧ j < 2 ^ 64) ∨ (i.natAbs < 2 ^ 250 ∧ j.natAbs < 2 ^ 250)
theorem CMulL.ok {i j : Int} (h : CMulL i j) : IntMulOk i j := by
  rcases h with h | h | ⟨h1, h2⟩
  · exact CMul.ok (.inl h)
  · exact CMul.ok (.inr h)
  · refine CMulX.ok ?_
    have a := intBits_le h1
    have b := intBits_le h2
    unfold CMulX
    omega
def fMul : R2 := fIC CMulL fun i j => .int (i * j)
def fMod : R2 := fIC (fun _ j => 0 < j) fun i j => .int (i % j)
def CDivL (i j : Int) : Prop := 0 < j ∧ j < 2 ^ 250
theorem noPy {i j : Int} (h : CDivL i j) : Builtin.divisionGoesByPylong i j = false := by
  obtain ⟨h1, h2⟩ := h
  have h3 : j.natAbs < 2 ^ 250 := by omega
  have h4 : j.natAbs ≠ 0 := by omega
  have h5 : j.natAbs.log2 < 250 := (Nat.log2_lt h4).mpr h3
  have h6 : (j == 0) = false := by simp; omega
  have h7 : ¬ j.natAbs.log2 / 30 + 1 > 300 := by omega
  unfold Builtin.divisionGoesByPylong
  simp only [h6, Bool.false_eq_true, if_false, Bool.and_eq_false_iff, decide_eq_false_iff_not]
  exact .inl h7
def fDiv : R2 := fIC CDivL fun i j => .int (i / j)
def fPow : R2 := fIC CPow fun i j => .int (i ^ j.toNat)
theorem o_add : OpR X (binaryOp .Add) fAdd := OpR.imp op_add fun _ _ _ _ => fII_of
theorem o_sub : OpR X (binaryOp .Sub) fSub := OpR.imp op_sub fun _ _ _ _ => fII_of
theorem o_mul : OpR X (binaryOp .Mult) fMul := OpR.imp (r := rI CMulL fun i j => .int (i * j)) (opI fun _ _ _ _ _ _ _ hc q => mul_int q hc.ok) fun _ _ _ _ => fIC_of
theorem o_mod : OpR X (binaryOp .Mod) fMod := OpR.imp op_mod fun _ _ _ _ => fIC_of
theorem o_div : OpR X (binaryOp .FloorDiv) fDiv := OpR.imp (r := rI CDivL fun i j => .int (i / j)) (opI fun i j _ _ _ _ _ hc q => by
  have hj : (0 : Int) < j := hc.1
  rw [← Int.fdiv_eq_ediv_of_nonneg i (Int.le_of_lt hj)] at q
  exact floordiv_int (by omega) q (.inl (noPy hc))) fun _ _ _ _ => fIC_of
theorem o_pow : OpR X (binaryOp .Pow) fPow := OpR.imp op_pow fun _ _ _ _ => fIC_of
def fLt : R2 := fII fun i j => .bl (decide (i < j))
def fLe : R2 := fII fun i j => .bl (decide (i ≤ j))
def fGt : R2 := fII fun i j => .bl (decide (j < i))
def fGe : R2 := fII fun i j => .bl (decide (j ≤ i))
theorem o_lt : OpR X (compareOp .Lt) fLt := OpR.imp op_lt fun _ _ _ _ => fII_of
theorem o_le : OpR X (compareOp .LtE) fLe := OpR.imp op_le fun _ _ _ _ => fII_of
theorem o_gt : OpR X (compareOp .Gt) fGt := OpR.imp op_gt fun _ _ _ _ => fII_of
theorem o_ge : OpR X (compareOp .GtE) fGe := OpR.imp op_ge fun _ _ _ _ => fII_of
def fAddS : R2 := fun x y H Q => match x, y with
  | .str i, .str j => i.length + j.length ≤ sizeLine ∧ Q (.str (i ++ j)) H
  | _, _ => False
theorem o_addS : OpR X (binaryOp .Add) fAddS := OpR.imp op_add_str fun x y H Q h => by
  unfold fAddS at h
  split at h
  · exact ⟨_, _, rfl, rfl, h.1, h.2⟩
  · exact h.elim
def eqS : V → V → Option Bool
  | .non, .non => some true | .non, .int _ => some false | .int _, .non => some false | .non, .bl _ => some false | .bl _, .non => some false | .non, .str _ => some false | .str _, .non => some false
  | .int i, .int j => some (decide (i = j)) | .bl i, .bl j => some (decide (i = j)) | .str i, .str j => some (decide (i = j))
  | .int _, .str _ => some false | .str _, .int _ => some false | .bl _, .str _ => some false | .str _, .bl _ => some false
  | _, _ => none
theorem eqS_of {x y : V} {b : Bool} (h : eqS x y = some b) : scal x y = true ∧ decide (x = y) = b := by
  cases x <;> cases y <;> simp only [eqS, Option.some.injEq, reduceCtorEq] at h <;> subst h <;> simp [scal]
def fEq : R2 := fun x y H Q => match eqS x y with
  | some b => Q (.bl b) H
  | none => False
def fNe : R2 := fun x y H Q => match eqS x y with
  | some b => Q (.bl (!b)) H
  | none => False
theorem o_eq : OpR X (compareOp .Eq) fEq := OpR.imp op_eq fun x y H Q h => by
  unfold fEq at h
  split at h
  · rename_i b e
    obtain ⟨h1, h2⟩ := eqS_of e
    exact ⟨h1, by rw [h2]; exact h⟩
  · exact h.elim
theorem o_ne : OpR X (compareOp .NotEq) fNe := OpR.imp op_ne fun x y H Q h => by
  unfold fNe at h
  split at h
  · rename_i b e
    obtain ⟨h1, h2⟩ := eqS_of e
    exact ⟨h1, by rw [h2]; exact h⟩
  · exact h.elim
def fNeg : V → Hp → VK → Prop := fun x H Q => match x with
  | .int i => Q (.int (-i)) H
  | _ => False
theorem u_neg : UnR X (unaryOp .USub) fNeg := fun pins s σ H x v Q I r h => by
  unfold fNeg at h
  split at h
  · exact un_neg pins s σ H _ v Q I r ⟨_, rfl, h⟩
  · exact h.elim
def tBo (t : TE) : TT := fun σ H Q => t σ H fun x H1 => match x with
  | .bl c => Q c H1
  | _ => False
theorem bl_fun {Q : Bool → Hp → Prop} : (fun (x : V) (H1 : Hp) => ∃ c, x = .bl c ∧ Q c H1) = fun x H1 => match x with
  | .bl c => Q c H1
  | _ => False := by
  funext x H1
  cases x <;> simp
theorem t_cmp {op : CmpOp} {r : R2} (ho : OpR X (compareOp op) r) (ha : PE X a ta) (hb : PE X b tb) (hm : behindInMarks op b = false) : PT X (.Compare a [op] [b] pos) (tBo (tOp r ta tb)) := PT.imp (pt_cmpR ho ha hb hm) fun σ H Q h => by
  unfold tTest
  rw [bl_fun]
  exact h
def two (c : Bool) (p q : Prop) : Prop := (c = true → p) ∧ (c = false → q)
theorem two_eq {c : Bool} {p q : Prop} : (if c = true then p else q) = two c p q := by
  cases c <;> simp [two]
theorem twoT {p q : Prop} (h : p) : two true p q := ⟨fun _ => h, fun e => nomatch e⟩
theorem twoF {p q : Prop} (h : q) : two false p q := ⟨fun e => (nomatch e), fun _ => h⟩
def uAnd (t u : TT) : TT := fun σ H Q => t σ H fun c H1 => two c (u σ H1 Q) (Q false H1)
def uOr (t u : TT) : TT := fun σ H Q => t σ H fun c H1 => two c (Q true H1) (u σ H1 Q)
theorem w_and {tA tB' : TT} {rest : List Expr} (ha : PT X a tA) (hb : PW X (.BoolOp .And (b :: rest) pos) tB') : PW X (.BoolOp .And (a :: b :: rest) pos) (uAnd tA tB') := PW.imp (pw_and ha hb) fun σ H Q h => by
  unfold tAnd
  simp only [two_eq]
  exact h
theorem w_or {tA tB' : TT} {rest : List Expr} (ha : PT X a tA) (hb : PW X (.BoolOp .Or (b :: rest) pos) tB') : PW X (.BoolOp .Or (a :: b :: rest) pos) (uOr tA tB') := PW.imp (pw_or ha hb) fun σ H Q h => by
  unfold tOr
  simp only [two_eq]
  exact h
def bv (x : V) (k : Bool → Prop) : Prop := match x with
  | .bl c => k c
  | _ => False
def uAndV (ta tb : TE) : TE := fun σ H Q => ta σ H fun x H1 => bv x fun c => two c (tb σ H1 Q) (Q (.bl false) H1)
def uNotV (ta : TE) : TE := fun σ H Q => ta σ H fun x H1 => bv x fun c => Q (.bl (!c)) H1
def uIf (t : TT) (ta tb : TE) : TE := fun σ H Q => t σ H fun c H1 => two c (ta σ H1 Q) (tb σ H1 Q)
theorem e_if {c : Expr} {tA : TT} (hc : PT X c tA) (ha : PE X a ta) (hb : PE X b tb) : PE X (.IfExp c a b pos) (uIf tA ta tb) := PE.imp (pe_ifExp hc ha hb) fun σ H Q h => by
  unfold tIf
  simp only [two_eq]
  exact h
def uIfS (c : TT) (t u : TS) : TS := fun D σ H => c σ H fun b H1 => two b (t D σ H1) (u D σ H1)
theorem s_if {c : Expr} {p q : List Stmt} {tc : TT} {t u : TS} (hc : PT X c tc) (ha : PSs X p t) (hb : PSs X q u) : PS X (.If c p q pos) (uIfS tc t u) := PS.imp (ps_if hc ha hb) fun D σ H h => by
  unfold tIfS
  simp only [two_eq]
  exact h
def cInt : List V → Hp → VK → Prop := fun xs H Q => match xs with
  | [.int i] => Q (.int i) H
  | [.bl k] => Q (.int (if k then 1 else 0)) H
  | _ => False
theorem c_int : CallR X (.type "int") cInt := CallR.imp call_int1 fun xs H Q h => by
  unfold cInt at h
  split at h
  · exact .inl ⟨_, rfl, h⟩
  · exact .inr ⟨_, rfl, h⟩
  · exact h.elim
end
structure Def (P : Program) (w : World) (K : PySem.W.Frag) (mg : Str → Option Value) (base : Heap) (k : Nat) (f : Addr) (ps : List Str) (sp : Sp) : Prop where
  ex : ∃ fd, FnOk P w K mg base (L2.CX P w) k f fd ps sp ∧ Binds K fd ps []
  kp : PySem.W.keepIn K (.ref f) = true
section
variable {P : Program} {w : World} {K : PySem.W.Frag} {mg : Str → Option Value} {base : Heap} {k : Nat} {f : Addr} {ps : List Str} {sp : Sp}
theorem Def.mono {j : Nat} (d : Def P w K mg base j f ps sp) (h : j ≤ k) : Def P w K mg base k f ps sp := ⟨let ⟨fd, F, b⟩ := d.ex; ⟨fd, F.mono h, b⟩, d.kp⟩
theorem Def.imp {sp' : Sp} (d : Def P w K mg base k f ps sp) (h : ∀ vs H Q E, sp' vs H Q E → sp vs H Q E) : Def P w K mg base k f ps sp' := ⟨let ⟨fd, F, b⟩ := d.ex; ⟨fd, F.imp h, b⟩, d.kp⟩
theorem Def.of {x qual : Str} {params : Arguments} {body : List Stmt} {scope : Scope} {fd : FuncData} {N : List Str} (F : FunD K x qual params body scope [] [] f fd) (S : FnScope N ps scope)
    (hb : ∀ (kV doc pm : Value) (an : Option Addr) (cdv ct : Value) (us : List Value), us.length = ps.length → bindArgs (PySem.W.fnOf x qual params body scope .none kV doc pm an cdv ct) ⟨us, []⟩ = pure (ps.zip us))
    (len : ∀ vs H Q E, sp vs H Q E → vs.length = ps.length)
    (hbody : ∀ (cdv : Value) (A : Around) (outer : List Env) (s : Shared) (H : Hp) (vs : List V) (Q : VK) (E : XK), Room k (A.deeper (envOfC qual scope s.heap.objs.size f cdv)) → sp vs H Q E →
      ∃ t, PSs (cxOf (L2.CX P w) P w K mg base N qual scope f cdv A outer s H E) body t ∧ t { nx := fun _ H' => Q .non H', rt := Q } (start N vs) H) : Def P w K mg base (k + 1) f ps sp :=
  ⟨⟨fd, F.ok S len hbody, FunD.bindsN F hb⟩, F.kp⟩
theorem Def.zero {x qual : Str} {params : Arguments} {body : List Stmt} {scope : Scope} {fd : FuncData} (F : FunD K x qual params body scope [] [] f fd)
    (hb : ∀ (kV doc pm : Value) (an : Option Addr) (cdv ct : Value) (us : List Value), us.length = ps.length → bindArgs (PySem.W.fnOf x qual params body scope .none kV doc pm an cdv ct) ⟨us, []⟩ = pure (ps.zip us)) : Def P w K mg base 0 f ps (fun _ _ _ _ => False) :=
  ⟨⟨fd, ⟨fun _ _ _ _ h => h.elim, fun _ _ _ _ _ _ _ _ _ _ _ _ _ h => h.elim⟩, FunD.bindsN F hb⟩, F.kp⟩
end
section
variable {X : Cx} {k : Nat} {f C : Addr} {ps : List Str} {sp : Sp} {E : XK} {x m : Str} {p pos apos : Pos} {e o : Expr} {es : List Expr} {ta : TE} {t : TA}
def uCall (sp : Sp) (E : XK) (t : TA) : TE := fun σ H Q => t σ H fun vs H1 => sp vs H1 Q E
theorem e_call (d : Def X.prog X.w X.K X.mg X.base k f ps sp) (hr : Room k X.A) (hg : Gl X x) (hm : X.mg x = some (.ref f)) (hx : Passes (L2.CX X.prog X.w) X E)
    (ha : PA X (e :: es) t) (hdb : (x == ("__debug__" : Str)) = false := by decide) (he : starEach (e :: es) X.env = (false, eval e X.env) :: starEach es X.env := by rfl) (hpl : (backTo pos (starEach es X.env)).any (·.1) = false := by rfl) :
    PE X (.Call (.Name x p) (e :: es) [] pos) (uCall sp E t) := by
  obtain ⟨fd, F, b⟩ := d.ex
  refine PE.imp (pe_call (pos := pos) (p := p) F hr hg hm d.kp b .nil hx ha hdb he hpl) fun σ H Q h => ?_
  unfold tCall
  simp only [List.append_nil]
  exact h
def uCallS (sp : Sp) (E : L2.St → XK) (t : TA) : TE := fun σ H Q => t σ H fun vs H1 => sp vs H1 Q (E σ)
theorem e_callS {E : L2.St → XK} (d : Def X.prog X.w X.K X.mg X.base k f ps sp) (hr : Room k X.A) (hg : Gl X x) (hm : X.mg x = some (.ref f)) (hx : ∀ σ, PassesAt (L2.CX X.prog X.w) X σ (E σ))
    (ha : PA X (e :: es) t) (hdb : (x == ("__debug__" : Str)) = false := by decide) (he : starEach (e :: es) X.env = (false, eval e X.env) :: starEach es X.env := by rfl) (hpl : (backTo pos (starEach es X.env)).any (·.1) = false := by rfl) :
    PE X (.Call (.Name x p) (e :: es) [] pos) (uCallS sp E t) := by
  obtain ⟨fd, F, b⟩ := d.ex
  exact pe_callS F hr hg hm d.kp b hx ha hdb he hpl
theorem pass_none {σ : L2.St} {W : L2.St → XK} (h : ∀ σ c d H, ¬ W σ c d H) : PassesAt (L2.CX X.prog X.w) X σ (W σ) := fun _ _ _ _ _ _ c => by
  obtain ⟨_, _, _, _, _, _, _, _, _, _, _, _, z⟩ := c
  exact (h _ _ _ _ z).elim
end
end Co
end

section
set_option maxHeartbeats 4000000
namespace Co
open PySem PySem.Spec PyProof.Rows L2
abbrev St := L2.St
section
variable {X : Cx} {a b : Expr} {ta tb : TE} {pos : Pos}
def cMin2 : List V → Hp → VK → Prop := fun xs H Q => match xs with
  | [.int i, .int j] => Q (.int (if j < i then j else i)) H
  | _ => False
theorem c_min2 (hc : X.calm = true) : CallR X (.builtin "min") cMin2 := CallR.imp (call_min2 hc) fun xs H Q h => by
  unfold cMin2 at h
  split at h
  · exact ⟨_, _, rfl, h⟩
  · exact h.elim
def rTupOf (K : PySem.W.Frag) : List V → Hp → VK → Prop := fun xs H Q => ∃ p ys, xs = [.ref p] ∧ ((SqL K H p ys ∧ ∀ l, H l = none → Q (.ref l) (upd H l (.tup ys))) ∨ (SqT K H p ys ∧ Q (.ref p) H))
def isiS : V → String → Option Bool
  | .non, c => if c = "tuple" ∨ c = "list" ∨ c = "dict" ∨ c = "int" ∨ c = "str" ∨ c = "bool" then some false else none
  | .bl _, c => if c = "bool" ∨ c = "int" then some true else if c = "tuple" ∨ c = "list" ∨ c = "dict" ∨ c = "str" then some false else none
  | .int _, c => if c = "int" then some true else if c = "tuple" ∨ c = "list" ∨ c = "dict" ∨ c = "str" ∨ c = "bool" then some false else none
  | .str _, c => if c = "str" then some true else if c = "tuple" ∨ c = "list" ∨ c = "dict" ∨ c = "int" ∨ c = "bool" then some false else none
  | _, _ => none
def isiR (t c : String) : Prop := (t = "list" ∨ t = "tuple" ∨ t = "dict") ∧ (c = "tuple" ∨ c = "list" ∨ c = "dict" ∨ c = "int" ∨ c = "str" ∨ c = "bool")
def cIsi (K : PySem.W.Frag) : List V → Hp → VK → Prop := fun xs H Q => match xs with
  | [.ref p, .ty c] => ∃ t, TyX K H (.ref p) (.type t) ∧ isiR t c ∧ Q (.bl (decide (t = c))) H
  | [x, .ty c] => (match isiS x c with
    | some b => Q (.bl b) H
    | none => False)
  | _ => False
theorem isi_kit {K : PySem.W.Frag} {t c : String} (h : isiR t c) : PySem.W.kitOne K (.type t) (.type c) = some (decide (t = c)) := by
  obtain ⟨h1, h2⟩ := h
  rcases h1 with rfl | rfl | rfl <;> rcases h2 with rfl | rfl | rfl | rfl | rfl | rfl <;> exact kit_ty (by decide +kernel)
theorem isiS_ok {K : PySem.W.Frag} {H : Hp} {x : V} {c : String} {b : Bool} (h : isiS x c = some b) : ∃ t, TyX K H x (.type t) ∧ PySem.W.kitOne K (.type t) (.type c) = some b := by
  cases x <;> simp only [isiS] at h
  case non =>
    split at h
    · rename_i q
      cases h
      rcases q with rfl | rfl | rfl | rfl | rfl | rfl <;> exact ⟨"NoneType", .base .non, kit_ty (by decide +kernel)⟩
    · cases h
  case bl v =>
    split at h
    · rename_i q
      cases h
      rcases q with rfl | rfl <;> exact ⟨"bool", .base (.bl v), kit_ty (by decide +kernel)⟩
    · split at h
      · rename_i q
        cases h
        rcases q with rfl | rfl | rfl | rfl <;> exact ⟨"bool", .base (.bl v), kit_ty (by decide +kernel)⟩
      · cases h
  case int v =>
    split at h
    · rename_i q
      cases h
      subst q
      exact ⟨"int", .base (.int v), kit_ty (by decide +kernel)⟩
    · split at h
      · rename_i q
        cases h
        rcases q with rfl | rfl | rfl | rfl | rfl <;> exact ⟨"int", .base (.int v), kit_ty (by decide +kernel)⟩
      · cases h
  case str v =>
    split at h
    · rename_i q
      cases h
      subst q
      exact ⟨"str", .base (.str v), kit_ty (by decide +kernel)⟩
    · split at h
      · rename_i q
        cases h
        rcases q with rfl | rfl | rfl | rfl | rfl <;> exact ⟨"str", .base (.str v), kit_ty (by decide +kernel)⟩
      · cases h
  all_goals cases h
theorem c_isi : CallR X (.builtin "isinstance") (cIsi X.K) := CallR.imp call_isi fun xs H Q h => by
  unfold cIsi at h
  split at h
  · obtain ⟨t, ty, r, q⟩ := h
    exact ⟨_, _, _, _, _, rfl, .ty _, ty, isi_kit r, q⟩
  · split at h
    · rename_i b e
      obtain ⟨t, ty, k⟩ := isiS_ok (K := X.K) (H := H) e
      exact ⟨_, _, _, _, _, rfl, .ty _, ty, k, h⟩
    · exact h.elim
  · exact h.elim
theorem tyx_l {K : PySem.W.Frag} {H : Hp} {p : Addr} {xs : List V} (h : SqL K H p xs) : TyX K H (.ref p) (.type "list") := by
  rcases h with (h | ⟨o, h⟩) | ⟨o, its, n, h, c, _⟩
  · exact .base (.lst h)
  · exact .base (.frz h)
  · exact .kList h c
theorem tyx_t {K : PySem.W.Frag} {H : Hp} {p : Addr} {xs : List V} (h : SqT K H p xs) : TyX K H (.ref p) (.type "tuple") := by
  rcases h with (h | ⟨o, h⟩) | ⟨o, its, n, h, c, _⟩
  · exact .base (.tup h)
  · exact .fTuple h
  · exact .kTuple h c
def SqA (K : PySem.W.Frag) (H : Hp) (a : Addr) (xs : List V) : Prop := SqL K H a xs ∨ SqT K H a xs
def iSeq (K : PySem.W.Frag) (tl : TE) : TI := fun σ H R => tl σ H fun x H1 => ∃ a, x = .ref a ∧ (((∃ xs, SqL K H1 a xs) ∧ R (Itl K a) H1) ∨ ((∃ xs, SqT K H1 a xs) ∧ R (Itt K a) H1))
theorem pi_seq {tg l : Expr} {tl : TE} (hl : PE X l tl) : PI X tg l (iSeq X.K tl) := by
  refine ⟨fun pins s σ H R I h => ?_⟩
  refine thn (hl.run pins s σ H _ I h) fun v s1 ⟨x, H1, I1, r1, q1⟩ => ?_
  obtain ⟨a, e, q⟩ := q1
  subst e
  cases r1
  rcases q with ⟨⟨xs, hq⟩, q⟩ | ⟨⟨xs, hq⟩, q⟩
  · obtain ⟨its, rv, p, hz⟩ := I1.list hq
    refine wpAny_pyIter_list p.isList ?_
    refine ⟨s1.heap.objs.size, [s1.heap.objs.size], _, _, H1, rfl, I1.kept (t' := s1.toks) fun b o e => Heap.get?_push_of_some _ e, turn_list a _, ⟨_, Heap.get?_push_size _ rfl, rfl, rfl⟩, fun b hb => ?_, q⟩
    have e : b = s1.heap.objs.size := by simpa using hb
    subst e
    exact I1.fpOk (Nat.le_refl _) (I1.hok.fresh (Nat.le_refl _))
  · obtain ⟨its, rv, p, hz⟩ := I1.tuple hq
    refine wpAny_pyIter_tuple (show s1.heap.IsTuple a its.toArray from p) ?_
    refine ⟨s1.heap.objs.size, [s1.heap.objs.size], _, _, H1, rfl, I1.kept (t' := s1.toks) fun b o e => Heap.get?_push_of_some _ e, turn_tuple a _, ⟨_, Heap.get?_push_size _ rfl, rfl, rfl⟩, fun b hb => ?_, q⟩
    have e : b = s1.heap.objs.size := by simpa using hb
    subst e
    exact I1.fpOk (Nat.le_refl _) (I1.hok.fresh (Nat.le_refl _))
end
structure Fx (fa : List He.Fa) (fn : List He.DefD) (K : PySem.W.Frag) (mg : Str → Option Value) : Prop where
  ex : ∃ h : Heap, K.In h ∧ h.Ns mainGlobals mg
  c : He.SaysD fa fn K
section
variable {fa : List He.Fa} {fn : List He.DefD} {K : PySem.W.Frag} {mg : Str → Option Value}
theorem Fx.glo (T : Fx fa fn K mg) (i : Nat) {x : Str} (h : fa[i]? = some (.glo x) := by rfl) : mg x = some (.ref (He.ga K x)) := let ⟨_, KX, G⟩ := T.ex; He.glo_ok KX G (T.c.fact i h)
theorem Fx.free (T : Fx fa fn K mg) (i : Nat) {x : Str} (h : fa[i]? = some (.free x) := by rfl) : mg x = none := let ⟨_, KX, G⟩ := T.ex; He.free_ok KX G (T.c.fact i h)
theorem Fx.cls (T : Fx fa fn K mg) (i : Nat) {x : Str} (h : fa[i]? = some (.cls x) := by rfl) : Cls K (He.ga K x) := He.cls_ok (T.c.fact i h)
end
end Co
end

section
set_option maxHeartbeats 4000000
namespace Co
open PySem PySem.Spec PyProof.Rows L2
section
variable {fa : List He.Fa} {fn : List He.DefD} {K : PySem.W.Frag} {mg : Str → Option Value}
theorem Fx.exm (T : Fx fa fn K mg) (i : Nat) {x y : Str} {b : Bool} (h : fa[i]? = some (.exm x y b) := by rfl) : PySem.W.exmOne K (.ref (He.ga K x)) (.ref (He.ga K y)) = some b := He.exm_ok (T.c.fact i h)
end
def uLc (wi : TI) (g : TG) (tt : TT) (te : TE) (vs : List Nat) : TE := fun σ H Q => wi σ H fun J H1 => ∀ D, H1 D = none → ∃ W : Nat → Nat → Hp → Prop, (∃ m, W 0 m (upd H1 D (.lst []))) ∧ ∀ i m H, W i m H →
  (J.stop i H ∧ Q (.ref D) H) ∨ (J.go i H ∧ ∃ Nx : Hp → Prop, (∀ H', Nx H' → ∃ m', m' < m ∧ W (i + 1) m' H') ∧ ∀ x H', J.yld i H x H' → g x (wipe σ vs) H' fun σ2 H2 => wipe σ2 vs = wipe σ vs ∧ tt σ2 H2 fun b H3 =>
    two b (te σ2 H3 fun y H4 => ∃ acc, H4 D = some (.lst acc) ∧ acc.length < sizeLine ∧ Nx (upd H4 D (.lst (acc ++ [y])))) (Nx H3))
theorem lc_eq {wi : TI} {g : TG} {tt : TT} {te : TE} {vs : List Nat} : tLc wi g tt te vs = uLc wi g tt te vs := by
  unfold tLc uLc
  simp only [two_eq]
section
variable {X : Cx}
theorem e_lc {elt tg iter : Expr} {ifs : List Expr} {scope : Scope} {own : List (Str × Nat)} {pos : Pos} {wi : TI} {g : TG} {tt : TT} {te : TE} (hc : X.calm = true) (hN : X.N.Nodup) (hi : PI X tg iter wi) (ok : BlkOk X.N X.env.scope scope own)
    (hg : ∀ (s : Shared) (H : Hp) (C : Addr) (cl : List (Str × Addr)) (fp : List Addr), PG (X.blk s H scope (compEnvC scope cl C X.env) fp) tg g) (ht : ∀ (s : Shared) (H : Hp) (C : Addr) (cl : List (Str × Addr)) (fp : List Addr), PTs (X.blk s H scope (compEnvC scope cl C X.env) fp) ifs tt)
    (he : ∀ (s : Shared) (H : Hp) (C : Addr) (cl : List (Str × Addr)) (fp : List Addr), PE (X.blk s H scope (compEnvC scope cl C X.env) fp) elt te) (hs : ∀ x, foldedSetIterable iter X.env x = pure x := by intro _; rfl) :
    PE X (.ListComp elt [⟨tg, iter, ifs, 0⟩] scope pos) (uLc wi g tt te (own.map (·.2))) := lc_eq ▸ pe_lc hc hN hi ok hg ht he hs
end
def LcTurn (g : TG) (tt : TT) (te : TE) (vs : List Nat) (σ : St) (D : Addr) (x : V) (H : Hp) (Nx : Hp → Prop) : Prop :=
  g x (wipe σ vs) H fun σ2 H2 => wipe σ2 vs = wipe σ vs ∧ tt σ2 H2 fun b H3 =>
    two b (te σ2 H3 fun y H4 => ∃ acc, H4 D = some (.lst acc) ∧ acc.length < sizeLine ∧ Nx (upd H4 D (.lst (acc ++ [y])))) (Nx H3)
theorem lcL {K : PySem.W.Frag} {tl : TE} {g : TG} {tt : TT} {te : TE} {vs : List Nat} {σ : St} {H : Hp} {Q : VK} (h : tl σ H fun x H1 => ∃ a xs, x = .ref a ∧ SqL K H1 a xs ∧ ∀ D, H1 D = none → ∃ Pv : Nat → Hp → Prop, Pv 0 (upd H1 D (.lst [])) ∧
      (∀ i H, i ≤ xs.length → Pv i H → SqL K H a xs) ∧ (∀ i x H, xs[i]? = some x → Pv i H → LcTurn g tt te vs σ D x H (Pv (i + 1))) ∧ ∀ H, Pv xs.length H → Q (.ref D) H)
    (mono : ∀ Q Q' : VK, (∀ v H1, Q v H1 → Q' v H1) → tl σ H Q → tl σ H Q') : uLc (iList K tl) g tt te vs σ H Q := by
  refine mono _ _ (fun v H1 q => ?_) h
  obtain ⟨a, xs, e, hx, k⟩ := q
  subst e
  refine ⟨a, rfl, ⟨xs, hx⟩, fun D hD => ?_⟩
  obtain ⟨Pv, h0, hl, hs, hd⟩ := k D hD
  refine ⟨fun i m H => m = xs.length - i ∧ i ≤ xs.length ∧ Pv i H, ⟨xs.length, by simp, Nat.zero_le _, h0⟩, ?_⟩
  rintro i m H ⟨rfl, hi, p⟩
  have q := hl i H hi p
  by_cases hlt : i < xs.length
  · refine .inr ⟨⟨xs, xs[i], q, by simp [hlt]⟩, Pv (i + 1), fun H' p' => ⟨xs.length - (i + 1), by omega, rfl, hlt, p'⟩, fun x H' y => ?_⟩
    obtain ⟨e, y⟩ := y
    subst e
    exact hs i x _ (y xs q) p
  · have e : i = xs.length := by omega
    subst e
    exact .inl ⟨⟨xs, q, Nat.le_refl _⟩, hd H p⟩
def Fr (S : List Addr) (H H' : Hp) : Prop := ∀ b o, H b = some o → b ∉ S → H' b = some o
theorem Fr.refl (S : List Addr) (H : Hp) : Fr S H H := fun _ _ h _ => h
theorem Fr.trans {S : List Addr} {H H1 H2 : Hp} (a : Fr S H H1) (b : Fr S H1 H2) : Fr S H H2 := fun c o h n => b c o (a c o h n) n
theorem Fr.mono {S S' : List Addr} {H H1 : Hp} (a : Fr S H H1) (h : ∀ b ∈ S, b ∈ S') : Fr S' H H1 := fun c o e n => a c o e fun z => n (h c z)
theorem Fr.of {S : List Addr} {H H' : Hp} (a : Same H H') : Fr S H H' := fun b o h _ => a b o h
theorem Fr.at1 {p q : Addr} {H H' : Hp} {o : HO} (a : Fr [p] H H') (h : H q = some o) (n : q ≠ p) : H' q = some o := a q o h (by simp [n])
theorem Fr.same {H H' : Hp} (a : Fr [] H H') : Same H H' := fun b o h => a b o h (by simp)
theorem Fr.new {S : List Addr} {H H' : Hp} {p : Addr} {o : HO} (a : Fr S H H') (h : H' p = none) : Fr S H (upd H' p o) := fun b u e n => by
  have q := a b u e n
  rw [upd_ne (ne_of_none q h)]
  exact q
theorem Fr.wr {S : List Addr} {H H' : Hp} {p : Addr} {o : HO} (a : Fr S H H') (h : p ∈ S) : Fr S H (upd H' p o) := fun b u e n => by
  rw [upd_ne (show b ≠ p from fun z => n (by rw [z]; exact h))]
  exact a b u e n
theorem Fr.loc {S : List Addr} {H H' : Hp} {p : Addr} {o : HO} (a : Fr S H H') (h : H p = none) : Fr S H (upd H' p o) := fun b u e n => by
  rw [upd_ne (ne_of_none e h)]
  exact a b u e n
theorem same_new {H H' : Hp} {p : Addr} {o : HO} (a : Same H H') (h : H' p = none) : Same H (upd H' p o) := fun b u e => by
  rw [upd_ne (ne_of_none (a b u e) h)]
  exact a b u e
theorem same_loc {H H' : Hp} {p : Addr} {o : HO} (a : Same H H') (h : H p = none) : Same H (upd H' p o) := fun b u e => by
  rw [upd_ne (ne_of_none e h)]
  exact a b u e
theorem same_grow0 {M : Hp} {p : Addr} {o : HO} (h : M p = none) : Same M (upd M p o) := fun b u e => by
  rw [upd_ne (ne_of_none e h)]
  exact e
theorem keep_new {H : Hp} {p q : Addr} {o o' : HO} (h : H p = none) (e : H q = some o) : upd H p o' q = some o := by
  rw [upd_ne (ne_of_none e h)]
  exact e
theorem keep_ne {H : Hp} {p q : Addr} {o o' : HO} (n : q ≠ p) (e : H q = some o) : upd H p o' q = some o := by
  rw [upd_ne n]
  exact e
theorem sqT_same {K : PySem.W.Frag} {H H' : Hp} {a : Addr} {xs : List V} (e : Same H H') (h : SqT K H a xs) : SqT K H' a xs := by
  rcases h with (h | ⟨o, h⟩) | h
  · exact .inl (.inl (e _ _ h))
  · exact .inl (.inr ⟨o, e _ _ h⟩)
  · exact .inr h
theorem atNat {α : Type} {xs : List α} {i : Int} {v : α} (h0 : 0 ≤ i) (h : xs[i.toNat]? = some v) : atI xs i = some v := by
  have e : i = ((i.toNat : Nat) : Int) := by omega
  rw [e]
  exact atI_nat h
end Co
end

section
set_option maxHeartbeats 4000000
namespace Co
open PySem PySem.Spec PyProof.Rows L2
section
variable {X : Cx}
def LenR (K : PySem.W.Frag) (H : Hp) (p : Addr) (n : Nat) : Prop := (∃ ys, SqA K H p ys ∧ n = ys.length) ∨ ∃ kvs, H p = some (.dK kvs) ∧ n = kvs.length
def cLenA (K : PySem.W.Frag) : List V → Hp → VK → Prop := fun xs H Q => match xs with
  | [.str z] => z.length ≤ sizeLine ∧ Q (.int z.length) H
  | [.ref p] => ∃ n, LenR K H p n ∧ Q (.int (n : Nat)) H
  | _ => False
theorem c_lenA : CallR X (.builtin "len") (cLenA X.K) := CallR.imp (CallR.or call_len_seq (CallR.or call_len_str call_lenD)) fun xs H Q h => by
  unfold cLenA at h
  split at h
  · exact .inr (.inl ⟨_, rfl, h⟩)
  · obtain ⟨n, ⟨ys, hs, rfl⟩ | ⟨kvs, hs, rfl⟩, q⟩ := h
    · exact .inl ⟨_, _, rfl, hs, q⟩
    · exact .inr (.inr ⟨_, _, rfl, hs, q⟩)
  · exact h.elim
end
theorem lenL {K : PySem.W.Frag} {H : Hp} {p : Addr} {ys : List V} (h : H p = some (.lst ys)) : LenR K H p ys.length := .inl ⟨_, .inl (SqL.of h), rfl⟩
structure Pool (H : Hp) (p q : Addr) (ns : List Int) (i d s : Int) : Prop where
  hp : H p = some (.lst [.ref q, .int i, .int d, .int s])
  hq : H q = some (.lst (ns.map V.int))
  ne : q ≠ p
  nn : ∀ n ∈ ns, 0 ≤ n
  hi : 0 ≤ i
  hd : 0 ≤ d
  hs : 0 ≤ s
  hs2 : s < 2147483647
def PoolAt (H : Hp) (p q : Addr) : Prop := ∃ ns i d s, Pool H p q ns i d s
def sp_pool (K : PySem.W.Frag) : Sp := fun vs H Q _ => match vs with
  | [.ref a] => ∃ ns : List Int, SqL K H a (ns.map V.int) ∧ ns.length ≤ 63 ∧ ∀ p q H', H p = none → H q = none → PoolAt H' p q → Same H H' → Q (.ref p) H'
  | _ => False
def sp_take (n : Nat) : Sp := fun vs H Q _ => match vs with
  | [.ref p, .int m] => 0 < n ∧ ∃ q, (∃ ns i d s, Pool H p q ns i d s ∧ (n = 1 → 0 < d)) ∧ 0 < m ∧ m < 2 ^ 250 ∧ ∀ (r : Int) H', 0 ≤ r → r < m → PoolAt H' p q → Fr [p] H H' → Q (.int r) H'
  | _ => False
def t_Lpool (K : PySem.W.Frag) : TS :=
 (tRet (tLst (tCons (uLc (iList K (tV 0)) (gName 1) tYes (uIf (tBo (tOp fGe (tV 1) (tC (.int 0)))) (tOp fMul (tC (.int 2)) (tV 1)) (tOp fSub (tOp fMul (tUn fNeg (tC (.int 2))) (tV 1)) (tC (.int 1)))) ([("_law_cell", 1)].map (·.2))) (tCons (tC (.int 0)) (tCons (tC (.int 0)) (tCons (tC (.int 17)) tNil))))))
def t_Ltake (K : PySem.W.Frag) (sp : Sp) : TS :=
 (tSeq (uIfS (tBo (tOp fGt (tOp (rIxL K) (tV 0) (tC (.int 2))) (tC (.int 0)))) (tSeq (tAsg (tOp fMod (tCB cInt (tCons (tOp (rIxL K) (tV 0) (tC (.int 2))) tNil)) (tV 1)) (gName 2))
 (tSeq (tAsg (tOp fDiv (tOp (rIxL K) (tV 0) (tC (.int 2))) (tV 1)) (gSub (tV 0) (tC (.int 2)) rSetL))
 (tRet (tV 2)))) tNext)
 (tSeq (tAsg (tC (.int 0)) (gName 3))
 (tSeq (uIfS (tBo (tOp fLt (tOp (rIxL K) (tV 0) (tC (.int 1))) (tCB (cLenA K) (tCons (tOp (rIxL K) (tV 0) (tC (.int 0))) tNil)))) (tAsg (tOp (rIx K) (tOp (rIxL K) (tV 0) (tC (.int 0))) (tOp (rIxL K) (tV 0) (tC (.int 1)))) (gName 3)) tNext)
 (tSeq (tAsg (tOp fAdd (tOp (rIxL K) (tV 0) (tC (.int 1))) (tC (.int 1))) (gSub (tV 0) (tC (.int 1)) rSetL))
 (tSeq (uIfS (tBo (tOp fGe (tV 3) (tOp fPow (tC (.int 10)) (tC (.int 18))))) (tSeq (tAsg (tOp fDiv (tV 3) (tC (.int 2))) (gSub (tV 0) (tC (.int 2)) rSetL))
 (tRet (uCall sp E0 (tCons (tV 0) (tCons (tV 1) tNil))))) tNext)
 (tSeq (tAsg (tOp fMod (tCB cInt (tCons (tOp fAdd (tOp fAdd (tOp fMul (tOp (rIxL K) (tV 0) (tC (.int 3))) (tC (.int 48271))) (tOp fMul (tV 3) (tC (.int 69621)))) (tOp fMul (tOp (rIxL K) (tV 0) (tC (.int 1))) (tC (.int 613)))) tNil)) (tC (.int 2147483647))) (gSub (tV 0) (tC (.int 3)) rSetL))
 (tSeq (tAsg (tOp fMod (tCB cInt (tCons (tOp fAdd (tOp fAdd (tOp fMul (tOp (rIxL K) (tV 0) (tC (.int 3))) (tOp (rIxL K) (tV 0) (tC (.int 3)))) (tOp fMul (tOp (rIxL K) (tV 0) (tC (.int 3))) (tC (.int 7919)))) (tC (.int 104729))) tNil)) (tC (.int 1000000007))) (gName 4))
 (tRet (tOp fMod (tCB cInt (tCons (tOp fDiv (tV 4) (tC (.int 3))) tNil)) (tV 1))))))))))
abbrev Dn (Q : VK) : Ends := { nx := fun _ H' => Q .non H', rt := Q }
theorem PoolAt.fr {H H' : Hp} {p q : Addr} {S : List Addr} (h : PoolAt H p q) (f : Fr S H H') (n1 : p ∉ S) (n2 : q ∉ S) : PoolAt H' p q := by
  obtain ⟨ns, i, d, s, P⟩ := h
  exact ⟨ns, i, d, s, ⟨f _ _ P.hp n1, f _ _ P.hq n2, P.ne, P.nn, P.hi, P.hd, P.hs, P.hs2⟩⟩
theorem PoolAt.same {H H' : Hp} {p q : Addr} (h : PoolAt H p q) (f : Same H H') : PoolAt H' p q := h.fr (S := []) (Fr.of f) (by simp) (by simp)
theorem PoolAt.take {H : Hp} {p q : Addr} (h : PoolAt H p q) : ∃ ns i d s, Pool H p q ns i d s ∧ (2 = 1 → 0 < d) := by
  obtain ⟨ns, i, d, s, P⟩ := h
  exact ⟨ns, i, d, s, P, fun e => absurd e (by decide)⟩
theorem PoolAt.ex {H : Hp} {p q : Addr} (h : PoolAt H p q) : (∃ o, H p = some o) ∧ (∃ o, H q = some o) ∧ p ≠ q := by
  obtain ⟨ns, i, d, s, P⟩ := h
  exact ⟨⟨_, P.hp⟩, ⟨_, P.hq⟩, P.ne.symm⟩
theorem mapInt_get {ns : List Int} {i : Nat} {x : V} (h : (ns.map V.int)[i]? = some x) : ∃ z, x = .int z ∧ ns[i]? = some z := by
  rw [List.getElem?_map] at h
  cases e : ns[i]? with
  | none => rw [e] at h; cases h
  | some z => rw [e] at h; exact ⟨z, (Option.some.inj h).symm, rfl⟩
theorem r_Lpool {K : PySem.W.Frag} {vs : List V} {H : Hp} {Q : VK} {E : XK} (h : sp_pool K vs H Q E) : t_Lpool K (Dn Q) (start ["_law_script", "_law_cell"] vs) H := by
  unfold sp_pool at h
  split at h
  · rename_i a
    obtain ⟨ns, hs, hl, k⟩ := h
    unfold t_Lpool tRet tLst tCons
    refine lcL ?_ (fun Q Q' i q => i _ _ q)
    refine ⟨a, _, rfl, hs, fun D hD => ?_⟩
    refine ⟨fun i H' => ∃ ms : List Int, H' D = some (.lst (ms.map V.int)) ∧ (∀ n ∈ ms, 0 ≤ n) ∧ ms.length ≤ i ∧ Same H H', ⟨[], upd_same, by simp, Nat.le_refl _, same_new (Same.refl H) hD⟩, fun i H' _ ⟨_, _, _, _, s⟩ => s.seq hs, ?_, ?_⟩
    · rintro i x H' hx ⟨ms, h1, h2, h3, s⟩
      have hil : i < ns.length := by
        have := (List.getElem?_eq_some_iff.mp hx).1
        simpa using this
      obtain ⟨z, rfl, -⟩ := mapInt_get hx
      refine ⟨rfl, ⟨fun _ => ?_, fun e => nomatch e⟩⟩
      have fin : ∀ w : Int, 0 ≤ w → ∃ acc, H' D = some (.lst acc) ∧ acc.length < sizeLine ∧ ∃ ms : List Int, (upd H' D (.lst (acc ++ [V.int w]))) D = some (.lst (ms.map V.int)) ∧ (∀ n ∈ ms, 0 ≤ n) ∧ ms.length ≤ i + 1 ∧ Same H (upd H' D (.lst (acc ++ [V.int w]))) := fun w hw => by
        refine ⟨_, h1, ?_, ms ++ [w], ?_, ?_, ?_, same_loc s hD⟩
        · rw [List.length_map]
          exact small1000 (by omega)
        · rw [upd_same, List.map_append]
          rfl
        · intro n hn
          rcases List.mem_append.mp hn with hn | hn
          · exact h2 n hn
          · simp at hn
            omega
        · simp
          omega
      refine ⟨fun e => ?_, fun e => ?_⟩
      · have e' : 0 ≤ z := of_decide_eq_true e
        exact ⟨.inl ⟨by decide, by decide⟩, fin _ (by omega)⟩
      · have e' : ¬ 0 ≤ z := of_decide_eq_false e
        exact ⟨.inl ⟨by decide, by decide⟩, fin _ (by omega)⟩
    · rintro H' ⟨ms, h1, h2, h3, s⟩
      refine ⟨by show 4 ≤ sizeLine; rw [sizeLine_eq]; omega, fun p hp => ?_⟩
      refine k p D _ (s.free hp) hD ⟨ms, 0, 0, 17, ⟨upd_same, keep_new hp h1, ne_of_none h1 hp, h2, by decide, by decide, by decide, by decide⟩⟩ (same_new s hp)
  · exact h.elim
theorem r_Ltake {K : PySem.W.Frag} {n : Nat} {vs : List V} {H : Hp} {Q : VK} {E : XK} (h : sp_take (n + 1) vs H Q E) : t_Ltake K (sp_take n) (Dn Q) (start ["_law_pool_here", "_law_many", "_law_digit", "_law_cell", "_law_mixed"] vs) H := by
  unfold sp_take at h
  split at h
  · rename_i p m
    obtain ⟨_, q, ⟨ns, i, d, s, P, hd1⟩, hm, hm2, k⟩ := h
    refine ⟨_, _, _, _, rfl, rfl, SqL.of P.hp, rfl, ⟨fun e => ?_, fun e => ?_⟩⟩
    · have e' : 0 < d := of_decide_eq_true e
      refine ⟨_, _, _, _, rfl, rfl, SqL.of P.hp, rfl, ⟨hm, ?_⟩⟩
      refine ⟨_, _, _, _, rfl, rfl, SqL.of P.hp, rfl, ⟨⟨hm, hm2⟩, ?_⟩⟩
      refine ⟨_, _, _, _, rfl, rfl, P.hp, rfl, ?_⟩
      refine k _ _ (Int.emod_nonneg _ (by omega)) (Int.emod_lt_of_pos _ hm) ⟨ns, i, d / m, s, ⟨upd_same, keep_ne P.ne P.hq, P.ne, P.nn, P.hi, Int.ediv_nonneg P.hd (by omega), P.hs, P.hs2⟩⟩ ?_
      exact (Fr.refl _ _).wr (by simp)
    · have e' : ¬ 0 < d := of_decide_eq_false e
      have hn : n ≠ 0 := fun z => by
        subst z
        exact e' (hd1 rfl)
      refine ⟨_, _, _, _, rfl, rfl, SqL.of P.hp, rfl, ?_⟩
      refine ⟨_, _, _, _, rfl, rfl, SqL.of P.hp, rfl, ⟨_, lenL P.hq, ?_⟩⟩
      have tail : ∀ c : Int, 0 ≤ c → ∀ σ' : St, σ' = [some (.ref p), some (.int m), none, some (.int c), none] →
          (tSeq (tAsg (tOp fAdd (tOp (rIxL K) (tV 0) (tC (.int 1))) (tC (.int 1))) (gSub (tV 0) (tC (.int 1)) rSetL))
 (tSeq (uIfS (tBo (tOp fGe (tV 3) (tOp fPow (tC (.int 10)) (tC (.int 18))))) (tSeq (tAsg (tOp fDiv (tV 3) (tC (.int 2))) (gSub (tV 0) (tC (.int 2)) rSetL))
 (tRet (uCall (sp_take n) E0 (tCons (tV 0) (tCons (tV 1) tNil))))) tNext)
 (tSeq (tAsg (tOp fMod (tCB cInt (tCons (tOp fAdd (tOp fAdd (tOp fMul (tOp (rIxL K) (tV 0) (tC (.int 3))) (tC (.int 48271))) (tOp fMul (tV 3) (tC (.int 69621)))) (tOp fMul (tOp (rIxL K) (tV 0) (tC (.int 1))) (tC (.int 613)))) tNil)) (tC (.int 2147483647))) (gSub (tV 0) (tC (.int 3)) rSetL))
 (tSeq (tAsg (tOp fMod (tCB cInt (tCons (tOp fAdd (tOp fAdd (tOp fMul (tOp (rIxL K) (tV 0) (tC (.int 3))) (tOp (rIxL K) (tV 0) (tC (.int 3)))) (tOp fMul (tOp (rIxL K) (tV 0) (tC (.int 3))) (tC (.int 7919)))) (tC (.int 104729))) tNil)) (tC (.int 1000000007))) (gName 4))
 (tRet (tOp fMod (tCB cInt (tCons (tOp fDiv (tV 4) (tC (.int 3))) tNil)) (tV 1))))))) (Dn Q) σ' H := by
        rintro c hc σ' rfl
        refine ⟨_, _, _, _, rfl, rfl, SqL.of P.hp, rfl, ?_⟩
        refine ⟨_, _, _, _, rfl, rfl, P.hp, rfl, ?_⟩
        refine ⟨⟨by decide, by decide, by decide⟩, ⟨fun e2 => ?_, fun e2 => ?_⟩⟩
        · have e3 : (10 : Int) ^ (Int.toNat 18) ≤ c := of_decide_eq_true e2
          have e4 : (10 : Int) ^ (Int.toNat 18) = 1000000000000000000 := by decide
          refine ⟨⟨by decide, by decide⟩, ?_⟩
          refine ⟨_, _, _, _, rfl, rfl, upd_same, rfl, ?_⟩
          refine ⟨by omega, q, ⟨ns, i + 1, c / 2, s, ⟨upd_same, keep_ne P.ne (keep_ne P.ne P.hq), P.ne, P.nn, by have := P.hi; omega, by omega, P.hs, P.hs2⟩, fun _ => by omega⟩, hm, hm2, fun r H' h0 h1 h2 h3 => ?_⟩
          exact k r H' h0 h1 h2 ((((Fr.refl [p] H).wr (by simp)).wr (by simp)).trans h3)
        · refine ⟨_, _, _, _, rfl, rfl, SqL.of upd_same, rfl, ⟨.inr (.inl ⟨by decide, by decide⟩), ⟨.inr (.inl ⟨by decide, by decide⟩), ?_⟩⟩⟩
          refine ⟨_, _, _, _, rfl, rfl, SqL.of upd_same, rfl, ⟨.inr (.inl ⟨by decide, by decide⟩), ⟨(show (0 : Int) < 2147483647 by decide), ?_⟩⟩⟩
          refine ⟨_, _, _, _, rfl, rfl, upd_same, rfl, ?_⟩
          have hs1 : 0 ≤ (s * 48271 + c * 69621 + (i + 1) * 613) % 2147483647 ∧ (s * 48271 + c * 69621 + (i + 1) * 613) % 2147483647 < 2147483647 := by omega
          refine ⟨_, _, _, _, rfl, rfl, SqL.of upd_same, rfl, ?_⟩
          refine ⟨_, _, _, _, rfl, rfl, SqL.of upd_same, rfl, ⟨.inl ⟨by show -(2 ^ 64) < (s * 48271 + c * 69621 + (i + 1) * 613) % 2147483647; omega, by show (s * 48271 + c * 69621 + (i + 1) * 613) % 2147483647 < 2 ^ 64; omega⟩, ?_⟩⟩
          refine ⟨_, _, _, _, rfl, rfl, SqL.of upd_same, rfl, ⟨.inr (.inl ⟨by decide, by decide⟩), ⟨(show (0 : Int) < 1000000007 by decide), ?_⟩⟩⟩
          refine ⟨⟨by decide, by decide⟩, ⟨hm, ?_⟩⟩
          refine k _ _ (Int.emod_nonneg _ (by omega)) (Int.emod_lt_of_pos _ hm) ⟨ns, i + 1, d, (s * 48271 + c * 69621 + (i + 1) * 613) % 2147483647, ⟨upd_same, keep_ne P.ne (keep_ne P.ne P.hq), P.ne, P.nn, by have := P.hi; omega, P.hd, hs1.1, hs1.2⟩⟩ ?_
          exact ((Fr.refl [p] H).wr (by simp)).wr (by simp)
      refine ⟨fun e2 => ?_, fun e2 => ?_⟩
      · have e3 : i < ((ns.map V.int).length : Nat) := of_decide_eq_true e2
        rw [List.length_map] at e3
        have hi := P.hi
        have hil : i.toNat < ns.length := by omega
        refine ⟨_, _, _, _, rfl, rfl, SqL.of P.hp, rfl, ?_⟩
        refine ⟨_, _, _, _, rfl, rfl, SqL.of P.hp, rfl, ?_⟩
        refine .inl ⟨_, _, _, .int ns[i.toNat], rfl, rfl, SqL.of P.hq, atNat hi (by rw [List.getElem?_map, List.getElem?_eq_getElem hil]; rfl), ?_⟩
        exact tail _ (P.nn _ (List.getElem_mem hil)) _ rfl
      · exact tail 0 (by decide) _ rfl
  · exact h.elim
end Co
end

section
set_option maxHeartbeats 4000000
namespace Co
open PySem PySem.Spec PyProof.Rows L2
def sp_isint : Sp := fun vs H Q _ => match vs with
  | [.int i] => Q (.bl true) H
  | _ => False
def t_Lis_integer (K : PySem.W.Frag) : TS :=
 (tRet (uAndV (tCB (cIsi K) (tCons (tV 0) (tCons (tC (.ty "int")) tNil))) (uNotV (tCB (cIsi K) (tCons (tV 0) (tCons (tC (.ty "bool")) tNil))))))
theorem r_Lis_integer {K : PySem.W.Frag} {x : Str} {vs : List V} {H : Hp} {Q : VK} {E : XK} (h : sp_isint vs H Q E) : t_Lis_integer K (Dn Q) (start [x] vs) H := by
  unfold sp_isint at h
  split at h
  · exact ⟨fun _ => h, fun e => nomatch e⟩
  · exact h.elim
theorem isi_l {K : PySem.W.Frag} {H : Hp} {p : Addr} {xs : List V} {c : String} {Q : VK} (h : SqL K H p xs) (hc : c = "tuple" ∨ c = "list" ∨ c = "dict" ∨ c = "int" ∨ c = "str" ∨ c = "bool") (q : Q (.bl (decide ("list" = c))) H) : cIsi K [.ref p, .ty c] H Q := ⟨"list", tyx_l h, ⟨.inl rfl, hc⟩, q⟩
theorem isi_t {K : PySem.W.Frag} {H : Hp} {p : Addr} {xs : List V} {c : String} {Q : VK} (h : SqT K H p xs) (hc : c = "tuple" ∨ c = "list" ∨ c = "dict" ∨ c = "int" ∨ c = "str" ∨ c = "bool") (q : Q (.bl (decide ("tuple" = c))) H) : cIsi K [.ref p, .ty c] H Q := ⟨"tuple", tyx_t h, ⟨.inr (.inl rfl), hc⟩, q⟩
local macro_rules | `(tactic| walk_at "no") => `(tactic| refine ⟨fun e => absurd e (by decide), fun _ => ?_⟩)
local macro_rules | `(tactic| walk_at "yes") => `(tactic| refine ⟨fun _ => ?_, fun e => absurd e (by decide)⟩)
local macro_rules | `(tactic| walk_at "isl") => `(tactic| refine ⟨"list", tyx_l (by assumption), ⟨.inl rfl, by decide⟩, ?_⟩)
local macro_rules | `(tactic| walk_at "ist") => `(tactic| refine ⟨"tuple", tyx_t (by assumption), ⟨.inr (.inl rfl), by decide⟩, ?_⟩)
end Co
end

section
set_option maxHeartbeats 4000000
namespace Co
open PySem PySem.Spec PyProof.Rows L2
end Co
end

section
set_option maxHeartbeats 4000000
namespace Co
open PySem PySem.Spec PyProof.Rows L2
abbrev S (l : List Nat) : Str := ⟨l.toArray⟩
theorem S_len (l : List Nat) : (S l).length = l.length := by show l.toArray.size = _; simp
theorem S_eq (z : Str) : z = S z.cps.toList := by cases z; rfl
section
variable {X : Cx}
theorem MtR.imp {id : String} {r r' : V → List V → Hp → VK → Prop} (h : MtR X id r) (i : ∀ x xs H Q, r' x xs H Q → r x xs H Q) : MtR X id r' := fun pins s σ H x xs v us Q I rx rs q => h pins s σ H x xs v us Q I rx rs (i _ _ _ _ q)
def rJoinS (K : PySem.W.Frag) : V → List V → Hp → VK → Prop := fun x xs H Q => match x, xs with
  | .str a, [.ref p] => ∃ ys : List Str, SqA K H p (ys.map V.str) ∧ (ys.map (·.length)).sum + ys.length * a.length ≤ 16777216 ∧ Q (.str (Txt.join a ys)) H
  | _, _ => False
theorem m_join : MtR X "str.join" (rJoinS X.K) := MtR.imp mt_join fun x xs H Q h => by
  unfold rJoinS at h
  split at h
  · obtain ⟨ys, h1, h2, h3⟩ := h
    exact ⟨_, _, ys, rfl, rfl, h1, h2, h3⟩
  · exact h.elim
end
theorem S_app (a b : List Nat) : S a ++ S b = S (a ++ b) := by
  show Str.append _ _ = _
  unfold Str.append
  simp
theorem cutS_nat {l : List Nat} {a b : Nat} (h : b ≤ l.length) (h2 : a ≤ l.length) : cutS (S l) (some (a : Int)) (some (b : Int)) = S ((l.drop a).take (b - a)) := by
  unfold cutS
  rw [HT.sIx_nat, HT.sIx_nat, S_len, Nat.min_eq_left h, Nat.min_eq_left h2]
theorem cutS_from {l : List Nat} {a : Nat} (h : a ≤ l.length) : cutS (S l) (some (a : Int)) none = S (l.drop a) := by
  unfold cutS
  rw [HT.sIx_nat, HT.sIx_none, S_len, Nat.min_eq_left h]
  show S (((l.drop a)).take (l.length - a)) = _
  rw [List.take_of_length_le (by simp)]
theorem oneD {p : Prop} [Decidable p] {T E : Prop} (h : p → T) (k : ¬ p → E) : two (decide p) T E := ⟨fun e => h (of_decide_eq_true e), fun e => k (of_decide_eq_false e)⟩
theorem notD {p : Prop} [Decidable p] {T E : Prop} (h : ¬ p → T) (k : p → E) : two (!decide p) T E := by
  by_cases z : p
  · rw [decide_eq_true z]
    exact ⟨fun e => (nomatch e), fun _ => k z⟩
  · rw [decide_eq_false z]
    exact ⟨fun _ => h z, fun e => (nomatch e)⟩
section
variable {X : Cx}
end
theorem PIp.imp {X : Cx} {op : Operator} {t t' : TIp} (h : PIp X op t) (i : ∀ x y H Q, t' x y H Q → t x y H Q) : PIp X op t' := fun pins s σ H x y v u Q I r1 r2 q => h pins s σ H x y v u Q I r1 r2 (i _ _ _ _ q)
section
variable {X : Cx} {i : Nat} {x : Str} {e : Expr} {te : TE} {pos pos' : Pos}
end
structure Walks (J : It) (P : Hp → Prop) (xs : List V) : Prop where
  stop : ∀ i H, P H → xs.length ≤ i → J.stop i H
  go : ∀ i H, P H → i < xs.length → J.go i H
  yld : ∀ i H x H', P H → i < xs.length → J.yld i H x H' → H' = H ∧ xs[i]? = some x
structure Rw {α : Type} (f : α → List V) (H : Hp) (vs : List V) (as : List α) : Prop where
  len : vs.length = as.length
  at_ : ∀ (i : Nat) (a : α), as[i]? = some a → ∃ l, vs[i]? = some (V.ref l) ∧ H l = some (.tup (f a))
theorem Rw.nil {α : Type} {f : α → List V} {H : Hp} : Rw f H [] [] := ⟨rfl, fun i a h => by simp at h⟩
theorem Rw.app {α : Type} {f : α → List V} {H : Hp} {vs ws : List V} {as bs : List α} (h : Rw f H vs as) (k : Rw f H ws bs) : Rw f H (vs ++ ws) (as ++ bs) := by
  refine ⟨by simp [h.len, k.len], fun i a e => ?_⟩
  rw [List.getElem?_append] at e
  rw [List.getElem?_append, h.len]
  split at e
  · rename_i hi
    rw [if_pos hi]
    exact h.at_ i a e
  · rename_i hi
    rw [if_neg hi]
    exact k.at_ _ a e
theorem Rw.one {α : Type} {f : α → List V} {H : Hp} {l : Addr} {a : α} (h : H l = some (.tup (f a))) : Rw f H [.ref l] [a] := ⟨rfl, fun i b e => by
  cases i with
  | zero =>
    simp at e
    subst e
    exact ⟨l, rfl, h⟩
  | succ n => simp at e⟩
def Kt (H H' : Hp) : Prop := ∀ b ys, H b = some (.tup ys) → H' b = some (.tup ys)
theorem Kt.refl (H : Hp) : Kt H H := fun _ _ h => h
theorem Kt.trans {H H1 H2 : Hp} (a : Kt H H1) (b : Kt H1 H2) : Kt H H2 := fun c ys h => b c ys (a c ys h)
theorem Kt.same {H H' : Hp} (a : Same H H') : Kt H H' := fun c ys h => a c _ h
theorem Kt.new {H : Hp} {p : Addr} {o : HO} (h : H p = none) : Kt H (upd H p o) := fun b ys e => keep_new h e
theorem Kt.lst {H : Hp} {p : Addr} {o : HO} {xs : List V} (h : H p = some (.lst xs)) : Kt H (upd H p o) := fun b ys e => keep_ne (fun z => by subst z; rw [h] at e; cases e) e
theorem Kt.fr {H H' : Hp} {S : List Addr} (a : Fr S H H') (h : ∀ p ∈ S, ∀ ys, H p ≠ some (.tup ys)) : Kt H H' := fun b ys e => a b _ e fun z => h b z ys e
theorem Rw.get {α : Type} {f : α → List V} {H : Hp} {vs : List V} {as : List α} {i : Nat} {x : V} (h : Rw f H vs as) (e : vs[i]? = some x) : ∃ a l, as[i]? = some a ∧ x = .ref l ∧ H l = some (.tup (f a)) := by
  have hi := (List.getElem?_eq_some_iff.mp e).1
  rw [h.len] at hi
  obtain ⟨l, h1, h2⟩ := h.at_ i as[i] (by simp [hi])
  rw [e] at h1
  cases h1
  exact ⟨_, l, by simp [hi], rfl, h2⟩
theorem Rw.take {α : Type} {f : α → List V} {H : Hp} {vs : List V} {as : List α} {i : Nat} {l : Addr} {a : α} (h : Rw f H vs (as.take i)) (e : as[i]? = some a) (k : H l = some (.tup (f a))) : Rw f H (vs ++ [.ref l]) (as.take (i + 1)) := by
  rw [List.take_add_one, e]
  exact h.app (Rw.one k)
def toD : V → PyData
  | .int i => .int i
  | .str s => .str s
  | .bl b => .bool b
  | _ => .none
section
variable {K : PySem.W.Frag} {H : Hp} {QB : Hp → Prop}
end
end Co
end

section
set_option maxHeartbeats 4000000
namespace Co
open PySem PySem.Spec PyProof.Rows L2
theorem meets_enumB1 {v : Value} {o : Obj} {H : Heap → Prop} (B : Begins v o H) :
    Meets (Builtin.«enumerate.__new__» ⟨[.type "enumerate", v], []⟩) (fun _ R s => H s.heap ∧
      R (.ok (.ret (.ref (s.heap.push o).objs.size))) { s with heap := (s.heap.push o).push { cls := .type "enumerate", data := .fields #[.none, .bool false, .ref s.heap.objs.size, rawInt 0, .none, .none] } }) :=
  .of_wp fun prog w A R s h => by
    obtain ⟨hp, g, d, tk, os⟩ := s; obtain ⟨h1, h⟩ := h
    have hsub := sub_enumerate
    have q1 : ∀ {A' : Around} {E : Value → Shared → Prop} {Q : Value → Shared → Prop}, Q (.ref hp.objs.size) ⟨hp.push o, g, d, tk, os⟩ → wpAny (model prog w) A' (pyIter v) Q E ⟨hp, g, d, tk, os⟩ :=
      fun q => B.iter prog w _ _ ⟨hp, g, d, tk, os⟩ _ h1 q
    wp_walk using q1
    refine wpAny_stack_any fun st => wpAny_pure ?_
    split
    · rename_i c _ _ _ _ _
      cases (c == Value.type "enumerate")
      · wp_walk using q1
        exact ⟨_, rfl, h⟩
      · wp_walk using q1
        exact ⟨_, rfl, h⟩
    · wp_walk using q1
      exact ⟨_, rfl, h⟩
section
variable {prog : Program} {w : World} {A : Around} {E : Value → Shared → Prop} {s : Shared}
theorem enum_beginsB1 {v : Value} {o : Obj} {H : Heap → Prop} {Q : Value → Shared → Prop} (B : Begins v o H) (h1 : H s.heap)
    (h : ∀ h', IsEnum h' (s.heap.objs.size + 1) s.heap.objs.size 0 .none → h'.get? s.heap.objs.size = some o → h'.objs.size = s.heap.objs.size + 2 →
      (∀ b o, s.heap.get? b = some o → h'.get? b = some o) → Q (.ref (s.heap.objs.size + 1)) { s with heap := h' }) :
    wpAny (model prog w) A (call (.type "enumerate") [v]) Q E s := by
  refine callType_new F.called_enumerate (by decide) (F.typeCall_enumerate_1 _) (F.newCall_enumerate_1 _) (fun obj => F.args_object_init_2 obj _) F.entry_enumerate_new
    (meets_enumB1 B) ⟨h1, ?_⟩
  have hz : (s.heap.push o).objs.size = s.heap.objs.size + 1 := Heap.size_push ..
  show _ ∧ _
  rw [hz]
  have he : IsEnum ((s.heap.push o).push { cls := .type "enumerate", data := .fields #[.none, .bool false, .ref s.heap.objs.size, rawInt 0, .none, .none] }) (s.heap.objs.size + 1) s.heap.objs.size 0 .none := by
    have := Heap.get?_push_size (s.heap.push o) (o := { cls := .type "enumerate", data := .fields #[.none, .bool false, .ref s.heap.objs.size, rawInt 0, .none, .none] }) rfl
    rw [hz] at this; exact this
  refine ⟨⟨_, he, rfl⟩, h _ he (Heap.get?_push_of_some _ (Heap.get?_push_size _ B.free)) (by rw [Heap.size_push, hz]) fun b o x => Heap.get?_push_of_some _ (Heap.get?_push_of_some _ x)⟩
theorem enumT_end {e it l : Addr} {i : Nat} {items : Array Value} {old : Value} {Q : Option Value → Shared → Prop} (hh : A.handled = none)
    (he : IsEnum s.heap e it i old) (hit : s.heap.IsTupleIter it l i) (hl : s.heap.IsTuple l items) (hx : items[i]? = none)
    (hQ : ∀ h', Heap.ExtBut it s.heap h' → Q none { s with heap := h' }) : wpAny (model prog w) A (pyNext (.ref e)) Q E s := by
  have hT : s.TypeIs (.ref e) "enumerate" := ⟨_, he, rfl⟩
  unfold pyNext
  refine wpAny_bind (wpAny_attempt (wpAny_callSpecial?_slot (name := Str.ofString "__next__") hT F.slot_enumerate_next
    (wpAny_call_entry F.slot_enumerate_next hT F.entry_enumerate_next ?_ (F.args_enumerate_next_1 _))))
  show wpAny _ _ (field (.ref e) 2 >>= _) _ _ _
  refine wpAny_bind (wpAny_field he rfl (x := .ref it) rfl ?_)
  refine wpAny_bind (wpAny_nextOf_tuple_end hh hit hl hx fun h' x he' hx' => ?_)
  obtain ⟨o, ho, hc⟩ := hx'
  refine wpAny_bind (wpAny_isInstance (T := "StopIteration") (b := true) ⟨o, ho, hc⟩ isSubtype_stop ?_)
  exact wpAny_pure (hQ _ he')
end
def IteT (K : PySem.W.Frag) (a : Addr) : It :=
  ⟨fun i H => ∃ (xs : List V) (x : V), SqT K H a xs ∧ xs[i]? = some x, fun i H v H' => ∃ T x, v = .ref T ∧ H T = none ∧ H' = upd H T (.tup [.int (i : Nat), x]) ∧ ∀ xs, SqT K H a xs → xs[i]? = some x, fun i H => ∃ xs : List V, SqT K H a xs ∧ xs.length ≤ i⟩
theorem turn_enumT {P : Program} {w : World} {K : PySem.W.Frag} {elts : List Expr} {kk : Nat} {tpos : Pos} (a e it : Addr) :
    Turn P w K (.Tuple elts kk tpos) (IteT K a) [e, it] e (fun i h => (∃ old, IsEnum h e it ((i : Nat) : Int) old) ∧ h.IsTupleIter it a i ∧ e ≠ it ∧ e ≠ a ∧ a ≠ it) where
  mem := by simp
  obj := fun i h st b hb => by
    obtain ⟨⟨old, he⟩, ⟨o, ho, hc, hd⟩, _⟩ := st
    have e' : b = e ∨ b = it := by simpa using hb
    rcases e' with z | z
    · rw [z]; exact ⟨_, he, fun v q => nomatch q⟩
    · rw [z]; exact ⟨o, ho, fun v q => by rw [hd] at q; cases q⟩
  keep := fun i h h' st k => let ⟨⟨old, he⟩, hi, hne⟩ := st; ⟨⟨old, k e (by simp) _ he⟩, hi.at fun o q => k it (by simp) o q, hne⟩
  item := by
    intro X hP hw hK hc i pins s σ H E I hf st hg
    subst hP hw hK
    obtain ⟨⟨old, he⟩, hit, hne, hea, hai⟩ := st
    obtain ⟨xs, x, hq, hx⟩ := hg
    obtain ⟨its, rv, p, hz⟩ := I.tuple hq
    have p : s.heap.IsTuple a its.toArray := p
    obtain ⟨u, hu, ru⟩ := rv.get hx
    have hel : e < s.heap.objs.size := Heap.lt_size he
    have hil : it < s.heap.objs.size := by obtain ⟨_, q, _⟩ := hit; exact Heap.lt_size q
    have hlt : i < its.toArray.size := by
      have := (List.getElem?_eq_some_iff.mp hu).1
      simpa using this
    refine wpAny_pyNext_enum_itemD (Draws.tuple (A := X.A.in1) (I.ok.hd hc) it a hai its.toArray) he ⟨hit, p⟩ hlt hne (by simp [hne, hea]) fun x' h' tk hx' ho hst hT hsz hk => ?_
    have ex : x' = u := by
      have : its.toArray[i]? = some u := by simpa using hu
      rw [this] at hx'
      exact (Option.some.inj hx').symm
    subst ex
    obtain ⟨hit', -⟩ := hst
    refine ⟨_, rfl, wpAny_letOwnedTupleGo_enum (s := { s with heap := h', toks := tk + 1 }) ho fun h'' he' sb => ?_⟩
    have hT2 : h''.get? s.heap.objs.size = some { cls := .type "tuple", data := .seq #[.int i tk, x'] } := (sb.2 _ (Nat.ne_of_gt hel)).trans hT
    have new : ObjOk X.prog X.w (upd H s.heap.objs.size (.tup [.int (i : Nat), x])) h'' s.heap.objs.size (.tup [.int (i : Nat), x]) :=
      ⟨by show 2 ≤ sizeLine; decide, [.int i tk, x'], .cons ⟨_, rfl⟩ (.cons ru .nil), ⟨_, hT2, rfl, _, rfl⟩⟩
    have I1 : Inv X pins σ (upd H s.heap.objs.size (.tup [.int (i : Nat), x])) { s with heap := h'', toks := tk + 1 } :=
      I.turnedNew (ch := [e, it]) (fun b ob hb q => (sb.2 b (fun z => hb (by simp [z]))).trans (hk b ob (fun z => hb (by simp [z])) (fun z => hb (by simp [z])) q)) hf (Nat.le_refl _) new
    refine ⟨.ref s.heap.objs.size, _, I1, rfl, ⟨_, x, rfl, I.hok.fresh (Nat.le_refl _), rfl, fun ys hy => by rw [I.tuple_inj hy hq]; exact hx⟩, ⟨⟨x', ?_⟩, hit'.at fun o q => (sb.2 it (Ne.symm hne)).trans q, hne, hea, hai⟩, fun b hb => ?_⟩
    · have e1 : ((i + 1 : Nat) : Int) = (i : Int) + 1 := by omega
      rw [e1]; exact he'
    · have hb' : b < s.heap.objs.size := by
        have e' : b = e ∨ b = it := by simpa using hb
        rcases e' with z | z
        · rw [z]; exact hel
        · rw [z]; exact hil
      rw [upd_ne (Nat.ne_of_lt hb')]
      exact (hf b hb).1
  done := by
    intro X hP hw hK hc i pins s σ H E I hf st hg
    subst hP hw hK
    obtain ⟨⟨old, he⟩, hit, hne, hea, hai⟩ := st
    obtain ⟨xs, hq, hx⟩ := hg
    obtain ⟨its, rv, p, hz⟩ := I.tuple hq
    have p : s.heap.IsTuple a its.toArray := p
    obtain ⟨f0, f1, f2, f3, f4, f5⟩ := hf it (by simp)
    have hl := rv.length
    exact enumT_end (I.ok.hd hc) he hit p (by simp; omega) fun h' eb => ⟨rfl, I.turned (t' := s.toks) (fun b o hb q => eb b o hb q) f0 f1 f3 f4 f5⟩
  self := fun A i s Q E st h => let ⟨⟨_, he⟩, _⟩ := st; wpAny_pyIter_enum he h
def iEnumA (K : PySem.W.Frag) (ta : TA) : TI := fun σ H R => ta σ H fun vs H1 => ∃ a, vs = [.ref a] ∧ (((∃ xs, SqL K H1 a xs) ∧ R (Ite K a) H1) ∨ ((∃ xs, SqT K H1 a xs) ∧ R (IteT K a) H1))
theorem pi_enumA {X : Cx} {e : Expr} {ta : TA} {p pos tpos : Pos} {elts : List Expr} {kk : Nat} (hg : Gl X "enumerate") (hm : X.mg "enumerate" = none) (ha : PA X [e] ta) (hs : starEach [e] X.env = [(false, eval e X.env)] := by rfl) :
    PI X (.Tuple elts kk tpos) (.Call (.Name "enumerate" p) [e] [] pos) (iEnumA X.K ta) := by
  refine ⟨fun pins s σ H R I h => ?_⟩
  refine Call_ (ld_blt I hg hm boot_enumerate (PyProof.Rows.callWith_type1 (thn (ha.run pos pins s σ H _ I h) fun us s1 ⟨vs, H1, I1, r1, q1⟩ => ?_) hs rfl))
  obtain ⟨a, ex, q⟩ := q1
  subst ex
  cases r1 with
  | cons r rr =>
    cases rr
    cases r
    rcases q with ⟨⟨xs, hq⟩, q⟩ | ⟨⟨xs, hq⟩, q⟩
    · obtain ⟨its, rv, p', hz⟩ := I1.list hq
      refine call_enumerate_list p'.isList fun h' he hit hsz hk => wpAny_pyIter_enum he ?_
      have I2 : Inv X pins σ H1 { s1 with heap := h' } := I1.kept (t' := s1.toks) hk
      refine ⟨s1.heap.objs.size + 1, [s1.heap.objs.size + 1, s1.heap.objs.size], _, _, H1, rfl, I2, turn_enum a (s1.heap.objs.size + 1) s1.heap.objs.size, ⟨⟨.none, he⟩, hit, Nat.succ_ne_self _⟩, fun b hb => ?_, q⟩
      have e' : b = s1.heap.objs.size + 1 ∨ b = s1.heap.objs.size := by simpa using hb
      have hle : s1.heap.objs.size ≤ b := by
        rcases e' with z | z
        · rw [z]; exact Nat.le_add_right _ _
        · rw [z]; exact Nat.le_refl _
      exact I1.fpOk hle (I1.hok.fresh hle)
    · obtain ⟨its, rv, p', hz⟩ := I1.tuple hq
      have p' : s1.heap.IsTuple a its.toArray := p'
      have hal : a < s1.heap.objs.size := by obtain ⟨_, q, _⟩ := p'; exact Heap.lt_size q
      refine enum_beginsB1 (begins_tuple a its.toArray) p' fun h' he hit hsz hk => wpAny_pyIter_enum he ?_
      have I2 : Inv X pins σ H1 { s1 with heap := h' } := I1.kept (t' := s1.toks) hk
      refine ⟨s1.heap.objs.size + 1, [s1.heap.objs.size + 1, s1.heap.objs.size], _, _, H1, rfl, I2, turn_enumT a (s1.heap.objs.size + 1) s1.heap.objs.size, ⟨⟨.none, he⟩, ⟨_, hit, rfl, rfl⟩, Nat.succ_ne_self _, Nat.ne_of_gt (Nat.lt_succ_of_lt hal), Nat.ne_of_lt hal⟩, fun b hb => ?_, q⟩
      have e' : b = s1.heap.objs.size + 1 ∨ b = s1.heap.objs.size := by simpa using hb
      have hle : s1.heap.objs.size ≤ b := by
        rcases e' with z | z
        · rw [z]; exact Nat.le_add_right _ _
        · rw [z]; exact Nat.le_refl _
      exact I1.fpOk hle (I1.hok.fresh hle)
section
variable {X : Cx} {a b c d : Expr} {ta tb tc td : TE} {pos : Pos}
def uChain3 (r r' r'' : R2) (ta tb tc td : TE) : TE := fun σ H Q => ta σ H fun x H1 => tb σ H1 fun y H2 => r x y H2 fun z H3 => bv z fun k => two k
  (tc σ H3 fun w H4 => r' y w H4 fun z2 H5 => bv z2 fun k2 => two k2 (td σ H5 fun v H6 => r'' w v H6 Q) (Q (.bl false) H5)) (Q (.bl false) H3)
theorem bv_ex {x : V} {k : Bool → Prop} (h : bv x k) : ∃ c, x = .bl c ∧ k c := by
  unfold bv at h
  split at h
  · exact ⟨_, rfl, h⟩
  · exact h.elim
theorem t_chain3 {op op' op'' : CmpOp} {r r' r'' : R2} (ho : OpR X (compareOp op) r) (ho' : OpR X (compareOp op') r') (ho'' : OpR X (compareOp op'') r'') (ha : PE X a ta) (hb : PE X b tb) (hc : PE X c tc) (hd : PE X d td)
    (hm : lastMarks [op, op', op''] [b, c, d] = false := by with_unfolding_all rfl) : PT X (.Compare a [op, op', op''] [b, c, d] pos) (tBo (uChain3 r r' r'' ta tb tc td)) := by
  refine ⟨fun pins s σ H Q I h => ?_⟩
  refine isTrue_chain (thn (ha.run pins s σ H _ I h) fun v s1 ⟨x, H1, I1, r1, q1⟩ => test_link (thn (hb.run pins s1 σ H1 _ I1 q1) fun u s2 ⟨y, H2, I2, r2, q2⟩ =>
    thn (ho pins s2 σ H2 x y v u _ I2 r1 r2 q2) fun d s3 ⟨z, H3, I3, r3, q3⟩ => ?_)) hm
  obtain ⟨k, e, q3⟩ := bv_ex q3
  subst e
  cases r3
  refine wpAny_truthy_bool ?_
  cases k with
  | false => exact ite_ff ⟨H3, I3, q3.2 rfl⟩
  | true =>
    refine ite_tt (test_link (thn (hc.run pins s3 σ H3 _ I3 (q3.1 rfl)) fun w' s4 ⟨w, H4, I4, r4, q4⟩ => thn (ho' pins s4 σ H4 y w u w' _ I4 r2 r4 q4) fun d' s5 ⟨z2, H5, I5, r5, q5⟩ => ?_))
    obtain ⟨k2, e2, q5⟩ := bv_ex q5
    subst e2
    cases r5
    refine wpAny_truthy_bool ?_
    cases k2 with
    | false => exact ite_ff ⟨H5, I5, q5.2 rfl⟩
    | true =>
      refine ite_tt (test_last (thn (hd.run pins s5 σ H5 _ I5 (q5.1 rfl)) fun v' s6 ⟨v2, H6, I6, r6, q6⟩ => thn (ho'' pins s6 σ H6 w v2 w' v' _ I6 r4 r6 q6) fun d2 s7 ⟨z3, H7, I7, r7, q7⟩ => ?_))
      have q7 : bv z3 fun k => Q k H7 := by
        cases z3 <;> exact q7
      obtain ⟨k3, e3, q7⟩ := bv_ex q7
      subst e3
      cases r7
      exact wpAny_truthy_bool ⟨H7, I7, q7⟩
end
theorem notY {p : Prop} [Decidable p] {T E : Prop} (h : p) (k : E) : two (!decide p) T E := notD (fun n => absurd h n) fun _ => k
end Co
end

section
set_option maxHeartbeats 4000000
namespace Co
open PySem PySem.Spec PyProof.Rows L2
section
variable {X : Cx}
end
def DcBody (J : It) (g : TG) (tt : TT) (tk tv : TE) (vs : List Nat) (σ : St) (H1 : Hp) (QD : Addr → Hp → Prop) : Prop :=
  ∀ D, H1 D = none → ∃ W : Nat → Nat → Hp → Prop, (∃ m, W 0 m (upd H1 D (.dK []))) ∧ ∀ i m H, W i m H →
  (J.stop i H ∧ QD D H) ∨ (J.go i H ∧ ∃ Nx : Hp → Prop, (∀ H', Nx H' → ∃ m', m' < m ∧ W (i + 1) m' H') ∧ ∀ x H', J.yld i H x H' → g x (wipe σ vs) H' fun σ2 H2 => wipe σ2 vs = wipe σ vs ∧ tt σ2 H2 fun b H3 =>
    two b (tk σ2 H3 fun y H4 => tv σ2 H4 fun z H5 => ∃ kvs k, y = kV k ∧ H5 D = some (.dK kvs) ∧ kvs.length < sizeLine ∧ Nx (upd H5 D (.dK (putK kvs k z)))) (Nx H3))
theorem dcW {J : It} {P : Hp → Prop} {xs : List V} {g : TG} {tt : TT} {tk tv : TE} {vs : List Nat} {σ : St} {H1 : Hp} {QD : Addr → Hp → Prop} (w : Walks J P xs) (h : ∀ D, H1 D = none → ∃ Pv : Nat → Hp → Prop, Pv 0 (upd H1 D (.dK [])) ∧ (∀ i H, i ≤ xs.length → Pv i H → P H) ∧
      (∀ (i : Nat) x H, xs[i]? = some x → Pv i H → g x (wipe σ vs) H fun σ2 H2 => wipe σ2 vs = wipe σ vs ∧ tt σ2 H2 fun b H3 => two b (tk σ2 H3 fun y H4 => tv σ2 H4 fun z H5 => ∃ kvs k, y = kV k ∧ H5 D = some (.dK kvs) ∧ kvs.length < sizeLine ∧ Pv (i + 1) (upd H5 D (.dK (putK kvs k z)))) (Pv (i + 1) H3)) ∧
      ∀ H, Pv xs.length H → QD D H) : DcBody J g tt tk tv vs σ H1 QD := by
  intro D hD
  obtain ⟨Pv, h0, hl, hs, hd⟩ := h D hD
  refine ⟨fun i m H => m = xs.length - i ∧ i ≤ xs.length ∧ Pv i H, ⟨xs.length, by simp, Nat.zero_le _, h0⟩, ?_⟩
  rintro i m H ⟨rfl, hi, p⟩
  have q := hl i H hi p
  by_cases hlt : i < xs.length
  · refine .inr ⟨w.go i H q hlt, Pv (i + 1), fun H' p' => ⟨xs.length - (i + 1), by omega, rfl, hlt, p'⟩, fun x H' y => ?_⟩
    obtain ⟨e, y2⟩ := w.yld i H x H' q hlt y
    subst e
    exact hs i x _ y2 p
  · have e : i = xs.length := by omega
    subst e
    exact .inl ⟨w.stop _ H q (Nat.le_refl _), hd H p⟩
end Co
end

section
set_option maxHeartbeats 4000000
namespace PySem.W
open PySem PySem.Spec PySem.Calls PyProof.Rows
section
variable {prog : Program} {w : World} {A : Around} {E : Value → Shared → Prop} {s : Shared} {K : Frag} {x D : Addr} {ox : Obj} {od : Option Obj}
theorem findObj_dataA {C : Addr} {name : Str} {a g : Value} (hc : (clsIn K C).isSome = true) (ha : findIn K (.ref C) name = some (some a)) (hg : specialIn K a "__get__" = some (some g)) (ht : takesIn K a = some true) : findObj K C od name = some (.bind g a) := by
  obtain ⟨cd, hc⟩ := Option.isSome_iff_exists.mp hc
  unfold findObj
  rw [hc, Option.bind_some, ha, Option.bind_some]
  simp [hg, ht]
theorem kin_classA {Q : Option Value → Shared → Prop} (C : L2.ExcC K D) (X : K.In s.heap) (I : InstAt s.heap x ox D od) (h : Q (some (.ref D)) { s with toks := s.toks + 1 }) : wpAny (model prog w) A (getAttr? (.ref x) "__class__") Q E s := by
  have hf : findObj K D od "__class__" = some (.bind (.builtin "getset_descriptor.__get__") (.builtin "object.__class__")) := findObj_dataA (by obtain ⟨cd, hc, _⟩ := any_some C.hd; rw [hc]; rfl) C.ha C.hn C.ht
  obtain ⟨hp, g, d, t, os⟩ := s
  have L0 := I.type (M := model prog w)
  have L1 := looks_findIn (M := model prog w) X C.hg
  have L2 := looks_findIn (M := model prog w) X C.hk
  have L3 := looks_find (M := model prog w) X I hf
  have sub : Looks (model prog w) hp (isInstance (.ref x) (.type "BaseException")) true := L0.andThen (looks_subIn X C.hs)
  have hx2 : (Value.builtin "BaseException.__getattribute__" == Value.builtin "object.__getattribute__") = false := by decide +kernel
  have hx1 : (onTheHeap (Value.ref D) && Value.builtin "BaseException.__getattribute__" == Value.builtin "object.__getattribute__") = false := by rw [hx2]; rfl
  unfold getAttr? getAttrBy? getAttrBy
  refine wpAny_bind (wpAny_mkText (wpAny_bind (wpAny_attempt (wpAny_holding (wpAny_bind (L0.at (wpAny_bind (L1.at ?_))))))))
  show wpAny _ _ (if (onTheHeap (Value.ref D) && Value.builtin "BaseException.__getattribute__" == Value.builtin "object.__getattribute__") = true then _ else _) _ _ _
  rw [hx1, if_neg Bool.false_ne_true]
  unfold getAttrByItsOwn hookBefore
  refine wpAny_bind ?_
  rw [if_pos (show onTheHeap (Value.ref D) = true from rfl)]
  refine L2.at ?_
  refine wpAny_bind (wpAny_attempt (wpAny_holding ?_))
  unfold callGetattribute
  rw [show (false && onTheHeap (Value.builtin "BaseException.__getattribute__")) = false from rfl, if_neg Bool.false_ne_true]
  unfold boundAndCalled
  rw [PySem.F.excAttr_ValueError.ga.bind (.ref x)]
  refine wpAny_bind (wpAny_pure ?_)
  show wpAny _ _ (call (.builtin "BaseException.__getattribute__") [.ref x, .str "__class__" t]) _ _ _
  refine wpAny_call (codeAny_call_builtin PySem.F.excAttr_ValueError.ga.plain PySem.F.entry_bexc_ga ?_)
  refine @check_slot (model prog w) _ _ ⟨hp, g, d, t + 1, os⟩ "BaseException.__getattribute__" "BaseException" "__getattribute__" (.ref x) [.str "__class__" t] [] _ (by decide +kernel) (by decide +kernel) sub (PySem.F.args_bexc_ga (.ref x) (.str "__class__" t)) ?_
  unfold Builtin.«object.__getattribute__»
  refine wpAny_bind (wpAny_of_eq (a := ((Value.ref x : Value), [Value.str "__class__" t])) (by first | rfl | (simp only [slotArgs]; rfl)) ?_)
  refine wpAny_bind (wpAny_pure (wpAny_bind (L0.at (wpAny_bind (L3.at ?_)))))
  show wpAny _ _ (holding [Value.builtin "object.__class__"] (call (.builtin "getset_descriptor.__get__") [.builtin "object.__class__", .ref x, .ref D]) >>= ret) _ _ _
  refine wpAny_bind (wpAny_holding (wpAny_call (class_get (s := ⟨hp, g, d, t + 1, os⟩) (ox := ox) (od := od) X I C.hm ?_)))
  refine wpAny_pure ?_
  show wpAny _ _ (handedOut (.ref D)) _ _ _
  rw [handedOut_of (v := .ref D) rfl]
  first
    | exact wpAny_pure (wpAny_pure h)
    | exact wpAny_pure h
    | exact wpAny_pure (wpAny_bind (wpAny_pure (wpAny_pure h)))
theorem kitx_excA (C : L2.ExcC K D) : KitX K (.ref x) (.ref D) (fun h => ∃ ox od, InstAt h x ox D od) where
  ty := fun _ _ _ ⟨_, _, I⟩ => I.type
  it := fun _ _ X _ => by
    obtain ⟨cdD, hcD, _⟩ := any_some C.hd
    unfold clsIn at hcD
    split at hcD
    · rename_i c' d' cd' sl' ho
      intro A' Q' E' s' k q
      unfold isType loadHead
      exact wpAny_bind (wpAny_loadPart (k _ _ (X _ _ ho)) (wpAny_pure q))
    · cases hcD
  ne := fun h tp dd its n sl X htp => by
    obtain ⟨cdD, hcD, _⟩ := any_some C.hd
    refine Bool.eq_false_iff.mpr fun q => ?_
    have e : D = tp := Value.ref.inj (beq_iff_eq.mp q)
    subst e
    unfold clsIn at hcD
    split at hcD
    · rename_i c' d' cd' sl' ho
      have z := (X _ _ ho).symm.trans htp
      cases z
    · cases hcD
  ca := fun X ⟨_, _, I⟩ k => kin_classA C X I k
end
end PySem.W
namespace Co
open PySem PySem.Spec PyProof.Rows L2
def rIsD (K : PySem.W.Frag) (D a : Addr) (cls : Value) (d : Option Addr) : List V → Hp → VK → Prop := fun xs H Q => ∃ (c : V) (cv : Value) (b : Bool) (dd : Addr) (fs : List (Str × V)), xs = [.ref a, c] ∧ cls = .ref D ∧ d = some dd ∧ H dd = some (.xd fs) ∧ (∀ u, RelV c u → u = cv) ∧ PySem.W.kitOne K (.ref D) cv = some b ∧ Q (.bl b) H
theorem call_isD {X : Cx} {a D : Addr} {oe : Obj} {cls : Value} {d : Option Addr} {pn : List (Addr × Obj)} (C : ExcC X.K D) (hz : Zc cls d oe) (hf : ∃ vs, oe.data = .fields vs) : CallR (X.suite a ((a, oe) :: pn)) (.builtin "isinstance") (rIsD X.K D a cls d) := by
  intro pins s σ H xs us Q I r h
  obtain ⟨c, cv, b, dd, fs, rfl, rfl, rfl, ed, hcv, e, q⟩ := h
  cases r with
  | cons rx rr =>
    cases rr with
    | cons rt rr =>
      cases rr
      cases rx
      have ec := hcv _ rt
      subst ec
      obtain ⟨hget, _⟩ := I.pin (a, oe) (List.mem_append.mpr (.inl List.mem_cons_self))
      obtain ⟨vs, hv⟩ := hf
      have hx : ObjOk X.prog X.w H s.heap dd (.xd fs) := I.hok dd _ ed
      obtain ⟨mA, hns, hr⟩ := hx
      obtain ⟨od, ho, hl⟩ := lookIn_ns hns
      have J : PySem.W.InstAt s.heap a oe D (some od) := ⟨hget, hz.1, by unfold PySem.W.notCls; rw [hv] <;> rfl, by rw [hz.2]; exact ho⟩
      exact PySem.W.kia_one (PySem.W.kitx_excA C) I.kIn ⟨_, _, J⟩ e (fun z => nomatch z) fun tk => ⟨.bl b, H, I.kept (t' := tk) fun _ _ z => z, rfl, q⟩
inductive Ex where
  | oex (x : Str)
  | init (x : Str)
  | nofld (x f : Str)
  | isc (x : Str)
  | kit (x y : Str) (b : Bool)
  | kitT (x : Str) (t : String) (b : Bool)
  | tup (x : Str) (vs : List He.Dv)
  | lst (x : Str) (vs : List He.Dv)
def oexB (K : PySem.W.Frag) (C : Addr) : Bool := match K.lookup C with
  | some ⟨.type "type", _, .cls cd, sl⟩ => (match cd.mro, sl.toList with
    | .ref C' :: bm, [_, _, _, _, some (.builtin n), _] => C' == C && (n == "ValueError.__new__" && (!cd.hasDel && (cd.hasDict && PySem.HandSPX.refsVE bm)))
    | _, _ => false)
  | _ => false
def Ex.ok (K : PySem.W.Frag) : Ex → Bool
  | .oex x => oexB K (He.ga K x) && (He.eqO (PySem.W.findIn K (.ref (He.ga K x)) "__setattr__") (some (some (.builtin "object.__setattr__"))) && (decide (PySem.W.subIn K (.ref (He.ga K x)) (.type "BaseException") = some true) &&
      (decide (PySem.W.typeIn K (.ref (He.ga K x)) = some (.type "type")) && PySem.W.keepIn K (.ref (He.ga K x)))))
  | .init x => He.eqO (PySem.W.findIn K (.ref (He.ga K x)) "__init__") (some (some (.ref (He.ma K (He.ga K x) "__init__")))) && decide (PySem.W.typeIn K (.ref (He.ma K (He.ga K x) "__init__")) = some (.type "function"))
  | .nofld x f => He.eqO (PySem.W.findIn K (.ref (He.ga K x)) f) (some none)
  | .isc x => He.eqO (PySem.W.findIn K (.ref (He.ga K x)) "__getattribute__") (some (some (.builtin "BaseException.__getattribute__"))) && (He.eqO (PySem.W.findIn K (.ref (He.ga K x)) "__getattr__") (some none) &&
      (decide (PySem.W.subIn K (.ref (He.ga K x)) (.type "BaseException") = some true) && (PySem.W.hasDictIn K (He.ga K x) && (He.eqO (PySem.W.findIn K (.ref (He.ga K x)) "__class__") (some (some (.builtin "object.__class__"))) &&
      (He.eqO (PySem.W.specialIn K (.builtin "object.__class__") "__get__") (some (some (.builtin "getset_descriptor.__get__"))) && (decide (PySem.W.takesIn K (.builtin "object.__class__") = some true) && decide (PySem.W.mroIn K (He.ga K x) (.type "object") = some true)))))))
  | .kit x y b => decide (PySem.W.kitOne K (.ref (He.ga K x)) (.ref (He.ga K y)) = some b)
  | .kitT x t b => decide (PySem.W.kitOne K (.ref (He.ga K x)) (.type t) = some b)
  | .tup x vs => He.tupB K x vs
  | .lst x vs => He.lstB K x vs
section
variable {K : PySem.W.Frag} {x y f : Str}
theorem oexB_ok {C : Addr} (h : oexB K C = true) : ∃ nm q N bs bm sn sub ab col dd k0 k1 k2 k3 k5, K.lookup C = some (excClassObj nm q C N bs bm true sn sub ab col dd k0 k1 k2 k3 k5 "ValueError.__new__") ∧ PySem.HandSPX.refsVE bm = true := by
  unfold oexB at h
  split at h
  · rename_i dd cd sl ho
    split at h
    · rename_i C' bm k0 k1 k2 k3 n k5 hm hs
      simp only [Bool.and_eq_true, beq_iff_eq, Bool.not_eq_true'] at h
      obtain ⟨rfl, rfl, hdel, hd, hr⟩ := h
      obtain ⟨nm, bs, mro, ns, qn, hdc, sn, sub, ab, col, del⟩ := cd
      dsimp only at hm hdel hd
      subst hm hdel hd
      have hsl : sl = #[k0, k1, k2, k3, some (.builtin "ValueError.__new__"), k5] := by
        obtain ⟨l⟩ := sl
        simp only at hs
        rw [hs]
      subst hsl
      exact ⟨nm, qn, ns, bs, bm, sn, sub, ab, col, dd, k0, k1, k2, k3, k5, ho, hr⟩
    · cases h
  · cases h
theorem ex_oex (h : (Ex.oex x).ok K = true) : OexC K (He.ga K x) := by
  obtain ⟨h1, h⟩ := He.ba h
  obtain ⟨h2, h⟩ := He.ba h
  obtain ⟨h3, h⟩ := He.ba h
  obtain ⟨h4, h5⟩ := He.ba h
  exact ⟨oexB_ok h1, He.eqO_ok h2, of_decide_eq_true h3, of_decide_eq_true h4, h5⟩
theorem ex_init (h : (Ex.init x).ok K = true) : PySem.W.findIn K (.ref (He.ga K x)) "__init__" = some (some (.ref (He.ma K (He.ga K x) "__init__"))) ∧ PySem.W.typeIn K (.ref (He.ma K (He.ga K x) "__init__")) = some (.type "function") := by
  obtain ⟨h1, h2⟩ := He.ba h
  exact ⟨He.eqO_ok h1, of_decide_eq_true h2⟩
theorem ex_nofld (h : (Ex.nofld x f).ok K = true) : PySem.W.findIn K (.ref (He.ga K x)) f = some none := He.eqO_ok h
theorem ex_isc (h : (Ex.isc x).ok K = true) : ExcC K (He.ga K x) := by
  obtain ⟨h1, h⟩ := He.ba h
  obtain ⟨h2, h⟩ := He.ba h
  obtain ⟨h3, h⟩ := He.ba h
  obtain ⟨h4, h⟩ := He.ba h
  obtain ⟨h5, h⟩ := He.ba h
  obtain ⟨h6, h⟩ := He.ba h
  obtain ⟨h7, h8⟩ := He.ba h
  exact ⟨He.eqO_ok h1, He.eqO_ok h2, of_decide_eq_true h3, h4, He.eqO_ok h5, He.eqO_ok h6, of_decide_eq_true h7, of_decide_eq_true h8⟩
theorem xfc_of {C : Addr} (h : ExcC K C) : XfC K C := ⟨h.hg, h.hk, h.hs, h.hd⟩
theorem ex_kit {b : Bool} (h : (Ex.kit x y b).ok K = true) : PySem.W.kitOne K (.ref (He.ga K x)) (.ref (He.ga K y)) = some b := of_decide_eq_true h
theorem ex_kitT {t : String} {b : Bool} (h : (Ex.kitT x t b).ok K = true) : PySem.W.kitOne K (.ref (He.ga K x)) (.type t) = some b := of_decide_eq_true h
end
structure Fy (fa : List He.Fa) (fn : List He.DefD) (xs : List Ex) (K : PySem.W.Frag) (mg : Str → Option Value) : Prop extends Fx fa fn K mg where
  m : (xs.all fun e => e.ok K) = true
theorem Fy.more {fa : List He.Fa} {fn : List He.DefD} {xs : List Ex} {K : PySem.W.Frag} {mg : Str → Option Value} (T : Fy fa fn xs K mg) (i : Nat) {e : Ex} (h : xs[i]? = some e := by rfl) : e.ok K = true := List.all_eq_true.mp T.m e (List.mem_of_getElem? h)
def sRaiseO (W : WX) (C : Addr) (sp : Sp) (ta : TA) : TS := fun _ σ H => ta σ H fun vs H1 => vs.length ≤ 1000 ∧ ∀ a, H1 a = none → sp (.ref a :: vs) (upd H1 a (exo a C none))
  (fun v H2 => v = .non ∧ ∃ (d : Addr) (fs : List (Str × V)), H2 a = some (exo a C (some d)) ∧ H2 d = some (exd d fs) ∧ H1 d = none ∧ W (.ref C) (some d) σ (upd (del H2 a) d (.xd fs))) (fun _ _ _ => False)
theorem s_raiseO {X : Cx} {W : WX} {x : Str} {p pos pos' : Pos} {e : Expr} {es : List Expr} {C fI : Addr} {k : Nat} {ps : List Str} {sp : Sp} {ta : TA} (hc : X.calm = true) (tk : Takes X W) (T : OexC X.K C)
    (i : PySem.W.findIn X.K (.ref C) "__init__" = some (some (.ref fI)) ∧ PySem.W.typeIn X.K (.ref fI) = some (.type "function")) (d : Def X.prog X.w X.K X.mg X.base k fI ps sp) (hr : Room (k + 1) X.A) (hg : Gl X x) (hm : X.mg x = some (.ref C)) (ha : PA X (e :: es) ta)
    (hdb : (x == ("__debug__" : Str)) = false := by decide) (he : starEach (e :: es) X.env = (false, eval e X.env) :: starEach es X.env := by rfl) (hpl : (backTo pos (starEach es X.env)).any (·.1) = false := by rfl) :
    PS X (.Raise (some (.Call (.Name x p) (e :: es) [] pos)) none pos') (sRaiseO W C sp ta) := by
  obtain ⟨fd, F, b⟩ := d.ex
  refine PS.imp (ps_raise hc tk (pmk_oex (dvs := []) T i.1 i.2 F hr b .nil passL hg hm ha hdb he hpl)) fun D σ H h => ?_
  unfold sRaiseO at h
  unfold tMkO
  simp only [List.append_nil]
  exact h
end Co
end

section
set_option maxHeartbeats 4000000
namespace Co
open PySem PySem.Spec PyProof.Rows L2
section
variable {X : Cx}
def repL (l : List Nat) (n : Int) : List Nat := (List.replicate n.toNat l).flatten
theorem rep_fold (c : Array Nat) : ∀ (n : Nat) (a : Array Nat), ((List.replicate n c).foldl (· ++ ·) a) = a ++ ((List.replicate n c.toList).flatten).toArray
  | 0, a => by simp
  | n + 1, a => by
    rw [List.replicate_succ, List.foldl_cons, rep_fold c n (a ++ c), List.replicate_succ, List.flatten_cons]
    apply Array.ext'
    simp
theorem txt_mul (l : List Nat) (n : Int) : Txt.mul (S l) n = S (repL l n) := by
  unfold Txt.mul
  split
  · rename_i h
    unfold repL
    rw [show n.toNat = 0 by omega]
    rfl
  · split
    · rename_i h1 h2
      unfold repL
      simp only [Bool.or_eq_true, beq_iff_eq] at h2
      rcases h2 with h2 | h2
      · subst h2
        simp
      · have : l = [] := List.eq_nil_of_length_eq_zero (by rw [S_len] at h2; exact h2)
        subst this
        simp
    · rw [rep_fold]
      simp [repL]
def rRepS : R2 := fun x y H Q => match x, y with
  | .str z, .int n => n * z.length ≤ 1000000 ∧ -(2 ^ 62) ≤ n ∧ n < 2 ^ 62 ∧ Q (.str (S (repL z.cps.toList n))) H
  | _, _ => False
theorem op_repS : OpR X (binaryOp .Mult) rRepS := by
  intro pins s σ H x y v u Q I rx ry h
  unfold rRepS at h
  split at h
  · rename_i z n
    obtain ⟨h1, h2, h3, q⟩ := h
    obtain ⟨t, rfl⟩ := rx
    obtain ⟨t', rfl⟩ := ry
    have hz : z.length = z.cps.toList.length := by show z.cps.size = _; simp
    refine SB.mul ⟨?_, fun hn _ => ?_, fun hn _ => ?_⟩ fun t1 k => ⟨.str (S (repL z.cps.toList n)), H, I.tok _, ⟨t1, ?_⟩, q⟩
    · simp
      omega
    · have hn1 : 0 < n := by omega
      intro hc
      have h4 : (z.length : Int) * n > (2 ^ 63 - 1) / n * n := Int.mul_lt_mul_of_pos_right hc hn1
      have h5 := Int.emod_add_mul_ediv (2 ^ 63 - 1) n
      have h6 := Int.emod_lt_of_pos (2 ^ 63 - 1) hn1
      have e1 : n * ((2 ^ 63 - 1) / n) = (2 ^ 63 - 1) / n * n := Int.mul_comm _ _
      have e2 : n * (z.length : Int) = (z.length : Int) * n := Int.mul_comm _ _
      by_cases hl : z.length = 0
      · have h7 : 0 ≤ (2 ^ 63 - 1) / n := Int.ediv_nonneg (by omega) (by omega)
        omega
      · have h8 : n ≤ n * (z.length : Int) := by
          have := Int.mul_le_mul_of_nonneg_left (show (1 : Int) ≤ (z.length : Int) by omega) (show 0 ≤ n by omega)
          omega
        omega
    · have h4 : ((z.length * n.toNat : Nat) : Int) ≤ 1000000 := by
        rw [Int.natCast_mul, Int.toNat_of_nonneg (by omega), Int.mul_comm]
        exact h1
      show Builtin.Str.tooLong _ = false
      unfold Builtin.Str.tooLong
      simp only [decide_eq_false_iff_not]
      rw [sizeLine_eq]
      omega
    · have := txt_mul z.cps.toList n
      rw [← S_eq z] at this
      rw [this]
  · exact h.elim
def rCatW (K : PySem.W.Frag) : R2 := fun x y H Q => ∃ a b xs ys, x = .ref a ∧ y = .ref b ∧ SqT K H a xs ∧ SqT K H b ys ∧ xs.length + ys.length ≤ sizeLine ∧
  (xs = [] → Q (.ref b) H) ∧ (xs ≠ [] → ys = [] → Q (.ref a) H) ∧ (xs ≠ [] → ys ≠ [] → ∀ p, H p = none → Q (.ref p) (upd H p (.tup (xs ++ ys))))
theorem cat_tup0 {prog : Program} {w : World} {A : Around} {E : Value → Shared → Prop} {s : Shared} {t b : Addr} {ws : List Value} {Q : Value → Shared → Prop} (ht : IsTup s.heap t ([] : List Value).toArray) (hb : IsTup s.heap b ws.toArray)
    (h : Q (.ref b) s) : wpAny (model prog w) A (binaryOp .Add (.ref t) (.ref b)) Q E s := by
  obtain ⟨⟨cls, dd, data, sl⟩, ho, hc, n, hd⟩ := id ht
  obtain ⟨⟨cls2, dd2, data2, sl2⟩, ho2, hc2, n2, hd2⟩ := id hb
  simp only at hc hd hc2 hd2
  subst hc hd hc2 hd2
  exact concat_meets ⟨_, ho, rfl⟩ ⟨_, ho2, rfl⟩ noFill_tuple_add seq_tuple_add PySem.F.slot_tuple_add PySem.F.entry_tuple_add (PySem.F.args_tuple_add_2 _ _)
      (tuple_addW0 t b ([] : List Value).toArray ws.toArray n n2 dd dd2 sl sl2 (by simp)) ⟨ho, ho2, h⟩
theorem op_catW : OpR X (binaryOp .Add) (rCatW X.K) := by
  intro pins s σ H x y v u Q I rx ry h
  obtain ⟨a, b, xs, ys, rfl, rfl, ha, hb, hz, q0, q1, q2⟩ := h
  by_cases hx : xs = []
  · subst hx
    obtain ⟨its, r1, p1, _⟩ := I.tuple ha
    obtain ⟨its2, r2, p2, _⟩ := I.tuple hb
    have e := r1.nil_iff.mpr rfl
    subst e
    cases rx
    cases ry
    exact cat_tup0 p1 p2 ⟨.ref b, H, I, rfl, q0 rfl⟩
  · exact op_catT pins s σ H _ _ v u Q I rx ry ⟨a, b, xs, ys, rfl, rfl, ha, hb, hx, hz, q1 hx, q2 hx⟩
def fAddA : R2 := fun x y H Q => match x, y with
  | .int i, .int j => Q (.int (i + j)) H
  | .str i, .str j => i.length + j.length ≤ sizeLine ∧ Q (.str (i ++ j)) H
  | _, _ => False
theorem o_addA : OpR X (binaryOp .Add) fAddA := by
  intro pins s σ H x y v u Q I rx ry h
  unfold fAddA at h
  split at h
  · exact o_add pins s σ H _ _ v u Q I rx ry h
  · exact o_addS pins s σ H _ _ v u Q I rx ry h
  · exact h.elim
end
end Co
end

section
set_option maxHeartbeats 4000000
namespace Dl
open PySem PySem.Spec PyProof.Rows L2 Co
inductive D where
  | non | bl (b : Bool) | int (i : Int) | str (x : Str) | ty (n : String) | glo (x : Str)
  | tup (ds : List D) | lst (ds : List D) | dct (ks : List Key) (ds : List D) | dcT (ks : List (List Key)) (ds : List D) | ins (C : Str) (ns : List Str) (ds : List D) | scr (ns : List Int)
  | exc (a dd : Addr) (C : Str) (ns : List Str) (ds : List D)
inductive W where
  | im (d : D) | loc (n : Nat) | dead
inductive Ob where
  | lst (ds : List D) | dct (ks : List Key) (ds : List D) | dcT (ks : List (List Key)) (ds : List D) | ins (C : Str) (fs : List (Str × W)) | lsW (ws : List W) | dcW (ks : List Key) (ws : List W) | pool | fz (d : D) | gone
abbrev Sl := List (Option W)
abbrev Sto := List Ob
structure Kn where
  K : PySem.W.Frag
  b : Bool
def isDct : HO → Bool
  | .dK _ => true
  | .dT _ => true
  | _ => false
def Sub (M H : Hp) : Prop := ∀ b u, M b = some u → H b = some u ∨ (isDct u = true ∧ ∃ o, H b = some (.frz o u))
def SqC (N : Kn) (M : Hp) (p : Addr) (xs : List V) : Prop := M p = some (.tup xs) ∨ (N.b = true ∧ SqT N.K M p xs)
mutual
def Rp (N : Kn) (M : Hp) : D → V → Prop
  | .non, v => v = .non
  | .bl b, v => v = .bl b
  | .int i, v => v = .int i
  | .str x, v => v = .str x
  | .ty n, v => v = .ty n
  | .glo x, v => v = .ref (He.ga N.K x)
  | .scr ns, v => ∃ p, v = .ref p ∧ SqL N.K M p (ns.map V.int)
  | .tup ds, v => ∃ p xs, v = .ref p ∧ SqC N M p xs ∧ Rps N M ds xs
  | .lst ds, v => ∃ p xs, v = .ref p ∧ M p = some (.lst xs) ∧ Rps N M ds xs
  | .dct ks ds, v => ∃ p kvs, v = .ref p ∧ M p = some (.dK kvs) ∧ kvs.map (·.1) = ks ∧ Rps N M ds (kvs.map (·.2))
  | .dcT ks ds, v => ∃ p kvs, v = .ref p ∧ M p = some (.dT kvs) ∧ kvs.map (·.1) = ks ∧ Rps N M ds (kvs.map (·.2))
  | .ins C ns ds, v => ∃ p dx fs, v = .ref p ∧ M p = some (.ins (He.ga N.K C) dx fs) ∧ fs.map (·.1) = ns ∧ Rps N M ds (fs.map (·.2))
  | .exc a dd _ ns ds, v => v = .ref a ∧ ∃ fxs, M dd = some (.xd fxs) ∧ fxs.map (·.1) = ns ∧ Rps N M ds (fxs.map (·.2))
def Rps (N : Kn) (M : Hp) : List D → List V → Prop
  | [], xs => xs = []
  | d :: ds, xs => ∃ x r, xs = x :: r ∧ Rp N M d x ∧ Rps N M ds r
end
section
variable {N : Kn} {M M' H H' : Hp}
theorem SqC.mono {p : Addr} {xs : List V} (h : SqC N M p xs) (e : Same M M') : SqC N M' p xs := h.elim (fun h => .inl (e _ _ h)) fun h => .inr ⟨h.1, sqT_same e h.2⟩
mutual
theorem Rp.mono (e : Same M M') : ∀ {d : D} {v : V}, Rp N M d v → Rp N M' d v
  | .non, _, h => h
  | .bl _, _, h => h
  | .int _, _, h => h
  | .str _, _, h => h
  | .ty _, _, h => h
  | .glo _, _, h => h
  | .scr _, _, ⟨p, h1, h2⟩ => ⟨p, h1, e.seq h2⟩
  | .tup _, _, ⟨p, xs, h1, h2, h3⟩ => ⟨p, xs, h1, h2.mono e, Rps.mono e h3⟩
  | .lst _, _, ⟨p, xs, h1, h2, h3⟩ => ⟨p, xs, h1, e _ _ h2, Rps.mono e h3⟩
  | .dct _ _, _, ⟨p, kvs, h1, h2, h3, h4⟩ => ⟨p, kvs, h1, e _ _ h2, h3, Rps.mono e h4⟩
  | .dcT _ _, _, ⟨p, kvs, h1, h2, h3, h4⟩ => ⟨p, kvs, h1, e _ _ h2, h3, Rps.mono e h4⟩
  | .ins _ _ _, _, ⟨p, dx, fs, h1, h2, h3, h4⟩ => ⟨p, dx, fs, h1, e _ _ h2, h3, Rps.mono e h4⟩
  | .exc _ _ _ _ _, _, ⟨h1, fxs, h2, h3, h4⟩ => ⟨h1, fxs, e _ _ h2, h3, Rps.mono e h4⟩
theorem Rps.mono (e : Same M M') : ∀ {ds : List D} {vs : List V}, Rps N M ds vs → Rps N M' ds vs
  | [], _, h => h
  | _ :: _, _, ⟨x, r, h1, h2, h3⟩ => ⟨x, r, h1, Rp.mono e h2, Rps.mono e h3⟩
end
theorem Rps.nil : Rps N M [] [] := rfl
theorem Rps.cons {d : D} {ds : List D} {v : V} {vs : List V} (h : Rp N M d v) (t : Rps N M ds vs) : Rps N M (d :: ds) (v :: vs) := ⟨v, vs, rfl, h, t⟩
theorem Rps.length : ∀ {ds : List D} {vs : List V}, Rps N M ds vs → vs.length = ds.length
  | [], _, h => by rw [show _ = [] from h]; rfl
  | _ :: _, _, ⟨_, _, h1, _, h3⟩ => by rw [h1, List.length_cons, List.length_cons, Rps.length h3]
theorem Rps.get : ∀ {ds : List D} {vs : List V} {i : Nat} {d : D}, Rps N M ds vs → ds[i]? = some d → ∃ v, vs[i]? = some v ∧ Rp N M d v
  | [], _, _, _, _, e => by simp at e
  | d :: ds, _, 0, _, ⟨x, r, h1, h2, _⟩, e => by
    subst h1
    simp at e
    subst e
    exact ⟨x, rfl, h2⟩
  | d :: ds, _, i + 1, _, ⟨x, r, h1, _, h3⟩, e => by
    subst h1
    obtain ⟨v, h4, h5⟩ := Rps.get (i := i) h3 (by simpa using e)
    exact ⟨v, by simpa using h4, h5⟩
theorem Rps.get2 : ∀ {ds : List D} {vs : List V} {i : Nat} {v : V}, Rps N M ds vs → vs[i]? = some v → ∃ d, ds[i]? = some d ∧ Rp N M d v
  | [], vs, _, _, h, e => by rw [show vs = [] from h] at e; simp at e
  | d :: ds, _, 0, _, ⟨x, r, h1, h2, _⟩, e => by
    subst h1
    simp at e
    subst e
    exact ⟨d, rfl, h2⟩
  | d :: ds, _, i + 1, _, ⟨x, r, h1, _, h3⟩, e => by
    subst h1
    obtain ⟨v, h4, h5⟩ := Rps.get2 (i := i) h3 (by simpa using e)
    exact ⟨v, by simpa using h4, h5⟩
theorem Rps.append : ∀ {ds es : List D} {vs ws : List V}, Rps N M ds vs → Rps N M es ws → Rps N M (ds ++ es) (vs ++ ws)
  | [], _, _, _, h, t => by rw [show _ = [] from h]; exact t
  | _ :: _, _, _, _, ⟨x, r, h1, h2, h3⟩, t => by
    subst h1
    exact ⟨x, r ++ _, rfl, h2, Rps.append h3 t⟩
theorem Rps.take : ∀ {ds : List D} {vs : List V} (n : Nat), Rps N M ds vs → Rps N M (ds.take n) (vs.take n)
  | _, _, 0, _ => rfl
  | [], _, _ + 1, h => by rw [show _ = [] from h]; rfl
  | _ :: _, _, n + 1, ⟨x, r, h1, h2, h3⟩ => by
    subst h1
    exact ⟨x, r.take n, rfl, h2, Rps.take n h3⟩
theorem Rps.drop : ∀ {ds : List D} {vs : List V} (n : Nat), Rps N M ds vs → Rps N M (ds.drop n) (vs.drop n)
  | _, _, 0, h => h
  | [], _, _ + 1, h => by rw [show _ = [] from h]; rfl
  | _ :: _, _, n + 1, ⟨x, r, h1, h2, h3⟩ => by
    subst h1
    exact Rps.drop n h3
theorem Rps.set : ∀ {ds : List D} {vs : List V} {d : D} {v : V} (i : Nat), Rps N M ds vs → Rp N M d v → Rps N M (ds.set i d) (vs.set i v)
  | [], _, _, _, _, h, _ => by rw [show _ = [] from h]; rfl
  | _ :: _, _, _, _, 0, ⟨x, r, h1, h2, h3⟩, q => by
    subst h1
    exact ⟨_, r, rfl, q, h3⟩
  | _ :: _, _, _, _, i + 1, ⟨x, r, h1, h2, h3⟩, q => by
    subst h1
    exact ⟨x, _, rfl, h2, Rps.set i h3 q⟩
theorem Sub.seq {a : Addr} {xs : List V} (s : Sub M H) (h : SqL N.K M a xs) : SqL N.K H a xs := by
  rcases h with (h | ⟨o, h⟩) | h
  · rcases s _ _ h with h | ⟨h, _⟩
    · exact .inl (.inl h)
    · cases h
  · rcases s _ _ h with h | ⟨h, _⟩
    · exact .inl (.inr ⟨o, h⟩)
    · cases h
  · exact .inr h
theorem Sub.tup {a : Addr} {xs : List V} (s : Sub M H) (h : SqC N M a xs) : SqT N.K H a xs := by
  have g : ∀ u, M a = some u → isDct u = false → H a = some u := fun u e n => by
    rcases s _ _ e with h | ⟨h, _⟩
    · exact h
    · rw [n] at h; cases h
  rcases h with h | ⟨_, (h | ⟨o, h⟩) | h⟩
  · exact .inl (.inl (g _ h rfl))
  · exact .inl (.inl (g _ h rfl))
  · exact .inl (.inr ⟨o, g _ h rfl⟩)
  · exact .inr h
theorem Sub.ins {a : Addr} {C dx : Addr} {fs : List (Str × V)} (s : Sub M H) (h : M a = some (.ins C dx fs)) : H a = some (.ins C dx fs) := by
  rcases s _ _ h with h | ⟨h, _⟩
  · exact h
  · cases h
theorem Sub.lst1 {a : Addr} {xs : List V} (s : Sub M H) (h : M a = some (.lst xs)) : H a = some (.lst xs) := by
  rcases s _ _ h with h | ⟨h, _⟩
  · exact h
  · cases h
theorem Sub.dK {a : Addr} {kvs : List (Key × V)} (s : Sub M H) (h : M a = some (.dK kvs)) : Rd H a (.dK kvs) := by
  rcases s _ _ h with h | ⟨_, o, h⟩
  · exact .inl h
  · exact .inr ⟨o, h⟩
theorem Sub.dT {a : Addr} {kvs : List (List Key × V)} (s : Sub M H) (h : M a = some (.dT kvs)) : Rd H a (.dT kvs) := by
  rcases s _ _ h with h | ⟨_, o, h⟩
  · exact .inl h
  · exact .inr ⟨o, h⟩
theorem Sub.isSome {a : Addr} {u : HO} (s : Sub M H) (h : M a = some u) : H a ≠ none := by
  rcases s _ _ h with h | ⟨_, o, h⟩ <;> rw [h] <;> exact fun z => nomatch z
end
def Pre (ρ ρ' : List Addr) : Prop := ∃ r, ρ' = ρ ++ r
theorem Pre.refl (ρ : List Addr) : Pre ρ ρ := ⟨[], by simp⟩
theorem Pre.trans {a b c : List Addr} (h : Pre a b) (k : Pre b c) : Pre a c := by
  obtain ⟨r, rfl⟩ := h
  obtain ⟨q, rfl⟩ := k
  exact ⟨r ++ q, by simp⟩
theorem Pre.get {ρ ρ' : List Addr} (h : Pre ρ ρ') {i : Nat} {a : Addr} (e : ρ[i]? = some a) : ρ'[i]? = some a := by
  obtain ⟨r, rfl⟩ := h
  have := (List.getElem?_eq_some_iff.mp e).1
  rw [List.getElem?_append_left this]
  exact e
theorem Pre.mem {ρ ρ' : List Addr} (h : Pre ρ ρ') {a : Addr} (e : a ∈ ρ) : a ∈ ρ' := by
  obtain ⟨r, rfl⟩ := h
  exact List.mem_append_left _ e
def Rw (N : Kn) (M : Hp) (ρ : List Addr) : W → V → Prop
  | .im d, v => Rp N M d v
  | .loc n, v => ∃ a, ρ[n]? = some a ∧ v = .ref a
  | .dead, _ => True
def Rws (N : Kn) (M : Hp) (ρ : List Addr) : List W → List V → Prop
  | [], xs => xs = []
  | d :: ds, xs => ∃ x r, xs = x :: r ∧ Rw N M ρ d x ∧ Rws N M ρ ds r
def PoolR (M H : Hp) (a : Addr) : Prop := ∃ (q : Addr) (ns : List Int) (i d s : Int), M q = some (.lst (ns.map V.int)) ∧ H a = some (.lst [.ref q, .int i, .int d, .int s]) ∧ (∀ n ∈ ns, 0 ≤ n) ∧ 0 ≤ i ∧ 0 ≤ d ∧ 0 ≤ s ∧ s < 2147483647
def RO (N : Kn) (M : Hp) (ρ : List Addr) (H : Hp) : Ob → Addr → Prop
  | .lst ds, a => M a = none ∧ ∃ xs, H a = some (.lst xs) ∧ Rps N M ds xs
  | .dct ks ds, a => M a = none ∧ ∃ kvs, H a = some (.dK kvs) ∧ kvs.map (·.1) = ks ∧ Rps N M ds (kvs.map (·.2))
  | .dcT ks ds, a => M a = none ∧ ∃ kvs, H a = some (.dT kvs) ∧ kvs.map (·.1) = ks ∧ Rps N M ds (kvs.map (·.2))
  | .ins C fs, a => M a = none ∧ ∃ dx fxs, H a = some (.ins (He.ga N.K C) dx fxs) ∧ fxs.map (·.1) = fs.map (·.1) ∧ Rws N M ρ (fs.map (·.2)) (fxs.map (·.2))
  | .lsW ws, a => M a = none ∧ ∃ xs, H a = some (.lst xs) ∧ Rws N M ρ ws xs
  | .dcW ks ws, a => M a = none ∧ ∃ kvs, H a = some (.dK kvs) ∧ kvs.map (·.1) = ks ∧ Rws N M ρ ws (kvs.map (·.2))
  | .pool, a => M a = none ∧ PoolR M H a
  | .fz d, a => Rp N M d (.ref a) ∧ H a ≠ none
  | .gone, a => H a ≠ none
section
variable {N : Kn} {M M' H H' : Hp} {ρ ρ' : List Addr}
theorem Rw.mono {w : W} {v : V} (h : Rw N M ρ w v) (e : Same M M') (p : Pre ρ ρ') : Rw N M' ρ' w v := by
  cases w with
  | im d => exact Rp.mono e h
  | loc n => obtain ⟨a, h1, h2⟩ := h; exact ⟨a, p.get h1, h2⟩
  | dead => trivial
theorem Rws.mono (e : Same M M') (p : Pre ρ ρ') : ∀ {ws : List W} {vs : List V}, Rws N M ρ ws vs → Rws N M' ρ' ws vs
  | [], _, h => h
  | _ :: _, _, ⟨x, r, h1, h2, h3⟩ => ⟨x, r, h1, h2.mono e p, Rws.mono e p h3⟩
theorem Rws.length : ∀ {ds : List W} {vs : List V}, Rws N M ρ ds vs → vs.length = ds.length
  | [], _, h => by rw [show _ = [] from h]; rfl
  | _ :: _, _, ⟨_, _, h1, _, h3⟩ => by rw [h1, List.length_cons, List.length_cons, Rws.length h3]
theorem Rws.get : ∀ {ds : List W} {vs : List V} {i : Nat} {d : W}, Rws N M ρ ds vs → ds[i]? = some d → ∃ v, vs[i]? = some v ∧ Rw N M ρ d v
  | [], _, _, _, _, e => by simp at e
  | d :: ds, _, 0, _, ⟨x, r, h1, h2, _⟩, e => by
    subst h1
    simp at e
    subst e
    exact ⟨x, rfl, h2⟩
  | d :: ds, _, i + 1, _, ⟨x, r, h1, _, h3⟩, e => by
    subst h1
    obtain ⟨v, h4, h5⟩ := Rws.get (i := i) h3 (by simpa using e)
    exact ⟨v, by simpa using h4, h5⟩
theorem Rws.get2 : ∀ {ds : List W} {vs : List V} {i : Nat} {v : V}, Rws N M ρ ds vs → vs[i]? = some v → ∃ d, ds[i]? = some d ∧ Rw N M ρ d v
  | [], vs, _, _, h, e => by rw [show vs = [] from h] at e; simp at e
  | d :: ds, _, 0, _, ⟨x, r, h1, h2, _⟩, e => by
    subst h1
    simp at e
    subst e
    exact ⟨d, rfl, h2⟩
  | d :: ds, _, i + 1, _, ⟨x, r, h1, _, h3⟩, e => by
    subst h1
    obtain ⟨v, h4, h5⟩ := Rws.get2 (i := i) h3 (by simpa using e)
    exact ⟨v, by simpa using h4, h5⟩
theorem Rws.of : ∀ {ds : List D} {vs : List V}, Rps N M ds vs → Rws N M ρ (ds.map W.im) vs
  | [], _, h => h
  | _ :: _, _, ⟨x, r, h1, h2, h3⟩ => ⟨x, r, h1, h2, Rws.of h3⟩
theorem RO.there {o : Ob} {a : Addr} (h : RO N M ρ H o a) : H a ≠ none := by
  cases o with
  | lst ds => obtain ⟨_, _, h, _⟩ := h; rw [h]; exact fun z => nomatch z
  | dct ks ds => obtain ⟨_, _, h, _⟩ := h; rw [h]; exact fun z => nomatch z
  | dcT ks ds => obtain ⟨_, _, h, _⟩ := h; rw [h]; exact fun z => nomatch z
  | ins C fs => obtain ⟨_, _, _, h, _⟩ := h; rw [h]; exact fun z => nomatch z
  | lsW ws => obtain ⟨_, _, h, _⟩ := h; rw [h]; exact fun z => nomatch z
  | dcW ks ws => obtain ⟨_, _, h, _⟩ := h; rw [h]; exact fun z => nomatch z
  | pool => obtain ⟨_, _, _, _, _, _, _, h, _⟩ := h; rw [h]; exact fun z => nomatch z
  | fz d => exact h.2
  | gone => exact h
theorem RO.mono {o : Ob} {a : Addr} (h : RO N M ρ H o a) (e : Same M M') (p : Pre ρ ρ') (hM : M a = none → M' a = none) (hH : ∀ u, H a = some u → H' a = some u) : RO N M' ρ' H' o a := by
  have hn : H a ≠ none → H' a ≠ none := fun n => by
    cases z : H a with
    | none => exact absurd z n
    | some u => rw [hH u z]; exact fun z => nomatch z
  cases o with
  | lst ds => obtain ⟨h0, xs, h, h1⟩ := h; exact ⟨hM h0, xs, hH _ h, h1.mono e⟩
  | dct ks ds => obtain ⟨h0, xs, h, h1, h2⟩ := h; exact ⟨hM h0, xs, hH _ h, h1, h2.mono e⟩
  | dcT ks ds => obtain ⟨h0, xs, h, h1, h2⟩ := h; exact ⟨hM h0, xs, hH _ h, h1, h2.mono e⟩
  | ins C fs => obtain ⟨h0, dx, xs, h, h1, h2⟩ := h; exact ⟨hM h0, dx, xs, hH _ h, h1, h2.mono e p⟩
  | lsW ws => obtain ⟨h0, xs, h, h1⟩ := h; exact ⟨hM h0, xs, hH _ h, Rws.mono e p h1⟩
  | dcW ks ws => obtain ⟨h0, xs, h, h1, h2⟩ := h; exact ⟨hM h0, xs, hH _ h, h1, Rws.mono e p h2⟩
  | pool => obtain ⟨h0, q, ns, i, d, s, h1, h2, h3⟩ := h; exact ⟨hM h0, q, ns, i, d, s, e _ _ h1, hH _ h2, h3⟩
  | fz d => exact ⟨h.1.mono e, hn h.2⟩
  | gone => exact hn h
structure Rep (N : Kn) (M : Hp) (ρ : List Addr) (st : Sto) (H : Hp) : Prop where
  sub : Sub M H
  len : ρ.length = st.length
  inj : ∀ (i j : Nat) a, ρ[i]? = some a → ρ[j]? = some a → i = j
  ob : ∀ (i : Nat) a o, ρ[i]? = some a → st[i]? = some o → RO N M ρ H o a
def Rs (N : Kn) (M : Hp) (ρ : List Addr) (σ : Sl) (σV : L2.St) : Prop := σ.length = σV.length ∧ ∀ (i : Nat) w, σ[i]? = some (some w) → ∃ v, σV[i]? = some (some v) ∧ Rw N M ρ w v
structure Ext (M : Hp) (ρ : List Addr) (H M' : Hp) (ρ' : List Addr) (H' : Hp) : Prop where
  mm : Same M M'
  pre : Pre ρ ρ'
  fr : Fr ρ H H'
  nw : ∀ a, M' a ≠ none → M a ≠ none ∨ H a = none ∨ a ∈ ρ
  rn : ∀ a ∈ ρ', a ∈ ρ ∨ H a = none
theorem Ext.refl : Ext M ρ H M ρ H := ⟨Same.refl _, Pre.refl _, Fr.refl _ _, fun _ h => .inl h, fun _ h => .inl h⟩
theorem Ext.trans {M2 H2 : Hp} {ρ2 : List Addr} (a : Ext M ρ H M' ρ' H') (b : Ext M' ρ' H' M2 ρ2 H2) : Ext M ρ H M2 ρ2 H2 := by
  have k : ∀ c, H' c = none → H c = none ∨ c ∈ ρ := fun c h => by
    by_cases z : c ∈ ρ
    · exact .inr z
    · left
      cases e : H c with
      | none => rfl
      | some o => rw [a.fr c o e z] at h; cases h
  refine ⟨a.mm.trans b.mm, a.pre.trans b.pre, fun c o h n => ?_, fun c h => ?_, fun c h => ?_⟩
  · refine b.fr c o (a.fr c o h n) fun z => ?_
    rcases a.rn c z with z | z
    · exact n z
    · rw [h] at z; cases z
  · rcases b.nw c h with h | h | h
    · exact a.nw c h
    · rcases k c h with h | h
      · exact .inr (.inl h)
      · exact .inr (.inr h)
    · rcases a.rn c h with h | h
      · exact .inr (.inr h)
      · exact .inr (.inl h)
  · rcases b.rn c h with h | h
    · exact a.rn c h
    · rcases k c h with h | h
      · exact .inr h
      · exact .inl h
theorem Rs.mono {σ : Sl} {σV : L2.St} (h : Rs N M ρ σ σV) (e : Same M M') (p : Pre ρ ρ') : Rs N M' ρ' σ σV := ⟨h.1, fun i w q => let ⟨v, h1, h2⟩ := h.2 i w q; ⟨v, h1, h2.mono e p⟩⟩
theorem Rs.ext {σ : Sl} {σV : L2.St} (h : Rs N M ρ σ σV) (e : Ext M ρ H M' ρ' H') : Rs N M' ρ' σ σV := h.mono e.mm e.pre
theorem Rw.ext {w : W} {v : V} (h : Rw N M ρ w v) (e : Ext M ρ H M' ρ' H') : Rw N M' ρ' w v := h.mono e.mm e.pre
theorem Rws.ext {w : List W} {v : List V} (h : Rws N M ρ w v) (e : Ext M ρ H M' ρ' H') : Rws N M' ρ' w v := Rws.mono e.mm e.pre h
theorem Rp.ext {w : D} {v : V} (h : Rp N M w v) (e : Ext M ρ H M' ρ' H') : Rp N M' w v := Rp.mono e.mm h
theorem Rps.ext {w : List D} {v : List V} (h : Rps N M w v) (e : Ext M ρ H M' ρ' H') : Rps N M' w v := Rps.mono e.mm h
theorem Rs.set {σ : Sl} {σV : L2.St} {w : W} {v : V} (h : Rs N M ρ σ σV) (k : Rw N M ρ w v) (i : Nat) : Rs N M ρ (σ.set i (some w)) (σV.set i (some v)) := by
  refine ⟨by rw [List.length_set, List.length_set]; exact h.1, fun j w' e => ?_⟩
  by_cases z : i = j
  · subst z
    have hj : i < σ.length := by
      have := (List.getElem?_eq_some_iff.mp e).1
      simpa using this
    rw [List.getElem?_set_self hj] at e
    cases e
    exact ⟨v, by rw [List.getElem?_set_self (by rw [← h.1]; exact hj)], k⟩
  · rw [List.getElem?_set_ne z] at e
    obtain ⟨v', h1, h2⟩ := h.2 j w' e
    exact ⟨v', by rw [List.getElem?_set_ne z]; exact h1, h2⟩
theorem Rs.unset {σ : Sl} {σV : L2.St} (h : Rs N M ρ σ σV) (i : Nat) (o : Option V) : Rs N M ρ (σ.set i none) (σV.set i o) := by
  refine ⟨by rw [List.length_set, List.length_set]; exact h.1, fun j w' e => ?_⟩
  by_cases z : i = j
  · subst z
    have hj : i < σ.length := by
      have := (List.getElem?_eq_some_iff.mp e).1
      simpa using this
    rw [List.getElem?_set_self hj] at e
    cases e
  · rw [List.getElem?_set_ne z] at e
    obtain ⟨v', h1, h2⟩ := h.2 j w' e
    exact ⟨v', by rw [List.getElem?_set_ne z]; exact h1, h2⟩
theorem Sub.new {p : Addr} {o : HO} (h : Sub M H) (hp : H p = none) : Sub (upd M p o) (upd H p o) ∧ Same M (upd M p o) := by
  have hm : M p = none := by
    cases e : M p with
    | none => rfl
    | some u => exact absurd hp (h.isSome e)
  refine ⟨fun b u e => ?_, same_grow0 hm⟩
  by_cases z : b = p
  · subst z
    rw [upd_same] at e
    cases e
    exact .inl upd_same
  · rw [upd_ne z] at e
    rw [upd_ne z]
    exact h b u e
theorem Rep.non {st : Sto} (r : Rep N M ρ st H) {p : Addr} (hp : H p = none) : M p = none := by
  cases e : M p with
  | none => rfl
  | some u => exact absurd hp (r.sub.isSome e)
theorem Rep.at_ {st : Sto} (r : Rep N M ρ st H) {i : Nat} {a : Addr} (e : ρ[i]? = some a) : ∃ o, st[i]? = some o ∧ RO N M ρ H o a := by
  have hi := (List.getElem?_eq_some_iff.mp e).1
  rw [r.len] at hi
  exact ⟨st[i], by simp [hi], r.ob i a _ e (by simp [hi])⟩
theorem Rep.mem {st : Sto} (r : Rep N M ρ st H) {a : Addr} (h : a ∈ ρ) : H a ≠ none := by
  obtain ⟨i, hi⟩ := List.getElem?_of_mem h
  obtain ⟨o, _, ho⟩ := r.at_ hi
  exact ho.there
theorem Rep.new {st : Sto} (r : Rep N M ρ st H) {p : Addr} {o : HO} (hp : H p = none) : Rep N (upd M p o) ρ st (upd H p o) := by
  obtain ⟨h1, h2⟩ := r.sub.new (o := o) hp
  refine ⟨h1, r.len, r.inj, fun i a ob e1 e2 => ?_⟩
  have q := r.ob i a ob e1 e2
  have hne : a ≠ p := fun z => q.there (by rw [z]; exact hp)
  exact q.mono h2 (Pre.refl _) (fun hm => by rw [upd_ne hne]; exact hm) fun u hu => by rw [upd_ne hne]; exact hu
theorem Ext.new {p : Addr} {o : HO} (r : Sub M H) (hp : H p = none) : Ext M ρ H (upd M p o) ρ (upd H p o) := by
  refine ⟨(r.new hp).2, Pre.refl _, (Fr.refl _ _).new hp, fun a h => ?_, fun a h => .inl h⟩
  by_cases z : a = p
  · exact .inr (.inl (by rw [z]; exact hp))
  · rw [upd_ne z] at h
    exact .inl h
theorem Rep.loc {st : Sto} (r : Rep N M ρ st H) {p : Addr} {u : HO} {o : Ob} (hp : H p = none) (ho : RO N M (ρ ++ [p]) (upd H p u) o p) : Rep N M (ρ ++ [p]) (st ++ [o]) (upd H p u) := by
  have hm := r.non hp
  have hs : Sub M (upd H p u) := fun b u' e => by
    rw [upd_ne (fun z => by rw [z, hm] at e; cases e)]
    exact r.sub b u' e
  have hmem : p ∉ ρ := fun z => r.mem z hp
  refine ⟨hs, by rw [List.length_append, List.length_append, r.len]; rfl, fun i j a e1 e2 => ?_, fun i a o' e1 e2 => ?_⟩
  · rw [List.getElem?_append] at e1 e2
    split at e1 <;> split at e2
    · exact r.inj i j a e1 e2
    · rename_i h1 h2
      exfalso
      have : a = p := by
        cases z : j - ρ.length with
        | zero => rw [z] at e2; simpa using e2.symm
        | succ n => rw [z] at e2; simp at e2
      rw [this] at e1
      exact hmem (List.mem_of_getElem? e1)
    · rename_i h1 h2
      exfalso
      have : a = p := by
        cases z : i - ρ.length with
        | zero => rw [z] at e1; simpa using e1.symm
        | succ n => rw [z] at e1; simp at e1
      rw [this] at e2
      exact hmem (List.mem_of_getElem? e2)
    · rename_i h1 h2
      have k1 : i - ρ.length = 0 := by
        have := (List.getElem?_eq_some_iff.mp e1).1
        simpa using this
      have k2 : j - ρ.length = 0 := by
        have := (List.getElem?_eq_some_iff.mp e2).1
        simpa using this
      omega
  · rw [List.getElem?_append] at e1 e2
    split at e1
    · rename_i h1
      rw [if_pos (by rw [← r.len]; exact h1)] at e2
      have q := r.ob i a o' e1 e2
      have hne : a ≠ p := fun z => q.there (by rw [z]; exact hp)
      exact q.mono (Same.refl _) ⟨[p], rfl⟩ (fun h => h) fun u hu => by rw [upd_ne hne]; exact hu
    · rename_i h1
      rw [if_neg (by rw [← r.len]; exact h1)] at e2
      have k1 : i - ρ.length = 0 := by
        have := (List.getElem?_eq_some_iff.mp e1).1
        simpa using this
      rw [k1] at e1
      rw [← r.len, k1] at e2
      cases e1
      cases e2
      exact ho
theorem Ext.loc {p : Addr} {o : HO} (hp : H p = none) : Ext M ρ H M (ρ ++ [p]) (upd H p o) := by
  refine ⟨Same.refl _, ⟨[p], rfl⟩, (Fr.refl _ _).new hp, fun a h => .inl h, fun a h => ?_⟩
  rcases List.mem_append.mp h with h | h
  · exact .inl h
  · rw [List.mem_singleton] at h
    rw [h]
    exact .inr hp
theorem Rep.wr {st : Sto} (r : Rep N M ρ st H) {n : Nat} {a : Addr} {u : HO} {o : Ob} (ha : ρ[n]? = some a) (hm : M a = none) (ho : RO N M ρ (upd H a u) o a) : Rep N M ρ (st.set n o) (upd H a u) := by
  have hs : Sub M (upd H a u) := fun b u' e => by
    rw [upd_ne (fun z => by rw [z, hm] at e; cases e)]
    exact r.sub b u' e
  refine ⟨hs, by rw [List.length_set]; exact r.len, r.inj, fun i b o' e1 e2 => ?_⟩
  by_cases z : n = i
  · subst z
    rw [ha] at e1
    cases e1
    have hn := (List.getElem?_eq_some_iff.mp ha).1
    rw [List.getElem?_set_self (by rw [← r.len]; exact hn)] at e2
    cases e2
    exact ho
  · rw [List.getElem?_set_ne z] at e2
    have hne : b ≠ a := fun w => z (r.inj _ _ _ ha (by rw [← w]; exact e1))
    exact (r.ob i b o' e1 e2).mono (Same.refl _) (Pre.refl _) (fun h => h) fun u hu => by rw [upd_ne hne]; exact hu
theorem Ext.wr {a : Addr} {o : HO} (ha : a ∈ ρ) : Ext M ρ H M ρ (upd H a o) := ⟨Same.refl _, Pre.refl _, (Fr.refl _ _).wr ha, fun a h => .inl h, fun a h => .inl h⟩
theorem Rep.fz {st : Sto} (r : Rep N M ρ st H) {n : Nat} {a : Addr} {u : HO} {d : D} (ha : ρ[n]? = some a) (hm : M a = Option.none) (hu : H a = some u) (hd : Rp N (upd M a u) d (.ref a)) : Rep N (upd M a u) ρ (st.set n (.fz d)) H := by
  have hs : Sub (upd M a u) H := fun b u' e => by
    by_cases z : b = a
    · subst z
      rw [upd_same] at e
      cases e
      exact .inl hu
    · rw [upd_ne z] at e
      exact r.sub b u' e
  refine ⟨hs, by rw [List.length_set]; exact r.len, r.inj, fun i b o' e1 e2 => ?_⟩
  by_cases z : n = i
  · subst z
    rw [ha] at e1
    cases e1
    have hn := (List.getElem?_eq_some_iff.mp ha).1
    rw [List.getElem?_set_self (by rw [← r.len]; exact hn)] at e2
    cases e2
    exact ⟨hd, by rw [hu]; exact fun z => nomatch z⟩
  · rw [List.getElem?_set_ne z] at e2
    have hne : b ≠ a := fun w => z (r.inj _ _ _ ha (by rw [← w]; exact e1))
    exact (r.ob i b o' e1 e2).mono (same_grow0 hm) (Pre.refl _) (fun h => by rw [upd_ne hne]; exact h) fun u hu => hu
theorem Ext.fz {a : Addr} {u : HO} (ha : a ∈ ρ) (hm : M a = none) : Ext M ρ H (upd M a u) ρ H := by
  refine ⟨same_grow0 hm, Pre.refl _, Fr.refl _ _, fun b h => ?_, fun a h => .inl h⟩
  by_cases z : b = a
  · exact .inr (.inr (by rw [z]; exact ha))
  · rw [upd_ne z] at h
    exact .inl h
end
end Dl
end

section
set_option maxHeartbeats 4000000
namespace Dl
open PySem PySem.Spec PyProof.Rows L2 Co
abbrev DX := Str → List (Str × D) → Sto → Prop
abbrev Lv (α : Type) := Sl → Sto → (α → Sto → Prop) → DX → Prop
abbrev DW := Lv W
abbrev DD := Lv D
abbrev DT := Lv Bool
abbrev DA := Lv (List W)
abbrev DAD := Lv (List D)
structure En where
  nx : Sl → Sto → Prop
  rt : W → Sto → Prop
  ex : Str → List (Str × D) → Sl → Sto → Prop
  bk : Sl → Sto → Prop := fun _ _ => False
  ct : Sl → Sto → Prop := fun _ _ => False
abbrev DS := En → Sl → Sto → Prop
def ErrOwn (N : Kn) (M : Hp) : Option Addr → List (Str × D) → Prop
  | none, fs => fs = []
  | some d, fs => ∃ fxs, M d = some (.xd fxs) ∧ fxs.map (·.1) = fs.map (·.1) ∧ Rps N M (fs.map (·.2)) (fxs.map (·.2))
def ExL (N : Kn) (Wx : WX) (M : Hp) (ρ : List Addr) (H : Hp) (σV : L2.St) (ex : DX) : Prop :=
  ∀ c fs st', ex c fs st' → ∀ o M' ρ' H', Ext M ρ H M' ρ' H' → Rep N M' ρ' st' H' → ErrOwn N M' o fs → Wx (.ref (He.ga N.K c)) o σV H'
structure Kx (N : Kn) (Wx : WX) (M : Hp) (ρ : List Addr) (σ : Sl) (st : Sto) (H : Hp) (σV : L2.St) (ex : DX) : Prop where
  rep : Rep N M ρ st H
  rs : Rs N M ρ σ σV
  xl : ExL N Wx M ρ H σV ex
theorem Kx.step {N : Kn} {Wx : WX} {M M' H H' : Hp} {ρ ρ' : List Addr} {σ : Sl} {st st' : Sto} {σV : L2.St} {ex : DX} (c : Kx N Wx M ρ σ st H σV ex) (e : Ext M ρ H M' ρ' H') (r : Rep N M' ρ' st' H') : Kx N Wx M' ρ' σ st' H' σV ex :=
  ⟨r, c.rs.ext e, fun c' fs st2 h o M2 ρ2 H2 e2 => c.xl c' fs st2 h o M2 ρ2 H2 (e.trans e2)⟩
def Lf {α β : Type} (N : Kn) (Wx : WX) (R : Hp → List Addr → α → β → Prop) (t : Lv α) : L2.St → Hp → (β → Hp → Prop) → Prop := fun σV H Q =>
  ∃ M ρ σ st k ex, Kx N Wx M ρ σ st H σV ex ∧ t σ st k ex ∧ ∀ w st', k w st' → ∀ v M' ρ' H', Ext M ρ H M' ρ' H' → Rep N M' ρ' st' H' → R M' ρ' w v → Q v H'
abbrev RW_ (N : Kn) : Hp → List Addr → W → V → Prop := fun M ρ w v => Rw N M ρ w v
abbrev RD_ (N : Kn) : Hp → List Addr → D → V → Prop := fun M _ d v => Rp N M d v
abbrev RB_ : Hp → List Addr → Bool → Bool → Prop := fun _ _ b c => c = b
abbrev RA_ (N : Kn) : Hp → List Addr → List W → List V → Prop := fun M ρ w v => Rws N M ρ w v
abbrev RAD_ (N : Kn) : Hp → List Addr → List D → List V → Prop := fun M _ d v => Rps N M d v
abbrev lW (N : Kn) (Wx : WX) (t : DW) : TE := Lf N Wx (RW_ N) t
abbrev lD (N : Kn) (Wx : WX) (t : DD) : TE := Lf N Wx (RD_ N) t
abbrev lT (N : Kn) (Wx : WX) (t : DT) : TT := Lf N Wx RB_ t
abbrev lA (N : Kn) (Wx : WX) (t : DA) : TA := Lf N Wx (RA_ N) t
abbrev lAD (N : Kn) (Wx : WX) (t : DAD) : TA := Lf N Wx (RAD_ N) t
class Mo {α β : Type} (R : Hp → List Addr → α → β → Prop) : Prop where
  mo : ∀ {M H M' H' : Hp} {ρ ρ' : List Addr} {w : α} {v : β}, Ext M ρ H M' ρ' H' → R M ρ w v → R M' ρ' w v
instance {N : Kn} : Mo (RW_ N) := ⟨fun e h => Rw.ext h e⟩
instance {N : Kn} : Mo (RD_ N) := ⟨fun e h => Rp.ext h e⟩
instance : Mo RB_ := ⟨fun _ h => h⟩
instance {N : Kn} : Mo (RA_ N) := ⟨fun e h => Rws.ext h e⟩
instance {N : Kn} : Mo (RAD_ N) := ⟨fun e h => Rps.ext h e⟩
section
variable {N : Kn} {Wx : WX} {M H : Hp} {ρ : List Addr} {σ : Sl} {st : Sto} {σV : L2.St} {ex : DX}
theorem Lf.of {α β : Type} {R : Hp → List Addr → α → β → Prop} {t : Lv α} {k : α → Sto → Prop} {Q : β → Hp → Prop} (c : Kx N Wx M ρ σ st H σV ex) (h : t σ st k ex)
    (q : ∀ w st', k w st' → ∀ v M' ρ' H', Ext M ρ H M' ρ' H' → Kx N Wx M' ρ' σ st' H' σV ex → R M' ρ' w v → Q v H') : Lf N Wx R t σV H Q :=
  ⟨M, ρ, σ, st, k, ex, c, h, fun w st' hk v M' ρ' H' e r rv => q w st' hk v M' ρ' H' e (c.step e r) rv⟩
theorem Lf.bin {α β α' β' : Type} {R : Hp → List Addr → α → β → Prop} [Mo R] {R' : Hp → List Addr → α' → β' → Prop} {t : Lv α} {t' : Lv α'} {g : α → α' → Sto → Prop} {Q : β → β' → Hp → Prop} (c : Kx N Wx M ρ σ st H σV ex)
    (h : t σ st (fun w st1 => t' σ st1 (fun w' st2 => g w w' st2) ex) ex)
    (q : ∀ w w' st', g w w' st' → ∀ v v' M' ρ' H', Ext M ρ H M' ρ' H' → Kx N Wx M' ρ' σ st' H' σV ex → R M' ρ' w v → R' M' ρ' w' v' → Q v v' H') :
    Lf N Wx R t σV H (fun v H1 => Lf N Wx R' t' σV H1 (fun v' H2 => Q v v' H2)) :=
  Lf.of c h fun w st1 h1 v M1 ρ1 H1 e1 c1 r1 => Lf.of c1 h1 fun w' st2 h2 v' M2 ρ2 H2 e2 c2 r2 => q w w' st2 h2 v v' M2 ρ2 H2 (e1.trans e2) c2 (Mo.mo e2 r1) r2
theorem Kx.open_ {α β : Type} {R : Hp → List Addr → α → β → Prop} {t : Lv α} {Q : β → Hp → Prop} (h : Lf N Wx R t σV H Q) :
    ∃ M ρ σ st k ex, Kx N Wx M ρ σ st H σV ex ∧ t σ st k ex ∧ ∀ w st', k w st' → ∀ v M' ρ' H', Ext M ρ H M' ρ' H' → Kx N Wx M' ρ' σ st' H' σV ex → R M' ρ' w v → Q v H' := by
  obtain ⟨M, ρ, σ, st, k, ex, c, ht, q⟩ := h
  exact ⟨M, ρ, σ, st, k, ex, c, ht, fun w st' hk v M' ρ' H' e c' r => q w st' hk v M' ρ' H' e c'.rep r⟩
theorem Kx.new (c : Kx N Wx M ρ σ st H σV ex) {p : Addr} {o : HO} (hp : H p = none) : Ext M ρ H (upd M p o) ρ (upd H p o) ∧ Kx N Wx (upd M p o) ρ σ st (upd H p o) σV ex :=
  ⟨Ext.new c.rep.sub hp, c.step (Ext.new c.rep.sub hp) (c.rep.new hp)⟩
theorem Kx.loc (c : Kx N Wx M ρ σ st H σV ex) {p : Addr} {u : HO} {o : Ob} (hp : H p = none) (ho : RO N M (ρ ++ [p]) (upd H p u) o p) : Ext M ρ H M (ρ ++ [p]) (upd H p u) ∧ Kx N Wx M (ρ ++ [p]) σ (st ++ [o]) (upd H p u) σV ex :=
  ⟨Ext.loc hp, c.step (Ext.loc hp) (c.rep.loc hp ho)⟩
theorem Kx.wr (c : Kx N Wx M ρ σ st H σV ex) {n : Nat} {a : Addr} {u : HO} {o : Ob} (ha : ρ[n]? = some a) (hm : M a = none) (ho : RO N M ρ (upd H a u) o a) : Ext M ρ H M ρ (upd H a u) ∧ Kx N Wx M ρ σ (st.set n o) (upd H a u) σV ex :=
  ⟨Ext.wr (List.mem_of_getElem? ha), c.step (Ext.wr (List.mem_of_getElem? ha)) (c.rep.wr ha hm ho)⟩
end
def dWs : List W → Option (List D)
  | [] => some []
  | .im d :: r => match dWs r with
    | some ds => some (d :: ds)
    | none => none
  | _ :: _ => none
def flat : Ob → Option D
  | .fz d => some d
  | .lst ds => some (.lst ds)
  | .dct ks ds => some (.dct ks ds)
  | .dcT ks ds => some (.dcT ks ds)
  | .ins C fs => match dWs (fs.map (·.2)) with
    | some ds => some (.ins C (fs.map (·.1)) ds)
    | none => none
  | _ => none
def fzFs (st : Sto) : List (Str × W) → Option (List (Str × W) × Sto)
  | [] => some ([], st)
  | (x, .im d) :: r => match fzFs st r with
    | some (r', st') => some ((x, .im d) :: r', st')
    | none => none
  | (x, .loc n) :: r => match st[n]? with
    | some o => (match flat o with
      | some d => (match fzFs (st.set n (.fz d)) r with
        | some (r', st') => some ((x, .im d) :: r', st')
        | none => none)
      | none => none)
    | none => none
  | (_, .dead) :: _ => none
def toD (w : W) (st : Sto) : Option (D × Sto) := match w with
  | .im d => some (d, st)
  | .loc n => match st[n]? with
    | some (.ins C fs) => (match fzFs st fs with
      | some (fs', st') => (match st'[n]? with
        | some (.ins _ _) => (match flat (.ins C fs') with
          | some d => some (d, st'.set n (.fz d))
          | none => none)
        | _ => none)
      | none => none)
    | some o => (match flat o with
      | some d => some (d, st.set n (.fz d))
      | none => none)
    | none => none
  | .dead => none
section
variable {N : Kn} {M H : Hp} {ρ : List Addr} {st : Sto}
theorem dWs_ok : ∀ {ws : List W} {ds : List D} {vs : List V}, dWs ws = some ds → Rws N M ρ ws vs → Rps N M ds vs
  | [], _, _, e, h => by cases e; exact h
  | .im d :: r, _, _, e, ⟨x, q, h1, h2, h3⟩ => by
    unfold dWs at e
    split at e
    · rename_i es e1
      cases e
      exact ⟨x, q, h1, h2, dWs_ok e1 h3⟩
    · cases e
  | .loc _ :: _, _, _, e, _ => by cases e
  | .dead :: _, _, _, e, _ => by cases e
theorem flat_ok (r : Rep N M ρ st H) {n : Nat} {a : Addr} {o : Ob} {d : D} (ha : ρ[n]? = some a) (ho : st[n]? = some o) (e : flat o = some d) :
    ∃ M', Ext M ρ H M' ρ H ∧ Rep N M' ρ (st.set n (.fz d)) H ∧ Rp N M' d (.ref a) := by
  have q := r.ob n a o ha ho
  have go : ∀ u, M a = none → H a = some u → (Rp N (upd M a u) d (.ref a)) → ∃ M', Ext M ρ H M' ρ H ∧ Rep N M' ρ (st.set n (.fz d)) H ∧ Rp N M' d (.ref a) := fun u hm hu hd =>
    ⟨_, Ext.fz (List.mem_of_getElem? ha) hm, r.fz ha hm hu hd, hd⟩
  cases o with
  | lst ds =>
    cases e
    obtain ⟨hm, xs, h1, h2⟩ := q
    exact go _ hm h1 ⟨a, xs, rfl, upd_same, h2.mono (same_grow0 hm)⟩
  | dct ks ds =>
    cases e
    obtain ⟨hm, xs, h1, h2, h3⟩ := q
    exact go _ hm h1 ⟨a, xs, rfl, upd_same, h2, h3.mono (same_grow0 hm)⟩
  | dcT ks ds =>
    cases e
    obtain ⟨hm, xs, h1, h2, h3⟩ := q
    exact go _ hm h1 ⟨a, xs, rfl, upd_same, h2, h3.mono (same_grow0 hm)⟩
  | ins C fs =>
    cases hz : dWs (fs.map (·.2)) with
    | none => simp only [flat, hz] at e; cases e
    | some ds =>
      simp only [flat, hz] at e
      cases e
      obtain ⟨hm, dx, xs, h1, h2, h3⟩ := q
      exact go _ hm h1 ⟨a, dx, xs, rfl, upd_same, h2, (dWs_ok hz h3).mono (same_grow0 hm)⟩
  | lsW ws => cases e
  | dcW ks ws => cases e
  | pool => cases e
  | fz d' =>
    cases e
    have : st.set n (.fz d) = st := by
      apply List.ext_getElem? 
      intro i
      by_cases z : n = i
      · subst z
        have hn := (List.getElem?_eq_some_iff.mp ho).1
        rw [List.getElem?_set_self hn, ho]
      · rw [List.getElem?_set_ne z]
    rw [this]
    exact ⟨M, Ext.refl, r, q.1⟩
  | gone => cases e
theorem fzFs_ok : ∀ {fs fs' : List (Str × W)} {vs : List V} {M : Hp} {st st' : Sto}, Rep N M ρ st H → fzFs st fs = some (fs', st') → Rws N M ρ (fs.map (·.2)) vs →
    ∃ M', Ext M ρ H M' ρ H ∧ Rep N M' ρ st' H ∧ Rws N M' ρ (fs'.map (·.2)) vs ∧ fs'.map (·.1) = fs.map (·.1)
  | [], _, _, M, _, _, r, e, h => by
    cases e
    exact ⟨M, Ext.refl, r, h, rfl⟩
  | (x, .im d) :: fs, _, _, M, st, _, r, e, ⟨v, q, h1, h2, h3⟩ => by
    unfold fzFs at e
    split at e
    · rename_i r' st1 e1
      cases e
      obtain ⟨M', E, R, h4, h5⟩ := fzFs_ok r e1 h3
      exact ⟨M', E, R, ⟨v, q, h1, h2.ext E, h4⟩, by rw [List.map_cons, List.map_cons, h5]⟩
    · cases e
  | (x, .loc n) :: fs, _, _, M, st, _, r, e, ⟨v, q, h1, ⟨a, h2, h2'⟩, h3⟩ => by
    unfold fzFs at e
    split at e
    · rename_i o ho
      split at e
      · rename_i d hd
        split at e
        · rename_i r' st1 e1
          cases e
          obtain ⟨M1, E1, R1, p1⟩ := flat_ok r h2 ho hd
          obtain ⟨M', E, R, h4, h5⟩ := fzFs_ok R1 e1 (Rws.ext h3 E1)
          refine ⟨M', E1.trans E, R, ⟨v, q, h1, ?_, h4⟩, by rw [List.map_cons, List.map_cons, h5]⟩
          rw [h2']
          exact Rp.ext p1 E
        · cases e
      · cases e
    · cases e
  | (x, .dead) :: fs, _, _, _, _, _, _, e, _ => by cases e
theorem toD_ok {w : W} {d : D} {st' : Sto} {v : V} (r : Rep N M ρ st H) (e : toD w st = some (d, st')) (h : Rw N M ρ w v) : ∃ M', Ext M ρ H M' ρ H ∧ Rep N M' ρ st' H ∧ Rp N M' d v := by
  cases w with
  | im d' => cases e; exact ⟨M, Ext.refl, r, h⟩
  | dead => cases e
  | loc n =>
    obtain ⟨a, ha, rfl⟩ := h
    have gen : ∀ o, st[n]? = some o → (match flat o with
      | some d => some (d, st.set n (.fz d))
      | none => none) = some (d, st') → ∃ M', Ext M ρ H M' ρ H ∧ Rep N M' ρ st' H ∧ Rp N M' d (.ref a) := fun o ho e => by
      cases hf : flat o with
      | none => rw [hf] at e; cases e
      | some d2 =>
        rw [hf] at e
        cases e
        exact flat_ok r ha ho hf
    cases ho : st[n]? with
    | none => simp only [toD, ho] at e; cases e
    | some o =>
      cases o with
      | ins C fs =>
        simp only [toD, ho] at e
        cases h1 : fzFs st fs with
        | none => rw [h1] at e; cases e
        | some p =>
          obtain ⟨fs', st1⟩ := p
          rw [h1] at e
          simp only at e
          cases h2 : st1[n]? with
          | none => rw [h2] at e; cases e
          | some o2 =>
            rw [h2] at e
            cases o2 with
            | ins C2 gs2 =>
              simp only at e
              obtain ⟨hm, dx, xs, q1, q2, q3⟩ := r.ob n a _ ha ho
              obtain ⟨M1, E1, R1, r1, r2⟩ := fzFs_ok r h1 q3
              obtain ⟨hm1, _⟩ := R1.ob n a _ ha h2
              cases h3 : flat (.ins C fs') with
              | none => rw [h3] at e; cases e
              | some d2 =>
                rw [h3] at e
                cases e
                cases h4 : dWs (fs'.map (·.2)) with
                | none => simp only [flat, h4] at h3; cases h3
                | some ds =>
                  simp only [flat, h4] at h3
                  cases h3
                  have hd : Rp N (upd M1 a (.ins (He.ga N.K C) dx xs)) (.ins C (fs'.map (·.1)) ds) (.ref a) := ⟨a, dx, xs, rfl, upd_same, by rw [q2, r2], (dWs_ok h4 r1).mono (same_grow0 hm1)⟩
                  exact ⟨_, E1.trans (Ext.fz (List.mem_of_getElem? ha) hm1), R1.fz ha hm1 q1 hd, hd⟩
            | _ => cases e
      | lst ds => exact gen _ ho (by simpa only [toD, ho] using e)
      | dct ks ds => exact gen _ ho (by simpa only [toD, ho] using e)
      | dcT ks ds => exact gen _ ho (by simpa only [toD, ho] using e)
      | lsW ws => exact gen _ ho (by simpa only [toD, ho] using e)
      | dcW ks ws => exact gen _ ho (by simpa only [toD, ho] using e)
      | pool => exact gen _ ho (by simpa only [toD, ho] using e)
      | fz d2 => exact gen _ ho (by simpa only [toD, ho] using e)
      | gone => exact gen _ ho (by simpa only [toD, ho] using e)
end
end Dl
end

section
set_option maxHeartbeats 4000000
namespace Dl
open PySem PySem.Spec PyProof.Rows L2 Co
def dV (i : Nat) : DW := fun σ st k _ => match σ[i]? with
  | some (some w) => k w st
  | _ => False
def dC (d : D) : DD := fun _ st k _ => k d st
def dD (t : DW) : DD := fun σ st k ex => t σ st (fun w st1 => match toD w st1 with
  | some (d, st2) => k d st2
  | none => False) ex
def dI (t : DD) : DW := fun σ st k ex => t σ st (fun d st1 => k (.im d) st1) ex
abbrev F2 := D → D → (D → Prop) → Prop
def dOp (f : F2) (ta tb : DD) : DD := fun σ st k ex => ta σ st (fun x st1 => tb σ st1 (fun y st2 => f x y fun d => k d st2) ex) ex
def dUn (f : D → (D → Prop) → Prop) (ta : DD) : DD := fun σ st k ex => ta σ st (fun x st1 => f x fun d => k d st1) ex
def seeW (w : W) (st : Sto) : Option D := match w with
  | .im d => some d
  | .loc n => (match st[n]? with
    | some o => flat o
    | none => none)
  | .dead => none
abbrev C2 := D → D → (Bool → Prop) → Prop
def dCmp (f : C2) (ta tb : DW) : DT := fun σ st k ex => ta σ st (fun x st1 => tb σ st1 (fun y st2 => match seeW x st2, seeW y st2 with
  | some d, some e => f d e fun b => k b st2
  | _, _ => False) ex) ex
def dB (t : DT) : DD := fun σ st k ex => t σ st (fun b st1 => k (.bl b) st1) ex
def dIsN (t : DW) : DT := fun σ st k ex => t σ st (fun w st1 => match w with
  | .im .non => k true st1
  | .im _ => k false st1
  | .loc _ => k false st1
  | .dead => False) ex
def dNot (t : DT) : DT := fun σ st k ex => t σ st (fun b st1 => k (!b) st1) ex
def dAnd (t u : DT) : DT := fun σ st k ex => t σ st (fun b st1 => two b (u σ st1 k ex) (k false st1)) ex
def dOr (t u : DT) : DT := fun σ st k ex => t σ st (fun b st1 => two b (k true st1) (u σ st1 k ex)) ex
def truD (x : D) (k : Bool → Prop) : Prop := match x with
  | .non => k false
  | .bl b => k b
  | .int i => k (i != 0)
  | .str y => y.length ≤ sizeLine ∧ k ((y.length : Int) != 0)
  | .tup ds => k (!ds.isEmpty)
  | .lst ds => k (!ds.isEmpty)
  | .dct ks _ => k (!ks.isEmpty)
  | _ => False
def dTru (t : DW) : DT := fun σ st k ex => t σ st (fun w st1 => match seeW w st1 with
  | some d => truD d fun b => k b st1
  | none => False) ex
def aNil : DA := fun _ st k _ => k [] st
def aCons (t : DW) (r : DA) : DA := fun σ st k ex => t σ st (fun w st1 => r σ st1 (fun ws st2 => k (w :: ws) st2) ex) ex
def adNil : DAD := fun _ st k _ => k [] st
def adCons (t : DD) (r : DAD) : DAD := fun σ st k ex => t σ st (fun w st1 => r σ st1 (fun ws st2 => k (w :: ws) st2) ex) ex
def dTup (t : DAD) : DD := fun σ st k ex => t σ st (fun ds st1 => ds.length ≤ 1000000 ∧ k (.tup ds) st1) ex
def dLst (t : DAD) : DD := fun σ st k ex => t σ st (fun ds st1 => ds.length ≤ 1000000 ∧ k (.lst ds) st1) ex
def dLstM (t : DAD) : DW := fun σ st k ex => t σ st (fun ds st1 => ds.length ≤ 1000000 ∧ k (.loc st1.length) (st1 ++ [.lst ds])) ex
def fAdd : F2 := fun x y k => match x, y with
  | .int i, .int j => k (.int (i + j))
  | .str a, .str b => a.length + b.length ≤ sizeLine ∧ k (.str (a ++ b))
  | .tup a, .tup b => a.length + b.length ≤ 1000000 ∧ k (.tup (a ++ b))
  | .lst a, .lst b => a.length + b.length ≤ 1000000 ∧ k (.lst (a ++ b))
  | _, _ => False
def fSub : F2 := fun x y k => match x, y with
  | .int i, .int j => k (.int (i - j))
  | _, _ => False
def fMul : F2 := fun x y k => match x, y with
  | .int i, .int j => CMulL i j ∧ k (.int (i * j))
  | .str z, .int n => n * z.length ≤ 1000000 ∧ -(2 ^ 62) ≤ n ∧ n < 2 ^ 62 ∧ k (.str (S (repL z.cps.toList n)))
  | _, _ => False
def fMod : F2 := fun x y k => match x, y with
  | .int i, .int j => 0 < j ∧ k (.int (i % j))
  | _, _ => False
def fDiv : F2 := fun x y k => match x, y with
  | .int i, .int j => CDivL i j ∧ k (.int (i / j))
  | _, _ => False
def fPow : F2 := fun x y k => match x, y with
  | .int i, .int j => CPow i j ∧ k (.int (i ^ j.toNat))
  | _, _ => False
def fNeg : D → (D → Prop) → Prop := fun x k => match x with
  | .int i => k (.int (-i))
  | _ => False
def cLt : C2 := fun x y k => match x, y with
  | .int i, .int j => k (decide (i < j))
  | .str a, .str b => k (decide (a.cps.toList < b.cps.toList))
  | _, _ => False
def cLe : C2 := fun x y k => match x, y with
  | .int i, .int j => k (decide (i ≤ j))
  | .str a, .str b => k (!decide (b.cps.toList < a.cps.toList))
  | _, _ => False
def cGt : C2 := fun x y k => match x, y with
  | .int i, .int j => k (decide (j < i))
  | _, _ => False
section
variable {N : Kn} {Wx : WX} {M H : Hp} {ρ : List Addr} {σ : Sl} {st : Sto} {σV : L2.St} {ex : DX}
def Fv (M : Hp) (ρ : List Addr) (H : Hp) : Hp := fun b => match M b with
  | some u => some u
  | none => if b ∈ ρ then H b else none
theorem Fv.same (M : Hp) (ρ : List Addr) (H : Hp) : Same M (Fv M ρ H) := fun b u e => by
  unfold Fv
  rw [e]
theorem Fv.sub (s : Sub M H) : Sub (Fv M ρ H) H := fun b u e => by
  unfold Fv at e
  cases h : M b with
  | some u' =>
    rw [h] at e
    cases e
    exact s _ _ h
  | none =>
    rw [h] at e
    simp only at e
    split at e
    · exact .inl e
    · cases e
theorem Fv.at_ {n : Nat} {a : Addr} (ha : ρ[n]? = some a) (hm : M a = none) : Fv M ρ H a = H a := by
  unfold Fv
  rw [hm]
  simp only
  rw [if_pos (List.mem_of_getElem? ha)]
def RpC (N : Kn) (M F : Hp) : D → V → Prop
  | .lst ds, v => ∃ p xs, v = .ref p ∧ F p = some (.lst xs) ∧ Rps N M ds xs
  | .dct ks ds, v => ∃ p kvs, v = .ref p ∧ F p = some (.dK kvs) ∧ kvs.map (·.1) = ks ∧ Rps N M ds (kvs.map (·.2))
  | .dcT ks ds, v => ∃ p kvs, v = .ref p ∧ F p = some (.dT kvs) ∧ kvs.map (·.1) = ks ∧ Rps N M ds (kvs.map (·.2))
  | .ins C ns ds, v => ∃ p dx fs, v = .ref p ∧ F p = some (.ins (He.ga N.K C) dx fs) ∧ fs.map (·.1) = ns ∧ Rps N M ds (fs.map (·.2))
  | d, v => Rp N M d v
theorem RpC.of {d : D} {v : V} {F : Hp} (h : Rp N M d v) (s : Same M F) : RpC N M F d v := by
  cases d with
  | lst ds => obtain ⟨p, xs, h1, h2, h3⟩ := h; exact ⟨p, xs, h1, s _ _ h2, h3⟩
  | dct ks ds => obtain ⟨p, xs, h1, h2, h3⟩ := h; exact ⟨p, xs, h1, s _ _ h2, h3⟩
  | dcT ks ds => obtain ⟨p, xs, h1, h2, h3⟩ := h; exact ⟨p, xs, h1, s _ _ h2, h3⟩
  | ins C ns ds => obtain ⟨p, dx, fs, h1, h2, h3⟩ := h; exact ⟨p, dx, fs, h1, s _ _ h2, h3⟩
  | _ => exact h
theorem RpC.rp {d : D} {v : V} {F : Hp} (h : RpC N M F d v) (s : Same M F) : Rp N F d v := by
  cases d with
  | lst ds => obtain ⟨p, xs, h1, h2, h3⟩ := h; exact ⟨p, xs, h1, h2, h3.mono s⟩
  | dct ks ds => obtain ⟨p, xs, h1, h2, h3, h4⟩ := h; exact ⟨p, xs, h1, h2, h3, h4.mono s⟩
  | dcT ks ds => obtain ⟨p, xs, h1, h2, h3, h4⟩ := h; exact ⟨p, xs, h1, h2, h3, h4.mono s⟩
  | ins C ns ds => obtain ⟨p, dx, fs, h1, h2, h3, h4⟩ := h; exact ⟨p, dx, fs, h1, h2, h3, h4.mono s⟩
  | _ => exact Rp.mono s (show Rp N M _ v from h)
theorem see_ok {w : W} {d : D} {v : V} (r : Rep N M ρ st H) (e : seeW w st = some d) (h : Rw N M ρ w v) : RpC N M (Fv M ρ H) d v := by
  cases w with
  | im d' => cases e; exact RpC.of h (Fv.same M ρ H)
  | dead => cases e
  | loc n =>
    obtain ⟨a, ha, rfl⟩ := h
    cases ho : st[n]? with
    | none => simp only [seeW, ho] at e; cases e
    | some o =>
      simp only [seeW, ho] at e
      have q := r.ob n a o ha ho
      cases o with
      | lst ds => cases e; obtain ⟨hm, xs, h1, h2⟩ := q; exact ⟨a, xs, rfl, by rw [Fv.at_ ha hm]; exact h1, h2⟩
      | dct ks ds => cases e; obtain ⟨hm, xs, h1, h2⟩ := q; exact ⟨a, xs, rfl, by rw [Fv.at_ ha hm]; exact h1, h2⟩
      | dcT ks ds => cases e; obtain ⟨hm, xs, h1, h2⟩ := q; exact ⟨a, xs, rfl, by rw [Fv.at_ ha hm]; exact h1, h2⟩
      | ins C fs =>
        cases hz : dWs (fs.map (·.2)) with
        | none => simp only [flat, hz] at e; cases e
        | some ds =>
          simp only [flat, hz] at e
          cases e
          obtain ⟨hm, dx, xs, h1, h2, h3⟩ := q
          exact ⟨a, dx, xs, rfl, by rw [Fv.at_ ha hm]; exact h1, h2, dWs_ok hz h3⟩
      | lsW ws => cases e
      | dcW ks ws => cases e
      | pool => cases e
      | fz d2 => cases e; exact RpC.of q.1 (Fv.same M ρ H)
      | gone => cases e
end
abbrev XN (X : Cx) (b : Bool) : Kn := ⟨X.K, b⟩
section
variable {X : Cx} {b : Bool} {Wx : WX} {e e1 e2 : Expr} {pos : Pos}
theorem e_var (i : Nat) {x : Str} {N : Kn} (hN : X.N[i]? = some x := by rfl) (hv : Vis X.env.scope x := by first | exact Or.inl rfl | exact Or.inr (Or.inl rfl) | exact Or.inr (Or.inr rfl)) (hd : (x == ("__debug__" : Str)) = false := by decide)
    (hcd : (x == ("__classdict__" : Str)) = false := by decide) : PE X (.Name x pos) (lW N Wx (dV i)) := PE.imp (pe_var hN hv hd hcd) fun σV H Q h => by
  obtain ⟨M, ρ, σ, st, k, ex, c, ht, q⟩ := Kx.open_ h
  unfold dV at ht
  split at ht
  · rename_i w hw
    obtain ⟨v, h1, h2⟩ := c.rs.2 i w hw
    exact ⟨v, h1, q _ _ ht v M ρ H Ext.refl c h2⟩
  · exact ht.elim
theorem e_con {N : Kn} {d : D} {v : V} (h : PE X e (tC v)) (hv : ∀ M, Rp N M d v) : PE X e (lD N Wx (dC d)) := PE.imp h fun σV H Q h => by
  obtain ⟨M, ρ, σ, st, k, ex, c, ht, q⟩ := Kx.open_ h
  exact q _ _ ht v M ρ H Ext.refl c (hv M)
theorem e_D {N : Kn} {t : DW} (h : PE X e (lW N Wx t)) : PE X e (lD N Wx (dD t)) := PE.imp h fun σV H Q h => by
  obtain ⟨M, ρ, σ, st, k, ex, c, ht, q⟩ := Kx.open_ h
  refine Lf.of c ht fun w st' hk v M' ρ' H' E c' r => ?_
  cases hz : toD w st' with
  | none => rw [hz] at hk; exact hk.elim
  | some p =>
    obtain ⟨d, st2⟩ := p
    rw [hz] at hk
    obtain ⟨M2, E2, R2, r2⟩ := toD_ok c'.rep hz r
    exact q _ _ hk v M2 ρ' H' (E.trans E2) (c'.step E2 R2) r2
theorem e_I {N : Kn} {t : DD} (h : PE X e (lD N Wx t)) : PE X e (lW N Wx (dI t)) := PE.imp h fun σV H Q h => by
  obtain ⟨M, ρ, σ, st, k, ex, c, ht, q⟩ := Kx.open_ h
  exact Lf.of c ht fun d st' hk v M' ρ' H' E c' r => q _ _ hk v M' ρ' H' E c' r
def OpOk (N : Kn) (r : R2) (f : F2) : Prop := ∀ {Wx : WX} {M H : Hp} {ρ : List Addr} {σ : Sl} {st : Sto} {σV : L2.St} {ex : DX} {x y : D} {u v : V} {kd : D → Prop} {Q : VK}, Kx N Wx M ρ σ st H σV ex → Rp N M x u → Rp N M y v → f x y kd →
  (∀ d, kd d → ∀ w M' H', Ext M ρ H M' ρ H' → Kx N Wx M' ρ σ st H' σV ex → Rp N M' d w → Q w H') → r u v H Q
theorem op_lift {N : Kn} {r : R2} {f : F2} {ta tb : DD} (ok : OpOk N r f) {σV : L2.St} {H : Hp} {Q : VK} (h : lD N Wx (dOp f ta tb) σV H Q) : tOp r (lD N Wx ta) (lD N Wx tb) σV H Q := by
  obtain ⟨M, ρ, σ, st, k, ex, c, ht, q⟩ := Kx.open_ h
  exact Lf.bin c ht fun x y st' hk u v M' ρ' H' E c' r1 r2 => ok c' r1 r2 hk fun d hd w M2 H2 E2 c2 r => q _ _ hd w M2 ρ' H2 (E.trans E2) c2 r
theorem e_op {N : Kn} {op : Operator} {r : R2} {f : F2} {ta tb : DD} (ho : OpR X (binaryOp op) r) (ok : OpOk N r f) (ha : PE X e1 (lD N Wx ta)) (hb : PE X e2 (lD N Wx tb)) : PE X (.BinOp e1 op e2 pos) (lD N Wx (dOp f ta tb)) := PE.imp (pe_op ho ha hb) fun _ _ _ => op_lift ok
theorem e_un {N : Kn} {op : UnaryOp} {r : V → Hp → VK → Prop} {f : D → (D → Prop) → Prop} {ta : DD} (ho : UnR X (unaryOp op) r) (ok : ∀ {M H : Hp} {x : D} {u : V} {kd : D → Prop} {Q : VK}, Rp N M x u → f x kd → (∀ d w, kd d → Rp N M d w → Q w H) → r u H Q) (ha : PE X e1 (lD N Wx ta)) : PE X (.UnaryOp op e1 pos) (lD N Wx (dUn f ta)) := by
  refine PE.imp (pe_un ho ha) fun σV H Q h => ?_
  obtain ⟨M, ρ, σ, st, k, ex, c, ht, q⟩ := Kx.open_ h
  exact Lf.of c ht fun x st' hk v M' ρ' H' E c' r => ok r hk fun d w hd hw => q _ _ hd w M' ρ' H' E c' hw
theorem OpR.or {f : Value → Value → Sem Value} {r r' : R2} (h : OpR X f r) (h' : OpR X f r') : OpR X f (fun x y H Q => r x y H Q ∨ r' x y H Q) := fun pins s σ H x y v u Q I rx ry q => q.elim (h pins s σ H x y v u Q I rx ry) (h' pins s σ H x y v u Q I rx ry)
theorem lenL6 {n : Nat} (h : n ≤ 1000000) : n ≤ sizeLine := by rw [sizeLine_eq]; omega
theorem o_add' : OpR X (binaryOp .Add) (fun x y H Q => fAddA x y H Q ∨ rCatW X.K x y H Q ∨ rCat x y H Q) := OpR.or o_addA (OpR.or op_catW op_cat)
theorem ok_add : OpOk (XN X b) (fun x y H Q => fAddA x y H Q ∨ rCatW X.K x y H Q ∨ rCat x y H Q) fAdd := by
  intro Wx M H ρ σ st σV ex x y u v kd Q c hx hy h k
  cases x <;> cases y <;> try exact h.elim
  case int.int i j => cases hx; cases hy; exact .inl (k _ h _ M H Ext.refl c rfl)
  case str.str i j => cases hx; cases hy; exact .inl ⟨h.1, k _ h.2 _ M H Ext.refl c rfl⟩
  case tup.tup xs ys =>
    obtain ⟨p, us, rfl, h1, h2⟩ := hx
    obtain ⟨q, vs, rfl, h3, h4⟩ := hy
    obtain ⟨hl, hk⟩ := h
    have e1 := h2.length
    have e2 := h4.length
    refine .inr (.inl ⟨p, q, us, vs, rfl, rfl, c.rep.sub.tup h1, c.rep.sub.tup h3, lenL6 (by omega), fun z => ?_, fun z1 z2 => ?_, fun _ _ l hl' => ?_⟩)
    · subst z
      have : xs = [] := List.eq_nil_of_length_eq_zero (by rw [← e1]; rfl)
      subst this
      exact k _ hk _ M H Ext.refl c ⟨q, vs, rfl, h3, h4⟩
    · subst z2
      have : ys = [] := List.eq_nil_of_length_eq_zero (by rw [← e2]; rfl)
      subst this
      rw [List.append_nil] at hk
      exact k _ hk _ M H Ext.refl c ⟨p, us, rfl, h1, h2⟩
    · obtain ⟨E, c'⟩ := c.new (o := .tup (us ++ vs)) hl'
      exact k _ hk _ _ _ E c' ⟨l, us ++ vs, rfl, .inl upd_same, (h2.append h4).ext E⟩
  case lst.lst xs ys =>
    obtain ⟨p, us, rfl, h1, h2⟩ := hx
    obtain ⟨q, vs, rfl, h3, h4⟩ := hy
    obtain ⟨hl, hk⟩ := h
    have e1 := h2.length
    have e2 := h4.length
    refine .inr (.inr ⟨p, q, us, vs, rfl, rfl, c.rep.sub.lst1 h1, c.rep.sub.lst1 h3, lenL6 (by omega), fun l hl' => ?_⟩)
    obtain ⟨E, c'⟩ := c.new (o := .lst (us ++ vs)) hl'
    exact k _ hk _ _ _ E c' ⟨l, us ++ vs, rfl, upd_same, (h2.append h4).ext E⟩
theorem ok_sub {N : Kn} : OpOk N Co.fSub fSub := by
  intro Wx M H ρ σ st σV ex x y u v kd Q c hx hy h k
  cases x <;> cases y <;> try exact h.elim
  cases hx; cases hy; exact k _ h _ M H Ext.refl c rfl
theorem o_mul' : OpR X (binaryOp .Mult) (fun x y H Q => Co.fMul x y H Q ∨ rRepS x y H Q) := OpR.or o_mul op_repS
theorem ok_mul {N : Kn} : OpOk N (fun x y H Q => Co.fMul x y H Q ∨ rRepS x y H Q) fMul := by
  intro Wx M H ρ σ st σV ex x y u v kd Q c hx hy h k
  cases x <;> cases y <;> try exact h.elim
  case int.int i j => cases hx; cases hy; exact .inl ⟨h.1, k _ h.2 _ M H Ext.refl c rfl⟩
  case str.int z n => cases hx; cases hy; exact .inr ⟨h.1, h.2.1, h.2.2.1, k _ h.2.2.2 _ M H Ext.refl c rfl⟩
theorem ok_mod {N : Kn} : OpOk N Co.fMod fMod := by
  intro Wx M H ρ σ st σV ex x y u v kd Q c hx hy h k
  cases x <;> cases y <;> try exact h.elim
  cases hx; cases hy; exact ⟨h.1, k _ h.2 _ M H Ext.refl c rfl⟩
theorem ok_div {N : Kn} : OpOk N Co.fDiv fDiv := by
  intro Wx M H ρ σ st σV ex x y u v kd Q c hx hy h k
  cases x <;> cases y <;> try exact h.elim
  cases hx; cases hy; exact ⟨h.1, k _ h.2 _ M H Ext.refl c rfl⟩
theorem ok_neg {N : Kn} {M H : Hp} {x : D} {u : V} {kd : D → Prop} {Q : VK} (hx : Rp N M x u) (h : fNeg x kd) (k : ∀ d w, kd d → Rp N M d w → Q w H) : Co.fNeg u H Q := by
  cases x <;> try exact h.elim
  cases hx
  exact k _ _ h rfl
def CmpOk (N : Kn) (r : R2) (f : C2) : Prop := ∀ {F H : Hp} {x y : D} {u v : V} {kb : Bool → Prop} {Q : VK}, Sub F H → Rp N F x u → Rp N F y v → f x y kb → (∀ c, kb c → Q (.bl c) H) → r u v H Q
theorem cmp_lift {N : Kn} {r : R2} {f : C2} {ta tb : DW} (ok : CmpOk N r f) {σV : L2.St} {H : Hp} {Q : VK} {M : Hp} {ρ : List Addr} {σ : Sl} {st : Sto} {k : Bool → Sto → Prop} {ex : DX} (c : Kx N Wx M ρ σ st H σV ex) (ht : dCmp f ta tb σ st k ex)
    (q : ∀ c st', k c st' → ∀ M' ρ' H', Ext M ρ H M' ρ' H' → Kx N Wx M' ρ' σ st' H' σV ex → Q (.bl c) H') : tOp r (lW N Wx ta) (lW N Wx tb) σV H Q := by
  refine Lf.bin c ht fun x y st' hk u v M' ρ' H' E c' r1 r2 => ?_
  cases h1 : seeW x st' with
  | none => simp only [h1] at hk
  | some d =>
    cases h2 : seeW y st' with
    | none => simp only [h1, h2] at hk
    | some e =>
      simp only [h1, h2] at hk
      exact ok (Fv.sub c'.rep.sub) ((see_ok c'.rep h1 r1).rp (Fv.same _ _ _)) ((see_ok c'.rep h2 r2).rp (Fv.same _ _ _)) hk fun b hb => q _ _ hb M' ρ' H' E c'
theorem t_cmpD {N : Kn} {op : CmpOp} {r : R2} {f : C2} {ta tb : DW} (ho : OpR X (compareOp op) r) (ok : CmpOk N r f) (ha : PE X e1 (lW N Wx ta)) (hb : PE X e2 (lW N Wx tb)) (hm : behindInMarks op e2 = false) : PT X (.Compare e1 [op] [e2] pos) (lT N Wx (dCmp f ta tb)) := PT.imp (t_cmp ho ha hb hm) fun σV H Q h => by
  obtain ⟨M, ρ, σ, st, k, ex, c, ht, q⟩ := Kx.open_ h
  exact cmp_lift ok c ht fun b st' hb M' ρ' H' E c' => q _ _ hb b M' ρ' H' E c' rfl
theorem e_cmpD {N : Kn} {op : CmpOp} {r : R2} {f : C2} {ta tb : DW} (ho : OpR X (compareOp op) r) (ok : CmpOk N r f) (ha : PE X e1 (lW N Wx ta)) (hb : PE X e2 (lW N Wx tb)) (hm : behindInMarks op e2 = false) : PE X (.Compare e1 [op] [e2] pos) (lD N Wx (dB (dCmp f ta tb))) := PE.imp (pe_cmpR ho ha hb hm) fun σV H Q h => by
  obtain ⟨M, ρ, σ, st, k, ex, c, ht, q⟩ := Kx.open_ h
  exact cmp_lift ok c ht fun b st' hb M' ρ' H' E c' => q _ _ hb _ M' ρ' H' E c' rfl
def rLtS : R2 := fun x y H Q => ∃ i j, x = .str i ∧ y = .str j ∧ Q (.bl (decide (i.cps.toList < j.cps.toList))) H
theorem o_lt' : OpR X (compareOp .Lt) (fun x y H Q => fLt x y H Q ∨ rLtS x y H Q) := OpR.or o_lt op_lt_str
theorem ok_lt {N : Kn} : CmpOk N (fun x y H Q => fLt x y H Q ∨ rLtS x y H Q) cLt := by
  intro F H x y u v kb Q s hx hy h k
  cases x <;> cases y <;> try exact h.elim
  · cases hx; cases hy; exact .inl (k _ h)
  · cases hx; cases hy; exact .inr ⟨_, _, rfl, rfl, k _ h⟩
def rLeS : R2 := fun x y H Q => ∃ i j, x = .str i ∧ y = .str j ∧ Q (.bl (!decide (j.cps.toList < i.cps.toList))) H
theorem o_le' : OpR X (compareOp .LtE) (fun x y H Q => fLe x y H Q ∨ rLeS x y H Q) := OpR.or o_le op_le_str
theorem ok_le {N : Kn} : CmpOk N (fun x y H Q => fLe x y H Q ∨ rLeS x y H Q) cLe := by
  intro F H x y u v kb Q s hx hy h k
  cases x <;> cases y <;> try exact h.elim
  · cases hx; cases hy; exact .inl (k _ h)
  · cases hx; cases hy; exact .inr ⟨_, _, rfl, rfl, k _ h⟩
theorem ok_gt {N : Kn} : CmpOk N fGt cGt := by
  intro F H x y u v kb Q s hx hy h k
  cases x <;> cases y <;> try exact h.elim
  cases hx; cases hy; exact k _ h
end
end Dl
end

section
set_option maxHeartbeats 4000000
namespace PySem
open Sem (wp)
section
variable {prog : Program} {w : World} {K : Type} [DecidableEq K] {knd : HeapKind prog w K} {A : Around} {E : Value → Shared → Prop} {s : Shared}
theorem wpAny_truthy_dictH {d : Addr} {kvs : List (K × Addr × Value)} {Q : Bool → Shared → Prop} (hd : (d == sysModules) = false) (hm : s.heap.DictOfH knd d kvs) (hfit : (kvs.length : Int) < 2 ^ 63)
    (h : Q (!kvs.isEmpty) { s with toks := s.toks + 1 + 1 }) : wpAny (model prog w) A (truthy (.ref d)) Q E s := by
  have hne : ((kvs.length : Int) != 0) = !kvs.isEmpty := by cases kvs <;> simp <;> omega
  have key : wpAny (model prog w) A (runValue (.builtin "len" ⟨[.ref d], []⟩)) (fun r s' => r = .int kvs.length (s.toks + 1) ∧ Q (!kvs.isEmpty) s') E s := by
    refine wpAny_runValue (codeAny_builtin entry_len ?_)
    rw [Around.under_plainId plain_len _]
    exact wpAny_mono (wpAny_len_body_dictH (Q := fun r s' => r = .int kvs.length (s.toks + 1) ∧ Q (!kvs.isEmpty) s') hd hm hfit ⟨rfl, h⟩)
      (fun fin s' h' => by obtain ⟨r, rfl, hq⟩ := h'; exact hq) fun _ _ e => e
  unfold truthy
  first
    | refine wpAny_bind (wpAny_callSpecial?_none (name := Str.ofString "__bool__") hm.typeIs noBool_dict ?_)
    | refine wpAny_bind (wpAny_pure (wpAny_bind (wpAny_callSpecial?_none (name := Str.ofString "__bool__") hm.typeIs noBool_dict ?_)))
  first
    | refine wpAny_bind (wpAny_specialOf (name := Str.ofString "__len__") hm.typeIs F.slot_dict_len.lookup ?_)
    | refine wpAny_bind (wpAny_pure (wpAny_bind (wpAny_specialOf (name := Str.ofString "__len__") hm.typeIs F.slot_dict_len.lookup ?_)))
  first
    | exact wpAny_bind (wpAny_mono key (fun r s' h' => by obtain ⟨rfl, hq⟩ := h'; exact wpAny_pure (hne ▸ hq)) fun _ _ e => e)
    | exact wpAny_bind (wpAny_pure (wpAny_bind (wpAny_mono key (fun r s' h' => by obtain ⟨rfl, hq⟩ := h'; exact wpAny_pure (hne ▸ hq)) fun _ _ e => e)))
end
end PySem
namespace Dl
open PySem PySem.Spec PyProof.Rows L2 Co
section
variable {X : Cx} {b : Bool} {Wx : WX} {e e1 e2 e3 : Expr} {pos : Pos}
def TruW (K : PySem.W.Frag) (x : V) (H : Hp) (k : Bool) : Prop := TruV K x H k ∨ (∃ p kvs, x = .ref p ∧ Rd H p (.dK kvs) ∧ k = !kvs.isEmpty) ∨ ∃ p kvs, x = .ref p ∧ Rd H p (.dT kvs) ∧ k = !kvs.isEmpty
theorem KT_empty {H : Hp} {kvs : List (List Key × V)} {xs : List (List Key × Addr × Value)} (r : KT H kvs xs) : (!xs.isEmpty) = !kvs.isEmpty := by
  cases r <;> rfl
theorem truW_ok : TruR X (fun x H Q => ∃ k, TruW X.K x H k ∧ Q k H) := by
  intro pins s σ H x v Q I rx h
  obtain ⟨k, e | ⟨p, kvs, rfl, hx, rfl⟩ | ⟨p, kvs, rfl, hx, rfl⟩, q⟩ := h
  · exact tru_ok pins s σ H x v Q I rx ⟨k, e, q⟩
  · cases rx
    obtain ⟨hz, hS, vs, r, m⟩ := (show ObjOk X.prog X.w H s.heap p (.dK kvs) from hx.ok I.hok)
    have hlen : kvs.length = vs.length := Paired.length r
    have hs : sizeLine = 16777216 := sizeLine_eq
    exact wpAny_truthy_dict hS m (by omega) ⟨H, I.tok _, by rw [isEmpty_kv r]; exact q⟩
  · cases rx
    obtain ⟨z, hd, ys, rel, dd⟩ := dt_rd I.hok hx
    have hl : kvs.length = ys.length := Paired.length rel
    have hs : sizeLine = 16777216 := sizeLine_eq
    exact wpAny_truthy_dictH hd dd (by omega) ⟨H, I.tok _, by rw [KT_empty rel]; exact q⟩
theorem pt_truW {ta : TE} (ha : PE X e ta) (he : ∀ whole, isTrue e X.env whole = (do let v ← whole; standAt e.pos; holding [v] (truthy v))) :
    PT X e (fun σ H Q => ta σ H fun x H' => ∃ k, TruW X.K x H' k ∧ Q k H') := by
  refine ⟨fun pins s σ H Q I h => ?_⟩
  exact isTrue_plain (thn (ha.run pins s σ H _ I h) fun v s1 ⟨x, H1, I1, r1, q1⟩ => truW_ok pins s1 σ H1 x v Q I1 r1 q1) (he _)
theorem tru_of {N : Kn} {F H : Hp} {d : D} {v : V} {k : Bool → Prop} (s : Sub F H) (r : Rp N F d v) (h : truD d k) : ∃ c, TruW N.K v H c ∧ k c := by
  cases d with
  | non => cases r; exact ⟨_, .inl rfl, h⟩
  | bl c => cases r; exact ⟨_, .inl rfl, h⟩
  | int i => cases r; exact ⟨_, .inl rfl, h⟩
  | str y => cases r; exact ⟨_, .inl ⟨h.1, rfl⟩, h.2⟩
  | tup ds =>
    obtain ⟨p, xs, rfl, h1, h2⟩ := r
    have hl := h2.length
    refine ⟨_, .inl (.inr (.inl ⟨xs, s.tup h1, rfl⟩)), ?_⟩
    have : xs.isEmpty = ds.isEmpty := by cases xs <;> cases ds <;> first | rfl | (simp at hl)
    rw [this]; exact h
  | lst ds =>
    obtain ⟨p, xs, rfl, h1, h2⟩ := r
    have hl := h2.length
    refine ⟨_, .inl (.inl ⟨xs, SqL.of (s.lst1 h1), rfl⟩), ?_⟩
    have : xs.isEmpty = ds.isEmpty := by cases xs <;> cases ds <;> first | rfl | (simp at hl)
    rw [this]; exact h
  | dct ks ds =>
    obtain ⟨p, kvs, rfl, h1, h2, h3⟩ := r
    refine ⟨_, .inr (.inl ⟨p, kvs, rfl, s.dK h1, rfl⟩), ?_⟩
    have : kvs.isEmpty = ks.isEmpty := by rw [← h2]; cases kvs <;> rfl
    rw [this]; exact h
  | dcT ks ds => exact h.elim
  | ty n => exact h.elim
  | glo x => exact h.elim
  | scr x => exact h.elim
  | exc _ _ _ _ _ => exact h.elim
  | ins C ns ds => exact h.elim
theorem tru_lift {N : Kn} {t : DW} {σV : L2.St} {H M : Hp} {ρ : List Addr} {σ : Sl} {st : Sto} {ex : DX} {k : Bool → Sto → Prop} {Q : Bool → Hp → Prop} (c : Kx N Wx M ρ σ st H σV ex) (ht : dTru t σ st k ex)
    (q : ∀ b st', k b st' → ∀ M' ρ' H', Ext M ρ H M' ρ' H' → Kx N Wx M' ρ' σ st' H' σV ex → Q b H') : lW N Wx t σV H (fun x H1 => ∃ k, TruW N.K x H1 k ∧ Q k H1) := by
  refine Lf.of c ht fun w st' hk v M' ρ' H' E c' r => ?_
  cases hz : seeW w st' with
  | none => simp only [hz] at hk
  | some d =>
    simp only [hz] at hk
    obtain ⟨b, h1, h2⟩ := tru_of (Fv.sub c'.rep.sub) ((see_ok c'.rep hz r).rp (Fv.same _ _ _)) hk
    exact ⟨b, h1, q _ _ h2 M' ρ' H' E c'⟩
theorem t_tru {t : DW} (ha : PE X e (lW (XN X b) Wx t)) (he : ∀ whole, isTrue e X.env whole = (do let v ← whole; standAt e.pos; holding [v] (truthy v)) := by intro _; rfl) : PT X e (lT (XN X b) Wx (dTru t)) := PT.imp (pt_truW ha he) fun σV H Q h => by
  obtain ⟨M, ρ, σ, st, k, ex, c, ht, q⟩ := Kx.open_ h
  exact tru_lift (N := XN X b) c ht fun b st' hb M' ρ' H' E c' => q _ _ hb b M' ρ' H' E c' rfl
theorem pe_notW {ta : TE} (ha : PE X e1 ta) : PE X (.UnaryOp .Not e1 pos) (fun σ H Q => ta σ H fun x H1 => ∃ k, TruW X.K x H1 k ∧ Q (.bl (!k)) H1) := by
  refine ⟨fun pins s σ H Q I h => ?_⟩
  refine UnaryOp_ (thn (ha.run pins s σ H _ I h) fun v s1 ⟨x, H1, I1, r1, q1⟩ => ?_)
  obtain ⟨k, e, q1⟩ := q1
  exact not_of (thn (truW_ok pins s1 σ H1 x v (fun c H2 => Q (.bl (!c)) H2) I1 r1 ⟨k, e, q1⟩) fun c s2 ⟨H2, I2, q2⟩ => ⟨.bl (!c), H2, I2, rfl, q2⟩)
theorem e_notW {t : DW} (ha : PE X e1 (lW (XN X b) Wx t)) : PE X (.UnaryOp .Not e1 pos) (lD (XN X b) Wx (dB (dNot (dTru t)))) := PE.imp (pe_notW ha) fun σV H Q h => by
  obtain ⟨M, ρ, σ, st, k, ex, c, ht, q⟩ := Kx.open_ h
  exact tru_lift (N := XN X b) c ht fun b st' hb M' ρ' H' E c' => q _ _ hb _ M' ρ' H' E c' rfl
variable {N : Kn}
theorem t_not {t : DT} (h : PT X e1 (lT N Wx t)) : PT X (.UnaryOp .Not e1 pos) (lT N Wx (dNot t)) := PT.imp (pt_not h) fun σV H Q h => by
  obtain ⟨M, ρ, σ, st, k, ex, c, ht, q⟩ := Kx.open_ h
  exact Lf.of c ht fun d st' hk v M' ρ' H' E c' r => q _ _ hk _ M' ρ' H' E c' (by rw [show v = d from r])
theorem w_and {t u : DT} {rest : List Expr} (ha : PT X e1 (lT N Wx t)) (hb : PW X (.BoolOp .And (e2 :: rest) pos) (lT N Wx u)) : PW X (.BoolOp .And (e1 :: e2 :: rest) pos) (lT N Wx (dAnd t u)) := PW.imp (Co.w_and ha hb) fun σV H Q h => by
  obtain ⟨M, ρ, σ, st, k, ex, c, ht, q⟩ := Kx.open_ h
  refine Lf.of c ht fun d st' hk v M' ρ' H' E c' r => ?_
  rw [show v = d from r]
  refine ⟨fun z => Lf.of c' (hk.1 z) fun d2 st2 hk2 v2 M2 ρ2 H2 E2 c2 r2 => q _ _ hk2 _ M2 ρ2 H2 (E.trans E2) c2 r2, fun z => q _ _ (hk.2 z) _ M' ρ' H' E c' rfl⟩
theorem w_or {t u : DT} {rest : List Expr} (ha : PT X e1 (lT N Wx t)) (hb : PW X (.BoolOp .Or (e2 :: rest) pos) (lT N Wx u)) : PW X (.BoolOp .Or (e1 :: e2 :: rest) pos) (lT N Wx (dOr t u)) := PW.imp (Co.w_or ha hb) fun σV H Q h => by
  obtain ⟨M, ρ, σ, st, k, ex, c, ht, q⟩ := Kx.open_ h
  refine Lf.of c ht fun d st' hk v M' ρ' H' E c' r => ?_
  rw [show v = d from r]
  refine ⟨fun z => q _ _ (hk.1 z) _ M' ρ' H' E c' rfl, fun z => Lf.of c' (hk.2 z) fun d2 st2 hk2 v2 M2 ρ2 H2 E2 c2 r2 => q _ _ hk2 _ M2 ρ2 H2 (E.trans E2) c2 r2⟩
theorem w_and1 {t : DT} (ha : PT X e1 (lT N Wx t)) : PW X (.BoolOp .And [e1] pos) (lT N Wx t) := pw_and1 ha
theorem w_or1 {t : DT} (ha : PT X e1 (lT N Wx t)) : PW X (.BoolOp .Or [e1] pos) (lT N Wx t) := pw_or1 ha
def dAndV (t u : DW) : DW := fun σ st k ex => t σ st (fun w st1 => match seeW w st1 with
  | some d => truD d fun b => two b (u σ st1 k ex) (k w st1)
  | none => False) ex
theorem pe_andW {ta tb : TE} {rest : List Expr} (ha : PE X e1 ta) (hb : PE X (.BoolOp .And (e2 :: rest) pos) tb) : PE X (.BoolOp .And (e1 :: e2 :: rest) pos) (fun σ H Q => ta σ H fun x H1 => ∃ k, TruW X.K x H1 k ∧ if k = true then tb σ H1 Q else Q x H1) := by
  refine ⟨fun pins s σ H Q I h => ?_⟩
  refine BoolOp_and (thn (ha.run pins s σ H _ I h) fun v s1 ⟨x, H1, I1, r1, q1⟩ => ?_)
  obtain ⟨k, e, q1⟩ := q1
  refine thn (truW_ok pins s1 σ H1 x v (fun c H2 => c = k ∧ H2 = H1) I1 r1 ⟨k, e, rfl, rfl⟩) fun c s2 hc => ?_
  obtain ⟨H2, I2, e1, e2⟩ := hc
  subst e1 e2
  cases c with
  | true => exact hb.run pins s2 σ H2 Q I2 q1
  | false => exact ⟨x, H2, I2, r1, q1⟩
theorem e_andV {t u : DW} {rest : List Expr} (ha : PE X e1 (lW (XN X b) Wx t)) (hb : PE X (.BoolOp .And (e2 :: rest) pos) (lW (XN X b) Wx u)) : PE X (.BoolOp .And (e1 :: e2 :: rest) pos) (lW (XN X b) Wx (dAndV t u)) := PE.imp (pe_andW ha hb) fun σV H Q h => by
  obtain ⟨M, ρ, σ, st, k, ex, c, ht, q⟩ := Kx.open_ h
  refine Lf.of c ht fun w st' hk v M' ρ' H' E c' r => ?_
  cases hz : seeW w st' with
  | none => simp only [hz] at hk
  | some d =>
    simp only [hz] at hk
    obtain ⟨b, h1, h2⟩ := tru_of (Fv.sub c'.rep.sub) ((see_ok c'.rep hz r).rp (Fv.same _ _ _)) hk
    refine ⟨b, h1, ?_⟩
    rw [two_eq]
    exact ⟨fun z => Lf.of c' (h2.1 z) fun d2 st2 hk2 v2 M2 ρ2 H2 E2 c2 r2 => q _ _ hk2 _ M2 ρ2 H2 (E.trans E2) c2 r2, fun z => q _ _ (h2.2 z) _ M' ρ' H' E c' r⟩
theorem e_and1 {t : TE} (h : PE X e t) : PE X (.BoolOp .And [e] pos) t := pe_one h
theorem isN_lift {t : DW} {σV : L2.St} {H M : Hp} {ρ : List Addr} {σ : Sl} {st : Sto} {ex : DX} {k : Bool → Sto → Prop} {Q : Bool → Hp → Prop} (c : Kx N Wx M ρ σ st H σV ex) (ht : dIsN t σ st k ex)
    (q : ∀ b st', k b st' → ∀ M' ρ' H', Ext M ρ H M' ρ' H' → Kx N Wx M' ρ' σ st' H' σV ex → Q b H') : lW N Wx t σV H (fun x H1 => Q (decide (x = V.non)) H1) := by
  refine Lf.of c ht fun w st' hk v M' ρ' H' E c' r => ?_
  have go : ∀ bb, k bb st' → decide (v = V.non) = bb → Q (decide (v = V.non)) H' := fun bb h1 h2 => by rw [h2]; exact q _ _ h1 M' ρ' H' E c'
  cases w with
  | dead => exact False.elim hk
  | loc n => obtain ⟨a, _, rfl⟩ := r; exact go false hk (by simp)
  | im d =>
    cases d with
    | non => cases r; exact go true hk (by simp)
    | bl _ => cases r; exact go false hk (by simp)
    | int _ => cases r; exact go false hk (by simp)
    | str _ => cases r; exact go false hk (by simp)
    | ty _ => cases r; exact go false hk (by simp)
    | glo _ => cases r; exact go false hk (by simp)
    | scr _ => obtain ⟨p, rfl, _⟩ := r; exact go false hk (by simp)
    | exc _ _ _ _ _ => obtain ⟨rfl, _⟩ := r; exact go false hk (by simp)
    | tup _ => obtain ⟨p, _, rfl, _⟩ := r; exact go false hk (by simp)
    | lst _ => obtain ⟨p, _, rfl, _⟩ := r; exact go false hk (by simp)
    | dct _ _ => obtain ⟨p, _, rfl, _⟩ := r; exact go false hk (by simp)
    | dcT _ _ => obtain ⟨p, _, rfl, _⟩ := r; exact go false hk (by simp)
    | ins _ _ _ => obtain ⟨p, _, _, rfl, _⟩ := r; exact go false hk (by simp)
theorem e_isND {j : Nat} {pos' : Pos} {t : DW} (ha : PE X e1 (lW N Wx t)) : PE X (.Compare e1 [.Is] [.Constant .none j pos'] pos) (lD N Wx (dB (dIsN t))) := PE.imp (pe_cmp (pc_isN ha)) fun σV H Q h => by
  obtain ⟨M, ρ, σ, st, k, ex, c, ht, q⟩ := Kx.open_ h
  exact isN_lift (Q := fun b H1 => Q (.bl b) H1) c ht fun b st' hb M' ρ' H' E c' => q _ _ hb _ M' ρ' H' E c' rfl
theorem t_isND {j : Nat} {pos' : Pos} {t : DW} (ha : PE X e1 (lW N Wx t)) : PT X (.Compare e1 [.Is] [.Constant .none j pos'] pos) (lT N Wx (dIsN t)) := PT.imp (pt_cmp (pc_isN ha)) fun σV H Q h => by
  obtain ⟨M, ρ, σ, st, k, ex, c, ht, q⟩ := Kx.open_ h
  exact isN_lift (Q := fun b H1 => ∃ c, V.bl b = .bl c ∧ Q c H1) c ht fun b st' hb M' ρ' H' E c' => ⟨b, rfl, q _ _ hb _ M' ρ' H' E c' rfl⟩
theorem t_notND {j : Nat} {pos' : Pos} {t : DW} (ha : PE X e1 (lW N Wx t)) : PT X (.Compare e1 [.IsNot] [.Constant .none j pos'] pos) (lT N Wx (dNot (dIsN t))) := PT.imp (pt_cmp (pc_notN ha)) fun σV H Q h => by
  obtain ⟨M, ρ, σ, st, k, ex, c, ht, q⟩ := Kx.open_ h
  exact isN_lift (k := fun b st1 => k (!b) st1) (Q := fun b H1 => ∃ c, V.bl (!b) = .bl c ∧ Q c H1) c ht fun b st' hb M' ρ' H' E c' => ⟨!b, rfl, q _ _ hb _ M' ρ' H' E c' rfl⟩
theorem a_nil : PA X [] (lA N Wx aNil) := ⟨fun pos pins s σ H Q I h => pa_nil.run pos pins s σ H Q I (by
  obtain ⟨M, ρ, σ, st, k, ex, c, ht, q⟩ := Kx.open_ h
  exact q _ _ ht _ M ρ H Ext.refl c rfl)⟩
theorem PA.imp {es : List Expr} {t t' : TA} (h : PA X es t) (i : ∀ σ H Q, t' σ H Q → t σ H Q) : PA X es t' := ⟨fun pos pins s σ H Q I q => h.run pos pins s σ H Q I (i σ H Q q)⟩
theorem a_cons {es : List Expr} {t : DW} {r : DA} (ha : PE X e (lW N Wx t)) (hr : PA X es (lA N Wx r)) (hs : starEach (e :: es) X.env = (false, eval e X.env) :: starEach es X.env := by rfl) : PA X (e :: es) (lA N Wx (aCons t r)) := PA.imp (pa_cons ha hr hs) fun σV H Q h => by
  obtain ⟨M, ρ, σ, st, k, ex, c, ht, q⟩ := Kx.open_ h
  exact Lf.bin c ht fun w ws st' hk v vs M' ρ' H' E c' r1 r2 => q _ _ hk _ M' ρ' H' E c' ⟨v, vs, rfl, r1, r2⟩
theorem ad_nil : PA X [] (lAD N Wx adNil) := ⟨fun pos pins s σ H Q I h => pa_nil.run pos pins s σ H Q I (by
  obtain ⟨M, ρ, σ, st, k, ex, c, ht, q⟩ := Kx.open_ h
  exact q _ _ ht _ M ρ H Ext.refl c rfl)⟩
theorem ad_cons {es : List Expr} {t : DD} {r : DAD} (ha : PE X e (lD N Wx t)) (hr : PA X es (lAD N Wx r)) (hs : starEach (e :: es) X.env = (false, eval e X.env) :: starEach es X.env := by rfl) : PA X (e :: es) (lAD N Wx (adCons t r)) := PA.imp (pa_cons ha hr hs) fun σV H Q h => by
  obtain ⟨M, ρ, σ, st, k, ex, c, ht, q⟩ := Kx.open_ h
  exact Lf.bin c ht fun w ws st' hk v vs M' ρ' H' E c' r1 r2 => q _ _ hk _ M' ρ' H' E c' ⟨v, vs, rfl, r1, r2⟩
theorem e_tup {es : List Expr} {kk : Nat} {t : DAD} (ha : PA X es (lAD N Wx t)) : PE X (.Tuple es kk pos) (lD N Wx (dTup t)) := PE.imp (pe_tup ha) fun σV H Q h => by
  obtain ⟨M, ρ, σ, st, k, ex, c, ht, q⟩ := Kx.open_ h
  refine Lf.of c ht fun ds st' hk vs M' ρ' H' E c' r => ⟨lenL6 (by rw [Rps.length r]; exact hk.1), fun p hp => ?_⟩
  obtain ⟨E2, c2⟩ := c'.new (o := .tup vs) hp
  exact q _ _ hk.2 _ _ ρ' _ (E.trans E2) c2 ⟨p, vs, rfl, .inl upd_same, Rps.ext r E2⟩
theorem e_lst {es : List Expr} {t : DAD} (ha : PA X es (lAD N Wx t)) : PE X (.List es pos) (lD N Wx (dLst t)) := PE.imp (pe_lst ha) fun σV H Q h => by
  obtain ⟨M, ρ, σ, st, k, ex, c, ht, q⟩ := Kx.open_ h
  refine Lf.of c ht fun ds st' hk vs M' ρ' H' E c' r => ⟨lenL6 (by rw [Rps.length r]; exact hk.1), fun p hp => ?_⟩
  obtain ⟨E2, c2⟩ := c'.new (o := .lst vs) hp
  exact q _ _ hk.2 _ _ ρ' _ (E.trans E2) c2 ⟨p, vs, rfl, upd_same, Rps.ext r E2⟩
theorem Rep.last {M H : Hp} {ρ : List Addr} {st : Sto} (r : Rep N M ρ st H) (p : Addr) : (ρ ++ [p])[st.length]? = some p := by rw [← r.len]; simp
theorem e_lstM {es : List Expr} {t : DAD} (ha : PA X es (lAD N Wx t)) : PE X (.List es pos) (lW N Wx (dLstM t)) := PE.imp (pe_lst ha) fun σV H Q h => by
  obtain ⟨M, ρ, σ, st, k, ex, c, ht, q⟩ := Kx.open_ h
  refine Lf.of c ht fun ds st' hk vs M' ρ' H' E c' r => ⟨lenL6 (by rw [Rps.length r]; exact hk.1), fun p hp => ?_⟩
  obtain ⟨E2, c2⟩ := c'.loc (u := .lst vs) (o := .lst ds) hp ⟨c'.rep.non hp, vs, upd_same, r⟩
  exact q _ _ hk.2 _ _ _ _ (E.trans E2) c2 ⟨p, c'.rep.last p, rfl⟩
end
end Dl
end

section
set_option maxHeartbeats 4000000
namespace Dl
open PySem PySem.Spec PyProof.Rows L2 Co
def atD (x i : D) (k : D → Prop) : Prop := match x, i with
  | .tup ds, .int j => (match atI ds j with
    | some d => k d
    | none => False)
  | .lst ds, .int j => (match atI ds j with
    | some d => k d
    | none => False)
  | .str z, .int j => z.length ≤ sizeLine ∧ (match atI z.cps.toList j with
    | some c => k (.str ⟨#[c]⟩)
    | none => False)
  | _, _ => False
def dIx (ta : DW) (ti : DD) : DD := fun σ st k ex => ta σ st (fun w st1 => ti σ st1 (fun i st2 => match seeW w st2 with
  | some x => atD x i fun d => k d st2
  | none => False) ex) ex
def getK {κ : Type} [DecidableEq κ] : List κ → List D → κ → Option D
  | a :: ks, d :: ds, q => if a = q then some d else getK ks ds q
  | _, _, _ => none
def seeWs : List W → Sto → Option (List D)
  | [], _ => some []
  | w :: r, st => match seeW w st, seeWs r st with
    | some d, some ds => some (d :: ds)
    | _, _ => none
abbrev FL := List D → (D → Prop) → Prop
def dCB (f : FL) (ta : DA) : DD := fun σ st k ex => ta σ st (fun ws st1 => match seeWs ws st1 with
  | some ds => f ds fun d => k d st1
  | none => False) ex
def isTy (T : String) : Option D → Prop
  | some (.str _) => T = "str"
  | some (.lst _) => T = "list"
  | some (.dct _ _) => T = "dict"
  | some (.dcT _ _) => T = "dict"
  | _ => False
def dBM (T : String) (f : D → FL) (to : DW) (ta : DA) : DD := fun σ st k ex => to σ st (fun w st1 => isTy T (seeW w st1) ∧ ta σ st1 (fun ws st2 => match seeW w st2, seeWs ws st2 with
  | some x, some ds => f x ds fun d => k d st2
  | _, _ => False) ex) ex
def lenD (x : D) (k : D → Prop) : Prop := match x with
  | .str z => z.length ≤ sizeLine ∧ k (.int z.length)
  | .tup ds => k (.int ds.length)
  | .lst ds => k (.int ds.length)
  | .dct ks _ => k (.int ks.length)
  | .dcT ks _ => k (.int ks.length)
  | _ => False
def fLen : FL := fun xs k => match xs with
  | [x] => lenD x k
  | _ => False
abbrev DO := Lv (Option Int)
def dNoPart : DO := fun _ st k _ => k none st
def dPart (t : DD) : DO := fun σ st k ex => t σ st (fun x st1 => match x with
  | .int i => k (some i) st1
  | _ => False) ex
def cutD (ds : List D) (lo hi : Option Int) : List D := (ds.drop (HT.sIx ds.length 0 lo)).take (HT.sIx ds.length ds.length hi - HT.sIx ds.length 0 lo)
def sliceD (x : D) (lo hi : Option Int) (k : D → Prop) : Prop := match x with
  | .str z => z.length ≤ sizeLine ∧ k (.str (cutS z lo hi))
  | .tup ds => k (.tup (cutD ds lo hi))
  | .lst ds => k (.lst (cutD ds lo hi))
  | _ => False
def dSl (ta : DW) (tl th : DO) : DD := fun σ st k ex => ta σ st (fun w st1 => tl σ st1 (fun l st2 => th σ st2 (fun h st3 => match seeW w st3 with
  | some x => sliceD x l h fun d => k d st3
  | none => False) ex) ex) ex
section
variable {X : Cx} {b : Bool} {Wx : WX} {e e1 e2 e3 : Expr} {pos : Pos} {N : Kn}
theorem atI_rps {M : Hp} {ds : List D} {vs : List V} {j : Int} {d : D} (h : Rps N M ds vs) (e : atI ds j = some d) : ∃ v, atI vs j = some v ∧ Rp N M d v := by
  unfold atI at e ⊢
  rw [h.length]
  cases z : ixN ds.length j with
  | none => rw [z] at e; cases e
  | some n =>
    rw [z] at e
    exact h.get e
theorem e_ix {ta : DW} {ti : DD} (ha : PE X e1 (lW (XN X b) Wx ta)) (hi : PE X e2 (lD (XN X b) Wx ti)) (hs : PlainIx e2 := by exact fun _ _ => rfl) : PE X (.Subscript e1 e2 pos) (lD (XN X b) Wx (dIx ta ti)) := PE.imp (pe_ix ix_seq ha hi hs) fun σV H Q h => by
  obtain ⟨M, ρ, σ, st, k, ex, c, ht, q⟩ := Kx.open_ h
  refine Lf.bin c ht fun w i st' hk u v M' ρ' H' E c' r1 r2 => ?_
  cases hz : seeW w st' with
  | none => simp only [hz] at hk
  | some x =>
    simp only [hz] at hk
    have r := see_ok c'.rep hz r1
    have s := Fv.sub (ρ := ρ') c'.rep.sub
    cases x <;> cases i <;> try exact False.elim hk
    · rename_i z j
      cases r; cases r2
      obtain ⟨h1, h2⟩ := hk
      refine .inr (.inr ?_)
      cases hj : atI z.cps.toList j with
      | none => rw [hj] at h2; exact False.elim h2
      | some cc =>
        rw [hj] at h2
        exact ⟨z, j, cc, rfl, rfl, h1, hj, q _ _ h2 _ M' ρ' H' E c' rfl⟩
    · rename_i ds j
      obtain ⟨p, xs, rfl, h1, h2⟩ := (show Rp (XN X b) M' (.tup ds) u from r)
      cases r2
      refine .inr (.inl ?_)
      cases hj : atI ds j with
      | none => simp only [atD, hj] at hk
      | some d =>
        simp only [atD, hj] at hk
        obtain ⟨v, h3, h4⟩ := atI_rps h2 hj
        exact ⟨p, xs, j, v, rfl, rfl, c'.rep.sub.tup h1, h3, q _ _ hk _ M' ρ' H' E c' h4⟩
    · rename_i ds j
      obtain ⟨p, xs, rfl, h1, h2⟩ := r
      cases r2
      refine .inl ?_
      cases hj : atI ds j with
      | none => simp only [atD, hj] at hk
      | some d =>
        simp only [atD, hj] at hk
        obtain ⟨v, h3, h4⟩ := atI_rps h2 hj
        exact ⟨p, xs, j, v, rfl, rfl, SqL.of (s.lst1 h1), h3, q _ _ hk _ M' ρ' H' E c' h4⟩
def RpCs (N : Kn) (M F : Hp) : List D → List V → Prop
  | [], vs => vs = []
  | d :: ds, vs => ∃ x r, vs = x :: r ∧ RpC N M F d x ∧ RpCs N M F ds r
theorem sees_ok {M H : Hp} {ρ : List Addr} {st : Sto} (r : Rep N M ρ st H) : ∀ {ws : List W} {ds : List D} {vs : List V}, seeWs ws st = some ds → Rws N M ρ ws vs → RpCs N M (Fv M ρ H) ds vs
  | [], _, _, e, h => by cases e; exact h
  | w :: ws, ds, vs, e, ⟨x, q, h1, h2, h3⟩ => by
    cases e1 : seeW w st with
    | none => simp only [seeWs, e1] at e; cases e
    | some d =>
      cases e2 : seeWs ws st with
      | none => simp only [seeWs, e1, e2] at e; cases e
      | some ds' =>
        simp only [seeWs, e1, e2, Option.some.injEq] at e
        subst e
        exact ⟨x, q, h1, see_ok r e1 h2, sees_ok r e2 h3⟩
def CallOk (N : Kn) (r : List V → Hp → VK → Prop) (f : FL) : Prop := ∀ {Wx : WX} {M H : Hp} {ρ : List Addr} {σ : Sl} {st : Sto} {σV : L2.St} {ex : DX} {ds : List D} {us : List V} {kd : D → Prop} {Q : VK}, Kx N Wx M ρ σ st H σV ex → RpCs N M (Fv M ρ H) ds us → f ds kd →
  (∀ d, kd d → ∀ w M' H', Ext M ρ H M' ρ H' → Kx N Wx M' ρ σ st H' σV ex → Rp N M' d w → Q w H') → r us H Q
theorem cb_lift {r : List V → Hp → VK → Prop} {f : FL} {ta : DA} (ok : CallOk N r f) {σV : L2.St} {H : Hp} {Q : VK} (h : lD N Wx (dCB f ta) σV H Q) : tCB r (lA N Wx ta) σV H Q := by
  obtain ⟨M, ρ, σ, st, k, ex, c, ht, q⟩ := Kx.open_ h
  refine Lf.of c ht fun ws st' hk vs M' ρ' H' E c' r => ?_
  cases hz : seeWs ws st' with
  | none => simp only [hz] at hk
  | some ds =>
    simp only [hz] at hk
    exact ok c' (sees_ok c'.rep hz r) hk fun d hd w M2 H2 E2 c2 r2 => q _ _ hd w M2 ρ' H2 (E.trans E2) c2 r2
theorem e_cb {id : String} {r : List V → Hp → VK → Prop} {f : FL} {ta : DA} {x : Str} {p : Pos} {es : List Expr} (hc : CallR X (.builtin id) r) (ok : CallOk N r f) (hg : Gl X x) (hm : X.mg x = none) (hv : bootBuiltins x = some (.builtin id)) (ha : PA X (e :: es) (lA N Wx ta)) (hn : x ≠ "__name__" := by decide) (hdb : (x == ("__debug__" : Str)) = false := by decide)
    (he : starEach (e :: es) X.env = (false, eval e X.env) :: starEach es X.env := by rfl) (hpl : (backTo pos (starEach es X.env)).any (·.1) = false := by rfl) : PE X (.Call (.Name x p) (e :: es) [] pos) (lD N Wx (dCB f ta)) := PE.imp (pe_callB hc hg hm hv ha hn hdb he hpl) fun _ _ _ => cb_lift ok
theorem e_cty {T : String} {r : List V → Hp → VK → Prop} {f : FL} {ta : DA} {x : Str} {p : Pos} {es : List Expr} (hc : CallR X (.type T) r) (ok : CallOk N r f) (hg : Gl X x) (hm : X.mg x = none) (hv : bootBuiltins x = some (.type T)) (ha : PA X (e :: es) (lA N Wx ta)) (hn : x ≠ "__name__" := by decide) (hdb : (x == ("__debug__" : Str)) = false := by decide)
    (he : starEach (e :: es) X.env = (false, eval e X.env) :: starEach es X.env := by rfl) (hpl : (backTo pos (starEach es X.env)).any (·.1) = false := by rfl) : PE X (.Call (.Name x p) (e :: es) [] pos) (lD N Wx (dCB f ta)) := PE.imp (pe_callTy hc hg hm hv ha hn hdb he hpl) fun _ _ _ => cb_lift ok
theorem CallR.or {f : Value} {r r' : List V → Hp → VK → Prop} (h : CallR X f r) (h' : CallR X f r') : CallR X f (fun xs H Q => r xs H Q ∨ r' xs H Q) := fun pins s σ H xs us Q I rx q => q.elim (h pins s σ H xs us Q I rx) (h' pins s σ H xs us Q I rx)
theorem RpCs.one {M F : Hp} {d : D} {us : List V} (h : RpCs N M F [d] us) : ∃ u, us = [u] ∧ RpC N M F d u := by
  obtain ⟨x, r, h1, h2, h3⟩ := h
  rw [show r = [] from h3] at h1
  exact ⟨x, h1, h2⟩
theorem RpCs.two {M F : Hp} {d d' : D} {us : List V} (h : RpCs N M F [d, d'] us) : ∃ u u', us = [u, u'] ∧ RpC N M F d u ∧ RpC N M F d' u' := by
  obtain ⟨x, r, h1, h2, h3⟩ := h
  obtain ⟨u, rfl, h4⟩ := RpCs.one h3
  exact ⟨x, u, h1, h2, h4⟩
def rLenW (K : PySem.W.Frag) : List V → Hp → VK → Prop := fun xs H Q => cLenA K xs H Q ∨ (∃ a kvs, xs = [V.ref a] ∧ Rd H a (.dK kvs) ∧ Q (.int kvs.length) H) ∨ ∃ a kvs, xs = [V.ref a] ∧ Rd H a (.dT kvs) ∧ Q (.int kvs.length) H
theorem c_lenW : CallR X (.builtin "len") (rLenW X.K) := by
  intro pins s σ H xs us Q I r h
  rcases h with h | ⟨a, kvs, rfl, ha, q⟩ | ⟨p, kvs, rfl, hp, q⟩
  · exact c_lenA pins s σ H xs us Q I r h
  · obtain ⟨u, rfl, ru⟩ := vals1 r
    cases ru
    exact d_len I ha fun t s' I' => ⟨.int kvs.length, H, I', ⟨t, rfl⟩, q⟩
  · obtain ⟨u, rfl, rx⟩ := vals1 r
    obtain rfl : u = .ref p := rx
    obtain ⟨z, hd, ys, rel, dd⟩ := dt_rd I.hok hp
    have hl : kvs.length = ys.length := Paired.length rel
    refine call_len_dictH hd dd (by rw [← hl]; rw [sizeLine_eq] at z; omega) ?_
    rw [← hl]
    exact ⟨.int ((kvs.length : Nat) : Int), H, I.tok _, ⟨_, rfl⟩, q⟩
theorem ok_len : CallOk N (rLenW N.K) fLen := by
  intro Wx M H ρ σ st σV ex ds us kd Q c hd h k
  unfold fLen at h
  split at h
  · rename_i x
    obtain ⟨u, rfl, r⟩ := RpCs.one hd
    have s := Fv.sub (ρ := ρ) c.rep.sub
    cases x <;> try exact False.elim h
    · cases r; exact .inl ⟨h.1, k _ h.2 _ M H Ext.refl c rfl⟩
    · obtain ⟨p, xs, rfl, h1, h2⟩ := (show Rp N M _ u from r)
      exact .inl ⟨_, .inl ⟨xs, .inr (c.rep.sub.tup h1), rfl⟩, by rw [h2.length]; exact k _ h _ M H Ext.refl c rfl⟩
    · obtain ⟨p, xs, rfl, h1, h2⟩ := r
      exact .inl ⟨_, .inl ⟨xs, .inl (SqL.of (s.lst1 h1)), rfl⟩, by rw [h2.length]; exact k _ h _ M H Ext.refl c rfl⟩
    · obtain ⟨p, kvs, rfl, h1, h2, h3⟩ := r
      refine .inr (.inl ⟨p, kvs, rfl, s.dK h1, ?_⟩)
      rw [show (kvs.length : Int) = ((kvs.map (·.1)).length : Int) by simp, h2]
      exact k _ h _ M H Ext.refl c rfl
    · obtain ⟨p, kvs, rfl, h1, h2, h3⟩ := r
      refine .inr (.inr ⟨p, kvs, rfl, s.dT h1, ?_⟩)
      rw [show (kvs.length : Int) = ((kvs.map (·.1)).length : Int) by simp, h2]
      exact k _ h _ M H Ext.refl c rfl
  · exact h.elim
def fMin : FL := fun xs k => match xs with
  | [.int i, .int j] => k (.int (min i j))
  | _ => False
theorem ok_min : CallOk N cMin2 fMin := by
  intro Wx M H ρ σ st σV ex ds us kd Q c hd h k
  unfold fMin at h
  split at h
  · rename_i i j
    obtain ⟨u, u', rfl, r, r'⟩ := RpCs.two hd; cases r; cases r'
    have : (if j < i then j else i) = min i j := by split <;> omega
    show Q (.int (if j < i then j else i)) H
    rw [this]
    exact k _ h _ M H Ext.refl c rfl
  · exact h.elim
theorem Rps.bls {M : Hp} : ∀ {ns : List Bool} {vs : List V}, Rps N M (ns.map D.bl) vs → vs = ns.map V.bl
  | [], _, h => h
  | n :: ns, _, ⟨x, r, h1, h2, h3⟩ => by
    subst h1
    cases h2
    rw [Rps.bls h3]
    rfl
theorem Rps.strs {M : Hp} : ∀ {ns : List Str} {vs : List V}, Rps N M (ns.map D.str) vs → vs = ns.map V.str
  | [], _, h => h
  | n :: ns, _, ⟨x, r, h1, h2, h3⟩ => by
    subst h1
    cases h2
    rw [Rps.strs h3]
    rfl
def fAll : FL := fun xs k => match xs with
  | [.lst ds] => ∃ ns : List Bool, ds = ns.map D.bl ∧ k (.bl (ns.all id))
  | _ => False
theorem ok_all : CallOk N (rAll N.K) fAll := by
  intro Wx M H ρ σ st σV ex ds us kd Q c hd h k
  unfold fAll at h
  split at h
  · obtain ⟨u, rfl, p, xs, rfl, h1, h2⟩ := RpCs.one hd
    obtain ⟨ns, rfl, h⟩ := h
    have := h2.bls
    subst this
    exact ⟨p, ns, rfl, SqL.of ((Fv.sub (ρ := ρ) c.rep.sub).lst1 h1), k _ h _ M H Ext.refl c rfl⟩
  · exact h.elim
def fTuple : FL := fun xs k => match xs with
  | [.lst ds] => k (.tup ds)
  | [.tup ds] => k (.tup ds)
  | _ => False
end
end Dl
end

section
set_option maxHeartbeats 4000000
namespace Dl
open PySem PySem.Spec PyProof.Rows L2 Co
section
variable {X : Cx} {b : Bool} {Wx : WX} {e e1 e2 e3 : Expr} {pos : Pos} {N : Kn}
theorem ok_tuple : CallOk N (rTupOf N.K) fTuple := by
  intro Wx M H ρ σ st σV ex ds us kd Q c hd h k
  unfold fTuple at h
  split at h
  · obtain ⟨u, rfl, p, xs, rfl, h1, h2⟩ := RpCs.one hd
    refine ⟨p, xs, rfl, .inl ⟨SqL.of ((Fv.sub (ρ := ρ) c.rep.sub).lst1 h1), fun l hl => ?_⟩⟩
    obtain ⟨E, c'⟩ := c.new (o := .tup xs) hl
    exact k _ h _ _ _ E c' ⟨l, xs, rfl, .inl upd_same, h2.ext E⟩
  · obtain ⟨u, rfl, p, xs, rfl, h1, h2⟩ := RpCs.one hd
    exact ⟨p, xs, rfl, .inr ⟨c.rep.sub.tup h1, k _ h _ M H Ext.refl c ⟨p, xs, rfl, h1, h2⟩⟩⟩
  · exact h.elim
def lO (N : Kn) (Wx : WX) (t : DO) : TO := Lf N Wx (fun _ _ (a b : Option Int) => b = a) t
instance : Mo (fun _ _ (a b : Option Int) => b = a) := ⟨fun _ h => h⟩
theorem PO.imp {eo : Option Expr} {t t' : TO} (h : PO X eo t) (i : ∀ σ H Q, t' σ H Q → t σ H Q) : PO X eo t' := ⟨fun pins s σ H Q I q => h.run pins s σ H Q I (i σ H Q q)⟩
theorem o_none : PO X none (lO N Wx dNoPart) := PO.imp po_none fun σV H Q h => by
  obtain ⟨M, ρ, σ, st, k, ex, c, ht, q⟩ := Kx.open_ h
  exact q _ _ ht _ M ρ H Ext.refl c rfl
theorem o_some {t : DD} (h : PE X e (lD N Wx t)) : PO X (some e) (lO N Wx (dPart t)) := PO.imp (po_some h) fun σV H Q h => by
  obtain ⟨M, ρ, σ, st, k, ex, c, ht, q⟩ := Kx.open_ h
  refine Lf.of c ht fun x st' hk v M' ρ' H' E c' r => ?_
  cases x <;> try exact False.elim hk
  cases r
  exact ⟨_, rfl, q _ _ hk _ M' ρ' H' E c' rfl⟩
theorem cut_rps {M : Hp} {ds : List D} {vs : List V} (h : Rps N M ds vs) (lo hi : Option Int) : Rps N M (cutD ds lo hi) (cutV vs lo hi) := by
  unfold cutD cutV
  rw [h.length]
  exact Rps.take _ (Rps.drop _ h)
theorem sl_all : SlR X (fun x lo hi H Q => rSlS x lo hi H Q ∨ rSlA X.K x lo hi H Q ∨ rSlL X.K x lo hi H Q) := SlR.or sl_str (SlR.or sl_tupA sl_list)
theorem e_sl {ta : DW} {tl th : DO} {lo hi : Option Expr} {p2 : Pos} (ha : PE X e (lW (XN X b) Wx ta)) (hl : PO X lo (lO (XN X b) Wx tl)) (hh : PO X hi (lO (XN X b) Wx th)) : PE X (.Subscript e (.Slice lo hi none p2) pos) (lD (XN X b) Wx (dSl ta tl th)) := PE.imp (pe_slice sl_all ha hl hh) fun σV H Q h => by
  obtain ⟨M, ρ, σ, st, k, ex, c, ht, q⟩ := Kx.open_ h
  refine Lf.of c ht fun w st1 hk1 u M1 ρ1 H1 E1 c1 r1 => Lf.bin c1 hk1 fun l h st' hk l' h' M' ρ' H' E c' r2 r3 => ?_
  rw [show l' = l from r2, show h' = h from r3]
  have E := E1.trans E
  have r1 := Rw.ext r1 ‹Ext M1 ρ1 H1 M' ρ' H'›
  cases hz : seeW w st' with
  | none => simp only [hz] at hk
  | some x =>
    simp only [hz] at hk
    have g := see_ok c'.rep hz r1
    cases x <;> try exact False.elim hk
    · cases g; exact .inl ⟨_, rfl, hk.1, q _ _ hk.2 _ M' ρ' H' E c' rfl⟩
    · obtain ⟨p, xs, rfl, h1, h2⟩ := (show Rp (XN X b) M' _ u from g)
      have hc := cut_rps h2 l h
      refine .inr (.inl ⟨p, xs, rfl, c'.rep.sub.tup h1, fun z => ?_, fun _ l' hl' => ?_⟩)
      · have e1 : cutV xs l h = xs := by
          unfold cutV
          rw [z.1, z.2]
          simp
        rw [e1] at hc
        exact q _ _ hk _ M' ρ' H' E c' ⟨p, xs, rfl, h1, hc⟩
      · obtain ⟨E2, c2⟩ := c'.new (o := .tup (cutV xs l h)) hl'
        exact q _ _ hk _ _ _ _ (E.trans E2) c2 ⟨l', _, rfl, .inl upd_same, hc.ext E2⟩
    · obtain ⟨p, xs, rfl, h1, h2⟩ := g
      have hc := cut_rps h2 l h
      refine .inr (.inr ⟨p, xs, rfl, SqL.of ((Fv.sub (ρ := ρ') c'.rep.sub).lst1 h1), fun l' hl' => ?_⟩)
      obtain ⟨E2, c2⟩ := c'.new (o := .lst (cutV xs l h)) hl'
      exact q _ _ hk _ _ _ _ (E.trans E2) c2 ⟨l', _, rfl, upd_same, hc.ext E2⟩
def MtOk (N : Kn) (r : V → List V → Hp → VK → Prop) (f : D → FL) : Prop := ∀ {Wx : WX} {M H : Hp} {ρ : List Addr} {σ : Sl} {st : Sto} {σV : L2.St} {ex : DX} {x : D} {u : V} {ds : List D} {us : List V} {kd : D → Prop} {Q : VK}, Kx N Wx M ρ σ st H σV ex → RpC N M (Fv M ρ H) x u → RpCs N M (Fv M ρ H) ds us → f x ds kd →
  (∀ d, kd d → ∀ w M' H', Ext M ρ H M' ρ H' → Kx N Wx M' ρ σ st H' σV ex → Rp N M' d w → Q w H') → r u us H Q
theorem e_m1 {id : String} {name : Str} {apos : Pos} {r : V → List V → Hp → VK → Prop} {f : D → FL} {to ta : DW} (slot : Slot "str" name id) (ty : typeOf (.builtin id) = pure (.type "method_descriptor")) (rule : MtR X id r) (ok : MtOk N r f) (ho : PE X e1 (lW N Wx to)) (he : PE X e2 (lW N Wx ta))
    (hs : starEach [e2] X.env = [(false, eval e2 X.env)] := by rfl) (hbase : attributeBase e1 name X.env (eval e1 X.env) = eval e1 X.env := by rfl) (hline : (apos.endLine == pos.line) = true := by rfl) : PE X (.Call (.Attribute e1 name apos) [e2] [] pos) (lD N Wx (dBM "str" f to (aCons ta aNil))) := PE.imp (pe_m1 slot ty rule ho he hs hbase hline) fun σV H Q h => by
  obtain ⟨M, ρ, σ, st, k, ex, c, ht, q⟩ := Kx.open_ h
  refine Lf.of c ht fun w st1 hk u M1 ρ1 H1 E1 c1 r1 => ?_
  obtain ⟨ht, hk⟩ := hk
  refine ⟨?_, Lf.of c1 hk fun y st2 hk2 v M2 ρ2 H2 E2 c2 r2 => ?_⟩
  · cases hz : seeW w st1 with
    | none => rw [hz] at ht; exact False.elim ht
    | some x =>
      rw [hz] at ht
      have g := see_ok c1.rep hz r1
      cases x <;> first | exact False.elim ht | exact absurd (show "str" = "list" from ht) (by decide) | exact absurd (show "str" = "dict" from ht) (by decide) | (cases g; exact ⟨_, rfl⟩)
  · have hk2 : (match seeW w st2, seeWs [y] st2 with
      | some x, some ds => f x ds fun d => k d st2
      | _, _ => False) := hk2
    cases hz : seeW w st2 with
    | none => rw [hz] at hk2; exact False.elim hk2
    | some x =>
      cases hy : seeWs [y] st2 with
      | none => rw [hz, hy] at hk2; exact False.elim hk2
      | some ds =>
        rw [hz, hy] at hk2
        refine ok c2 (see_ok c2.rep hz (Rw.ext r1 E2)) (sees_ok c2.rep hy ⟨v, [], rfl, r2, rfl⟩) hk2 fun d hd w M3 H3 E3 c3 r3 => q _ _ hd w M3 ρ2 H3 (E1.trans (E2.trans E3)) c3 r3
def mJoin : D → FL := fun x xs k => match x, xs with
  | .str a, [.lst ds] => ∃ ys : List Str, ds = ys.map D.str ∧ (ys.map (·.length)).sum + ys.length * a.length ≤ 16777216 ∧ k (.str (Txt.join a ys))
  | .str a, [.tup ds] => ∃ ys : List Str, ds = ys.map D.str ∧ (ys.map (·.length)).sum + ys.length * a.length ≤ 16777216 ∧ k (.str (Txt.join a ys))
  | _, _ => False
theorem ok_join : MtOk N (rJoinS N.K) mJoin := by
  intro Wx M H ρ σ st σV ex x u ds us kd Q c hx hd h k
  unfold mJoin at h
  split at h
  · cases hx
    obtain ⟨u, rfl, p, xs, rfl, h1, h2⟩ := RpCs.one hd
    obtain ⟨ys, rfl, h3, h4⟩ := h
    have := h2.strs
    subst this
    exact ⟨ys, .inl (SqL.of ((Fv.sub (ρ := ρ) c.rep.sub).lst1 h1)), h3, k _ h4 _ M H Ext.refl c rfl⟩
  · cases hx
    obtain ⟨u, rfl, p, xs, rfl, h1, h2⟩ := RpCs.one hd
    obtain ⟨ys, rfl, h3, h4⟩ := h
    have := h2.strs
    subst this
    exact ⟨ys, .inr (c.rep.sub.tup h1), h3, k _ h4 _ M H Ext.refl c rfl⟩
  · exact h.elim
end
end Dl
end

section
set_option maxHeartbeats 4000000
namespace Dl
open PySem PySem.Spec PyProof.Rows L2 Co
structure Lk (N : Kn) (Wx : WX) (M : Hp) (ρ : List Addr) (H : Hp) (D : Ends) (E : En) : Prop where
  nx : ∀ σ' st', E.nx σ' st' → ∀ M' ρ' H' σV', Ext M ρ H M' ρ' H' → Rep N M' ρ' st' H' → Rs N M' ρ' σ' σV' → D.nx σV' H'
  rt : ∀ w st', E.rt w st' → ∀ v M' ρ' H', Ext M ρ H M' ρ' H' → Rep N M' ρ' st' H' → Rw N M' ρ' w v → D.rt v H'
  ex : ∀ c fs σ' st', E.ex c fs σ' st' → ∀ o M' ρ' H' σV', Ext M ρ H M' ρ' H' → Rep N M' ρ' st' H' → Rs N M' ρ' σ' σV' → ErrOwn N M' o fs → Wx (.ref (He.ga N.K c)) o σV' H'
  bk : ∀ σ' st', E.bk σ' st' → ∀ M' ρ' H' σV', Ext M ρ H M' ρ' H' → Rep N M' ρ' st' H' → Rs N M' ρ' σ' σV' → D.bk σV' H'
  ct : ∀ σ' st', E.ct σ' st' → ∀ M' ρ' H' σV', Ext M ρ H M' ρ' H' → Rep N M' ρ' st' H' → Rs N M' ρ' σ' σV' → D.ct σV' H'
def lS (N : Kn) (Wx : WX) (t : DS) : TS := fun D σV H => ∃ M ρ σ st E, Rep N M ρ st H ∧ Rs N M ρ σ σV ∧ t E σ st ∧ Lk N Wx M ρ H D E
def exE (E : En) (σ : Sl) : DX := fun c fs st' => E.ex c fs σ st'
def sNext : DS := fun E σ st => E.nx σ st
def sSeq (t u : DS) : DS := fun E σ st => t { E with nx := fun σ' st' => u E σ' st' } σ st
def sAsg (i : Nat) (t : DW) : DS := fun E σ st => t σ st (fun w st1 => E.nx (σ.set i (some w)) st1) (exE E σ)
def sRet (t : DW) : DS := fun E σ st => t σ st (fun w st1 => E.rt w st1) (exE E σ)
def sIf (c : DT) (t u : DS) : DS := fun E σ st => c σ st (fun b st1 => two b (t E σ st1) (u E σ st1)) (exE E σ)
section
variable {N : Kn} {Wx : WX} {M H M' H' : Hp} {ρ ρ' : List Addr} {σ : Sl} {st : Sto} {σV : L2.St} {D : Ends} {E : En}
theorem Lk.step (l : Lk N Wx M ρ H D E) (e : Ext M ρ H M' ρ' H') : Lk N Wx M' ρ' H' D E :=
  ⟨fun σ' st' h M2 ρ2 H2 σV' e2 => l.nx σ' st' h M2 ρ2 H2 σV' (e.trans e2), fun w st' h v M2 ρ2 H2 e2 => l.rt w st' h v M2 ρ2 H2 (e.trans e2), fun c fs σ' st' h o M2 ρ2 H2 σV' e2 => l.ex c fs σ' st' h o M2 ρ2 H2 σV' (e.trans e2),
   fun σ' st' h M2 ρ2 H2 σV' e2 => l.bk σ' st' h M2 ρ2 H2 σV' (e.trans e2), fun σ' st' h M2 ρ2 H2 σV' e2 => l.ct σ' st' h M2 ρ2 H2 σV' (e.trans e2)⟩
theorem Lk.kx (l : Lk N Wx M ρ H D E) (r : Rep N M ρ st H) (s : Rs N M ρ σ σV) : Kx N Wx M ρ σ st H σV (exE E σ) :=
  ⟨r, s, fun c fs st' h o M' ρ' H' e r' eo => l.ex c fs σ st' h o M' ρ' H' σV e r' (s.ext e) eo⟩
theorem lS.of {t : DS} (l : Lk N Wx M ρ H D E) (r : Rep N M ρ st H) (s : Rs N M ρ σ σV) (h : t E σ st) : lS N Wx t D σV H := ⟨M, ρ, σ, st, E, r, s, h, l⟩
end
section
variable {X : Cx} {b : Bool} {Wx : WX} {e e1 e2 e3 : Expr} {pos : Pos} {N : Kn} {s s1 s2 : Stmt} {ss : List Stmt}
theorem PSs.imp {t t' : TS} (h : PSs X ss t) (i : ∀ D σ H, t' D σ H → t D σ H) : PSs X ss t' := ⟨fun pins s σ H D I q => h.run pins s σ H D I (i D σ H q)⟩
theorem ss_nil : PSs X [] (lS N Wx sNext) := PSs.imp pss_nil fun D σV H h => by
  obtain ⟨M, ρ, σ, st, E, r, s, h, l⟩ := h
  exact l.nx _ _ h M ρ H σV Ext.refl r s
theorem ss_one {t : DS} (h : PS X s (lS N Wx t)) : PSs X [s] (lS N Wx t) := pss_one h
theorem ss_cons {t u : DS} (h : PS X s (lS N Wx t)) (h2 : PSs X (s1 :: ss) (lS N Wx u)) : PSs X (s :: s1 :: ss) (lS N Wx (sSeq t u)) := PSs.imp (pss_cons h h2) fun D σV H q => by
  obtain ⟨M, ρ, σ, st, E, r, s, h, l⟩ := q
  refine lS.of (E := { E with nx := fun σ' st' => u E σ' st' }) ⟨fun σ' st' h' M' ρ' H' σV' e' r' s' => lS.of (l.step e') r' s' h', l.rt, l.ex, l.bk, l.ct⟩ r s h
theorem s_ret {t : DW} (h : PE X e (lW N Wx t)) : PS X (.Return (some e) pos) (lS N Wx (sRet t)) := PS.imp (ps_ret h) fun D σV H h => by
  obtain ⟨M, ρ, σ, st, E, r, s, h, l⟩ := h
  exact Lf.of (l.kx r s) h fun w st' hk v M' ρ' H' e' c' rv => l.rt _ _ hk v M' ρ' H' e' c'.rep rv
theorem s_asg {t : DW} {i : Nat} (h : PS X s (tAsg (lW N Wx t) (gName i))) : PS X s (lS N Wx (sAsg i t)) := PS.imp h fun D σV H h => by
  obtain ⟨M, ρ, σ, st, E, r, s, h, l⟩ := h
  exact Lf.of (l.kx r s) h fun w st' hk v M' ρ' H' e' c' rv => l.nx _ _ hk M' ρ' H' _ e' c'.rep (c'.rs.set rv i)
theorem s_if {c : DT} {t u : DS} {p q : List Stmt} (hc : PT X e (lT N Wx c)) (ha : PSs X p (lS N Wx t)) (hb : PSs X q (lS N Wx u)) : PS X (.If e p q pos) (lS N Wx (sIf c t u)) := PS.imp (Co.s_if hc ha hb) fun D σV H h => by
  obtain ⟨M, ρ, σ, st, E, r, s, h, l⟩ := h
  refine Lf.of (l.kx r s) h fun b st' hk v M' ρ' H' e' c' rv => ?_
  rw [show v = b from rv]
  exact ⟨fun z => lS.of (l.step e') c'.rep c'.rs (hk.1 z), fun z => lS.of (l.step e') c'.rep c'.rs (hk.2 z)⟩
def sApp (to : DW) (t : DD) : DS := fun E σ st => to σ st (fun o st1 => (∃ ds, seeW o st1 = some (.lst ds)) ∧ t σ st1 (fun d st2 => match o with
  | .loc n => (match st2[n]? with
    | some (.lst ds) => ds.length ≤ 1000000 ∧ E.nx σ (st2.set n (.lst (ds ++ [d])))
    | _ => False)
  | _ => False) (exE E σ)) (exE E σ)
theorem see_lst {w : W} {M H : Hp} {ρ : List Addr} {st : Sto} {ds : List D} {u : V} (r : Rep N M ρ st H) (e : seeW w st = some (.lst ds)) (h : Rw N M ρ w u) : ∃ p xs, u = .ref p ∧ H p = some (.lst xs) ∧ Rps N M ds xs := by
  obtain ⟨p, xs, h1, h2, h3⟩ := see_ok r e h
  exact ⟨p, xs, h1, (Fv.sub (ρ := ρ) r.sub).lst1 h2, h3⟩
theorem s_app {to : DW} {t : DD} (h : PS X s (tDrop (tBM X.K "list" rAppend (lW N Wx to) (tCons (lD N Wx t) tNil)))) : PS X s (lS N Wx (sApp to t)) := PS.imp h fun D σV H h => by
  obtain ⟨M, ρ, σ, st, E, r, s, h, l⟩ := h
  refine Lf.of (l.kx r s) h fun o st1 hk u M1 ρ1 H1 e1 c1 ro => ?_
  obtain ⟨⟨ds0, hs0⟩, hk⟩ := hk
  obtain ⟨p0, xs0, rfl, q1, q2⟩ := see_lst c1.rep hs0 ro
  refine ⟨.inl ⟨rfl, xs0, SqL.of q1⟩, Lf.of c1 hk fun d st2 hk v M2 ρ2 H2 e2 c2 rd => ?_⟩
  obtain ⟨n, rfl⟩ : ∃ n, o = .loc n := by cases o <;> first | exact False.elim hk | exact ⟨_, rfl⟩
  obtain ⟨a, ha, e⟩ := Rw.ext ro e2
  cases e
  cases hz : st2[n]? with
  | none => simp only [hz] at hk
  | some ob =>
    simp only [hz] at hk
    cases ob <;> try exact False.elim hk
    rename_i ds
    obtain ⟨hm, xs, h1, h2⟩ := c2.rep.ob n _ _ ha hz
    obtain ⟨hl, hk⟩ := hk
    refine ⟨_, xs, v, rfl, rfl, h1, ?_, ?_⟩
    · rw [h2.length, sizeLine_eq]; omega
    · obtain ⟨E2, c3⟩ := c2.wr (o := .lst (ds ++ [d])) ha hm (u := .lst (xs ++ [v])) ⟨hm, _, upd_same, h2.append (Rps.cons rd .nil)⟩
      exact l.nx _ _ hk _ _ _ σV ((e1.trans e2).trans E2) c3.rep c3.rs
end
end Dl
end

section
set_option maxHeartbeats 4000000
namespace Dl
open PySem PySem.Spec PyProof.Rows L2 Co
abbrev Pf := List W → Sto → (W → Sto → Prop) → DX → Prop
def idx (n : Nat) : List Nat → Option Nat
  | [] => none
  | m :: r => if m = n then some 0 else (idx n r).map (· + 1)
def wl : W → List Nat
  | .loc n => [n]
  | _ => []
def addN (l : List Nat) : List Nat → List Nat
  | [] => l
  | n :: r => match idx n l with
    | some _ => addN l r
    | none => addN (l ++ [n]) r
def locsO (st : Sto) (n : Nat) : List Nat := match st[n]? with
  | some (.ins _ fs) => fs.flatMap fun p => wl p.2
  | some (.lsW ws) => ws.flatMap wl
  | some (.dcW _ ws) => ws.flatMap wl
  | _ => []
def reach1 (st : Sto) (l : List Nat) : List Nat := addN l (l.flatMap (locsO st))
def reach (st : Sto) (ws : List W) : List Nat := match addN [] (ws.flatMap wl) with
  | [] => []
  | l => reach1 st (reach1 st (reach1 st l))
def ren (ls : List Nat) : W → W
  | .loc n => (match idx n ls with
    | some j => .loc j
    | none => .dead)
  | w => w
def renO (ls : List Nat) : Ob → Ob
  | .ins C fs => .ins C (fs.map fun p => (p.1, ren ls p.2))
  | .lsW ws => .lsW (ws.map (ren ls))
  | .dcW ks ws => .dcW ks (ws.map (ren ls))
  | o => o
def subS (st : Sto) : List Nat → List Nat → Sto
  | _, [] => []
  | ls, n :: r => (match st[n]? with
    | some o => renO ls o
    | none => .gone) :: subS st ls r
def unW (ls : List Nat) (n0 : Nat) : W → W
  | .loc j => (match ls[j]? with
    | some n => .loc n
    | none => .loc (n0 + (j - ls.length)))
  | w => w
def unO (ls : List Nat) (n0 : Nat) : Ob → Ob
  | .ins C fs => .ins C (fs.map fun p => (p.1, unW ls n0 p.2))
  | .lsW ws => .lsW (ws.map (unW ls n0))
  | .dcW ks ws => .dcW ks (ws.map (unW ls n0))
  | o => o
def backO (ls : List Nat) (n0 : Nat) (st2 : Sto) : Nat → Sto → Sto
  | _, [] => []
  | i, o :: r => (match idx i ls with
    | some j => (match st2[j]? with
      | some o2 => unO ls n0 o2
      | none => .gone)
    | none => o) :: backO ls n0 st2 (i + 1) r
def back (ls : List Nat) (st st2 : Sto) : Sto := match ls, st2 with
  | [], [] => st
  | ls, st2 => backO ls st.length st2 0 st ++ (st2.drop ls.length).map (unO ls st.length)
def lsOk (ls : List Nat) (n : Nat) : Bool := ls.all fun i => decide (i < n)
structure callD (f : Pf) (ls : List Nat) (ws : List W) (st : Sto) (k : W → Sto → Prop) (ex : DX) : Prop where
  ok : lsOk ls st.length = true
  run : f (ws.map (ren ls)) (subS st ls ls) (fun w st2 => k (unW ls st.length w) (back ls st st2)) (fun c fs st2 => ex c fs (back ls st st2))
def dCall (f : Pf) (ta : DA) : DW := fun σ st k ex => ta σ st (fun ws st1 => callD f (reach st1 ws) ws st1 k ex) ex
def clsW (C m : Str) (w : W) (st : Sto) : Prop := match w with
  | .im (.ins C' ns ds) => C' = C ∧ getK ns ds m = none
  | .loc n => (match st[n]? with
    | some (.ins C' fs) => C' = C ∧ fs.lookup m = none
    | some (.fz (.ins C' ns ds)) => C' = C ∧ getK ns ds m = none
    | _ => False)
  | _ => False
def spD (N : Kn) (f : Pf) : Sp := fun vs H Q E => ∃ M ρ ws st k ex, Rep N M ρ st H ∧ Rws N M ρ ws vs ∧ f ws st k ex ∧
  (∀ w st', k w st' → ∀ v M' ρ' H', Ext M ρ H M' ρ' H' → Rep N M' ρ' st' H' → Rw N M' ρ' w v → Q v H') ∧
  (∀ c fs st', ex c fs st' → ∀ o M' ρ' H', Ext M ρ H M' ρ' H' → Rep N M' ρ' st' H' → ErrOwn N M' o fs → E (.ref (He.ga N.K c)) o H')
section
variable {N : Kn} {Wx : WX} {M H M' H' : Hp} {ρ ρ' : List Addr} {σ : Sl} {st : Sto} {σV : L2.St}
theorem idx_get : ∀ {ls : List Nat} {n j : Nat}, idx n ls = some j → ls[j]? = some n
  | [], _, _, e => by cases e
  | m :: r, n, j, e => by
    unfold idx at e
    split at e
    · rename_i h
      cases e
      rw [h]
      rfl
    · cases z : idx n r with
      | none => rw [z] at e; cases e
      | some i =>
        rw [z] at e
        cases e
        simpa using idx_get z
theorem idx_none : ∀ {ls : List Nat} {n : Nat}, idx n ls = none → n ∉ ls
  | [], _, _, h => by cases h
  | m :: r, n, e, h => by
    unfold idx at e
    split at e
    · cases e
    · rename_i hm
      rcases List.mem_cons.mp h with h | h
      · exact hm h.symm
      · refine idx_none ?_ h
        cases z : idx n r with
        | none => rfl
        | some i => rw [z] at e; cases e
def pickA (ρ : List Addr) (ls : List Nat) : List Addr := ls.map fun n => ρ.getD n 0
theorem pick_get {ls : List Nat} (hl : lsOk ls ρ.length = true) {j n : Nat} (h : ls[j]? = some n) : (pickA ρ ls)[j]? = ρ[n]? ∧ n < ρ.length := by
  have hm := List.mem_of_getElem? h
  have := of_decide_eq_true (List.all_eq_true.mp hl n hm)
  refine ⟨?_, this⟩
  unfold pickA
  rw [List.getElem?_map, h]
  simp [List.getD, this]
theorem ren_ok {ls : List Nat} (hl : lsOk ls ρ.length = true) {w : W} {v : V} (h : Rw N M ρ w v) : Rw N M (pickA ρ ls) (ren ls w) v := by
  cases w with
  | im d => exact h
  | dead => exact h
  | loc n =>
    obtain ⟨a, ha, rfl⟩ := h
    cases z : idx n ls with
    | none => simp only [ren, z]; trivial
    | some j => simp only [ren, z]; exact ⟨a, by rw [(pick_get hl (idx_get z)).1]; exact ha, rfl⟩
theorem rens_ok {ls : List Nat} (hl : lsOk ls ρ.length = true) : ∀ {ws : List W} {vs : List V}, Rws N M ρ ws vs → Rws N M (pickA ρ ls) (ws.map (ren ls)) vs
  | [], _, h => h
  | _ :: _, _, ⟨x, r, h1, h2, h3⟩ => ⟨x, r, h1, ren_ok hl h2, rens_ok hl h3⟩
theorem renO_ok {ls : List Nat} (hl : lsOk ls ρ.length = true) {o : Ob} {a : Addr} (h : RO N M ρ H o a) : RO N M (pickA ρ ls) H (renO ls o) a := by
  cases o with
  | ins C fs =>
    obtain ⟨hm, dx, fxs, h1, h2, h3⟩ := h
    refine ⟨hm, dx, fxs, h1, ?_, ?_⟩
    · rw [h2, List.map_map]; rfl
    · have := rens_ok hl h3
      rw [List.map_map] at this ⊢
      exact this
  | lsW ws => obtain ⟨hm, xs, h1, h2⟩ := h; exact ⟨hm, xs, h1, rens_ok hl h2⟩
  | dcW ks ws => obtain ⟨hm, xs, h1, h2, h3⟩ := h; exact ⟨hm, xs, h1, h2, rens_ok hl h3⟩
  | _ => exact h
theorem subS_get (st : Sto) (ls0 : List Nat) : ∀ (ls : List Nat) (j : Nat), (subS st ls0 ls)[j]? = ls[j]?.map fun n => match st[n]? with
    | some o => renO ls0 o
    | none => .gone
  | [], j => by simp [subS]
  | n :: r, 0 => by simp [subS]
  | n :: r, j + 1 => by simpa [subS] using subS_get st ls0 r j
theorem subS_len (st : Sto) (ls0 : List Nat) : ∀ ls : List Nat, (subS st ls0 ls).length = ls.length
  | [] => rfl
  | n :: r => by simp [subS, subS_len st ls0 r]
theorem nodup_addN : ∀ (r l : List Nat), l.Nodup → (addN l r).Nodup
  | [], l, h => h
  | n :: r, l, h => by
    unfold addN
    cases z : idx n l with
    | some j => exact nodup_addN r l h
    | none =>
      refine nodup_addN r _ ?_
      rw [List.nodup_append]
      refine ⟨h, by simp, fun a ha b hb e => ?_⟩
      rw [List.mem_singleton] at hb
      subst hb
      subst e
      exact idx_none z ha
theorem nodup_reach (st : Sto) (ws : List W) : (reach st ws).Nodup := by
  unfold reach
  split
  · exact List.nodup_nil
  · exact nodup_addN _ _ (nodup_addN _ _ (nodup_addN _ _ (nodup_addN _ _ List.nodup_nil)))
theorem nodup_get : ∀ {ls : List Nat} {i j n : Nat}, ls.Nodup → ls[i]? = some n → ls[j]? = some n → i = j := by
  intro ls i j n h h1 h2
  have hi := (List.getElem?_eq_some_iff.mp h1)
  have hj := (List.getElem?_eq_some_iff.mp h2)
  obtain ⟨a, ha⟩ := hi
  obtain ⟨b, hb⟩ := hj
  exact (List.getElem_inj h).mp (ha.trans hb.symm)
theorem Rep.pick {ls : List Nat} (r : Rep N M ρ st H) (hl : lsOk ls st.length = true) (nd : ls.Nodup) : Rep N M (pickA ρ ls) (subS st ls ls) H := by
  rw [← r.len] at hl
  refine ⟨r.sub, by rw [subS_len]; simp [pickA], fun i j a h1 h2 => ?_, fun i a o h1 h2 => ?_⟩
  · have hi : i < ls.length := by have := (List.getElem?_eq_some_iff.mp h1).1; simpa [pickA] using this
    have hj : j < ls.length := by have := (List.getElem?_eq_some_iff.mp h2).1; simpa [pickA] using this
    have e1 : ls[i]? = some ls[i] := by simp [hi]
    have e2 : ls[j]? = some ls[j] := by simp [hj]
    rw [(pick_get hl e1).1] at h1
    rw [(pick_get hl e2).1] at h2
    have := r.inj _ _ _ h1 h2
    exact nodup_get nd e1 (by rw [this]; exact e2)
  · have hi : i < ls.length := by have := (List.getElem?_eq_some_iff.mp h1).1; simpa [pickA] using this
    have e1 : ls[i]? = some ls[i] := by simp [hi]
    rw [(pick_get hl e1).1] at h1
    rw [subS_get, e1] at h2
    obtain ⟨o', h3, h4⟩ := r.at_ h1
    simp only [Option.map_some, h3, Option.some.injEq] at h2
    subst h2
    exact renO_ok hl h4
theorem backO_get (ls : List Nat) (n0 : Nat) (st2 : Sto) : ∀ (st : Sto) (i k : Nat), (backO ls n0 st2 i st)[k]? = st[k]?.map fun o => match idx (i + k) ls with
    | some j => (match st2[j]? with
      | some o2 => unO ls n0 o2
      | none => .gone)
    | none => o
  | [], i, k => by simp [backO]
  | o :: r, i, 0 => by simp [backO]
  | o :: r, i, k + 1 => by
    have := backO_get ls n0 st2 r (i + 1) k
    rw [show i + 1 + k = i + (k + 1) by omega] at this
    simpa [backO] using this
theorem backO_len (ls : List Nat) (n0 : Nat) (st2 : Sto) : ∀ (st : Sto) (i : Nat), (backO ls n0 st2 i st).length = st.length
  | [], i => rfl
  | o :: r, i => by simp [backO, backO_len ls n0 st2 r (i + 1)]
theorem back_eq (ls : List Nat) (st st2 : Sto) : back ls st st2 = backO ls st.length st2 0 st ++ (st2.drop ls.length).map (unO ls st.length) := by
  unfold back
  split
  · have : ∀ (s : Sto) (i : Nat), backO [] st.length [] i s = s := by
      intro s
      induction s with
      | nil => intro i; rfl
      | cons o r ih => intro i; simp [backO, idx, ih]
    rw [this]
    simp
  · rfl
theorem Rep.back {ls : List Nat} {st2 : Sto} {ρc : List Addr} (r : Rep N M ρ st H) (hl : lsOk ls st.length = true) (nd : ls.Nodup) (e : Ext M (pickA ρ ls) H M' ρc H') (r2 : Rep N M' ρc st2 H') :
    ∃ ρ', Ext M ρ H M' ρ' H' ∧ Rep N M' ρ' (Dl.back ls st st2) H' ∧ ∀ w v, Rw N M' ρc w v → Rw N M' ρ' (unW ls st.length w) v := by
  have hl' := hl
  rw [← r.len] at hl
  obtain ⟨mm, ⟨q, rfl⟩, fr, nw, rn⟩ := e
  have sub : ∀ a ∈ pickA ρ ls, a ∈ ρ := fun a ha => by
    obtain ⟨j, hj⟩ := List.getElem?_of_mem ha
    have hi : j < ls.length := by have := (List.getElem?_eq_some_iff.mp hj).1; simpa [pickA] using this
    have e1 : ls[j]? = some ls[j] := by simp [hi]
    rw [(pick_get hl e1).1] at hj
    exact List.mem_of_getElem? hj
  have plen : (pickA ρ ls).length = ls.length := by simp [pickA]
  have newq : ∀ (i : Nat) a, q[i]? = some a → H a = none := fun i a ha => by
    rcases rn a (List.mem_append_right _ (List.mem_of_getElem? ha)) with h | h
    · obtain ⟨j, hj⟩ := List.getElem?_of_mem h
      have hj' := (List.getElem?_eq_some_iff.mp hj).1
      have h1 : (pickA ρ ls ++ q)[j]? = some a := by rw [List.getElem?_append_left hj']; exact hj
      have h2 : (pickA ρ ls ++ q)[(pickA ρ ls).length + i]? = some a := by rw [List.getElem?_append_right (by omega)]; simpa using ha
      have := r2.inj _ _ _ h1 h2
      omega
    · exact h
  have hun : ∀ w v, Rw N M' (pickA ρ ls ++ q) w v → Rw N M' (ρ ++ q) (unW ls st.length w) v := fun w v h => by
    cases w with
    | im d => exact h
    | dead => exact h
    | loc j =>
      obtain ⟨a, ha, rfl⟩ := h
      cases z : ls[j]? with
      | some n =>
        simp only [unW, z]
        have hj := (List.getElem?_eq_some_iff.mp z).1
        rw [List.getElem?_append_left (by omega), (pick_get hl z).1] at ha
        exact ⟨a, by rw [List.getElem?_append_left (List.getElem?_eq_some_iff.mp ha).1]; exact ha, rfl⟩
      | none =>
        simp only [unW, z]
        have hj : ls.length ≤ j := List.getElem?_eq_none_iff.mp z
        rw [List.getElem?_append_right (by omega), plen] at ha
        exact ⟨a, by rw [← r.len, List.getElem?_append_right (by omega)]; simpa using ha, rfl⟩
  have hunO : ∀ o a, RO N M' (pickA ρ ls ++ q) H' o a → RO N M' (ρ ++ q) H' (unO ls st.length o) a := fun o a h => by
    have go : ∀ (ws : List W) (vs : List V), Rws N M' (pickA ρ ls ++ q) ws vs → Rws N M' (ρ ++ q) (ws.map (unW ls st.length)) vs := by
      intro ws
      induction ws with
      | nil => intro vs h; exact h
      | cons w ws ih =>
        rintro vs ⟨x, r, h1, h2, h3⟩
        exact ⟨x, r, h1, hun _ _ h2, ih _ h3⟩
    cases o with
    | ins C fs =>
      obtain ⟨hm, dx, fxs, h1, h2, h3⟩ := h
      refine ⟨hm, dx, fxs, h1, by rw [h2, List.map_map]; rfl, ?_⟩
      have := go _ _ h3
      rw [List.map_map] at this ⊢
      exact this
    | lsW ws => obtain ⟨hm, xs, h1, h2⟩ := h; exact ⟨hm, xs, h1, go _ _ h2⟩
    | dcW ks ws => obtain ⟨hm, xs, h1, h2, h3⟩ := h; exact ⟨hm, xs, h1, h2, go _ _ h3⟩
    | _ => exact h
  refine ⟨ρ ++ q, ⟨mm, ⟨q, rfl⟩, fun b o h1 h2 => fr b o h1 fun z => h2 (sub b z), fun a h => ?_, fun a h => ?_⟩, ?_, hun⟩
  · rcases nw a h with h | h | h
    · exact .inl h
    · exact .inr (.inl h)
    · exact .inr (.inr (sub a h))
  · rcases List.mem_append.mp h with h | h
    · exact .inl h
    · obtain ⟨i, hi⟩ := List.getElem?_of_mem h
      exact .inr (newq i a hi)
  · have len2 : st2.length = ls.length + q.length := by rw [← r2.len, List.length_append, plen]
    refine ⟨r2.sub, ?_, fun i j a h1 h2 => ?_, fun i a o h1 h2 => ?_⟩
    · rw [back_eq, List.length_append, List.length_append, backO_len, List.length_map, List.length_drop, r.len, len2]
      omega
    · by_cases hi : i < ρ.length <;> by_cases hj : j < ρ.length
      · rw [List.getElem?_append_left hi] at h1
        rw [List.getElem?_append_left hj] at h2
        exact r.inj _ _ _ h1 h2
      · rw [List.getElem?_append_left hi] at h1
        rw [List.getElem?_append_right (by omega)] at h2
        exact absurd (newq _ _ h2) (r.mem (List.mem_of_getElem? h1))
      · rw [List.getElem?_append_right (by omega)] at h1
        rw [List.getElem?_append_left hj] at h2
        exact absurd (newq _ _ h1) (r.mem (List.mem_of_getElem? h2))
      · rw [List.getElem?_append_right (by omega)] at h1 h2
        have g1 : (pickA ρ ls ++ q)[(pickA ρ ls).length + (i - ρ.length)]? = some a := by rw [List.getElem?_append_right (by omega)]; simpa using h1
        have g2 : (pickA ρ ls ++ q)[(pickA ρ ls).length + (j - ρ.length)]? = some a := by rw [List.getElem?_append_right (by omega)]; simpa using h2
        have := r2.inj _ _ _ g1 g2
        omega
    · rw [back_eq] at h2
      by_cases hi : i < ρ.length
      · rw [List.getElem?_append_left hi] at h1
        rw [List.getElem?_append_left (by rw [backO_len, ← r.len]; exact hi), backO_get, Nat.zero_add] at h2
        obtain ⟨o0, h3, h4⟩ := r.at_ h1
        rw [h3, Option.map_some] at h2
        cases z : idx i ls with
        | some j =>
          simp only [z] at h2
          have hj := idx_get z
          have hjl := (List.getElem?_eq_some_iff.mp hj).1
          have g1 : (pickA ρ ls ++ q)[j]? = some a := by
            rw [List.getElem?_append_left (by omega), (pick_get hl hj).1]
            exact h1
          obtain ⟨o2, h5, h6⟩ := r2.at_ g1
          simp only [h5, Option.some.injEq] at h2
          subst h2
          exact hunO _ _ h6
        | none =>
          simp only [z, Option.some.injEq] at h2
          subst h2
          have hna : a ∉ pickA ρ ls := fun w => by
            obtain ⟨j, hj⟩ := List.getElem?_of_mem w
            have hjl : j < ls.length := by have := (List.getElem?_eq_some_iff.mp hj).1; simpa [pickA] using this
            have e1 : ls[j]? = some ls[j] := by simp [hjl]
            rw [(pick_get hl e1).1] at hj
            have := r.inj _ _ _ h1 hj
            exact idx_none z (by rw [this]; exact List.getElem_mem hjl)
          refine h4.mono mm ⟨q, rfl⟩ (fun hm => ?_) fun u hu => fr a u hu hna
          cases hz : M' a with
          | none => rfl
          | some u =>
            rcases nw a (by rw [hz]; exact fun w => nomatch w) with w | w | w
            · exact absurd hm w
            · exact absurd w h4.there
            · exact absurd w hna
      · rw [List.getElem?_append_right (by omega)] at h1
        rw [List.getElem?_append_right (by rw [backO_len, ← r.len]; omega), backO_len, List.getElem?_map, List.getElem?_drop] at h2
        have g1 : (pickA ρ ls ++ q)[ls.length + (i - ρ.length)]? = some a := by rw [List.getElem?_append_right (by omega), plen]; simpa using h1
        obtain ⟨o2, h5, h6⟩ := r2.at_ g1
        rw [show i - st.length = i - ρ.length by rw [r.len], h5, Option.map_some, Option.some.injEq] at h2
        subst h2
        exact hunO _ _ h6
end
end Dl
end

section
set_option maxHeartbeats 4000000
namespace Dl
open PySem PySem.Spec PyProof.Rows L2 Co
section
variable {X : Cx} {b : Bool} {Wx : WX} {e e1 e2 e3 : Expr} {es : List Expr} {pos p apos : Pos} {N : Kn} {x m : Str} {k : Nat} {f C : Addr} {ps : List Str} {pf : Pf} {M H M' H' : Hp} {ρ ρ' : List Addr} {σ : Sl} {st : Sto} {σV : L2.St} {ex : DX}
theorem callD_ok {ls : List Nat} {ws : List W} {vs : List V} {kd : W → Sto → Prop} {Q : VK} (nd : ls.Nodup) (c : Kx N Wx M ρ σ st H σV ex) (h : callD pf ls ws st kd ex) (r : Rws N M ρ ws vs)
    (q : ∀ w st', kd w st' → ∀ v M' ρ' H', Ext M ρ H M' ρ' H' → Kx N Wx M' ρ' σ st' H' σV ex → Rw N M' ρ' w v → Q v H') : spD N pf vs H Q (WE Wx σV) := by
  obtain ⟨hl, hf⟩ := h
  have hl2 := hl
  rw [← c.rep.len] at hl2
  refine ⟨M, pickA ρ ls, ws.map (ren ls), subS st ls ls, _, _, c.rep.pick hl nd, rens_ok hl2 r, hf, fun w st2 hk v M2 ρ2 H2 e2 r2 rv => ?_, fun c' fs st2 hk o M2 ρ2 H2 e2 r2 eo => ?_⟩
  · obtain ⟨ρ', E', R', un⟩ := c.rep.back hl nd e2 r2
    exact q _ _ hk v M2 ρ' H2 E' (c.step E' R') (un _ _ rv)
  · obtain ⟨ρ', E', R', _⟩ := c.rep.back hl nd e2 r2
    exact c.xl _ _ _ hk o M2 ρ' H2 E' R' eo
theorem e_call {ta : DA} (d : Def X.prog X.w X.K X.mg X.base k f ps (spD N pf)) (hr : Room k X.A) (hg : Gl X x) (hm : X.mg x = some (.ref f)) (tk : ∀ σ, PassesAt (L2.CX X.prog X.w) X σ (WE Wx σ)) (ha : PA X (e :: es) (lA N Wx ta)) (hdb : (x == ("__debug__" : Str)) = false := by decide)
    (he : starEach (e :: es) X.env = (false, eval e X.env) :: starEach es X.env := by rfl) (hpl : (backTo pos (starEach es X.env)).any (·.1) = false := by rfl) : PE X (.Call (.Name x p) (e :: es) [] pos) (lW N Wx (dCall pf ta)) := PE.imp (e_callS d hr hg hm tk ha hdb he hpl) fun σV H Q h => by
  obtain ⟨M, ρ, σ, st, k, ex, c, ht, q⟩ := Kx.open_ h
  exact Lf.of c ht fun ws st' hk vs M1 ρ1 H1 E1 c1 r1 => callD_ok (nodup_reach _ _) c1 hk r1 fun w st2 hk2 v M2 ρ2 H2 E2 c2 r2 => q _ _ hk2 v M2 ρ2 H2 (E1.trans E2) c2 r2
theorem getK_none {M : Hp} : ∀ {fs : List (Str × V)} {ds : List D} {f : Str}, Rps N M ds (fs.map (·.2)) → getK (fs.map (·.1)) ds f = none → fs.lookup f = none
  | [], _, _, _, _ => rfl
  | (a, v) :: fs, [], f, h, e => by have := h.length; simp at this
  | (a, v) :: fs, d' :: ds, f, ⟨x, r, h1, h2, h3⟩, e => by
    cases h1
    by_cases z : a = f
    · simp only [List.map_cons, getK, if_pos z] at e; cases e
    · simp only [List.map_cons, getK, if_neg z] at e
      rw [List.lookup_cons, show (f == a) = false from beq_eq_false_iff_ne.mpr fun w => z w.symm]
      exact getK_none h3 e
theorem lookup_none : ∀ {fs : List (Str × V)} {gs : List (Str × W)} {f : Str}, fs.map (·.1) = gs.map (·.1) → gs.lookup f = none → fs.lookup f = none
  | [], [], _, _, _ => rfl
  | [], _ :: _, _, e, _ => by cases e
  | _ :: _, [], _, e, _ => by cases e
  | (a, v) :: fs, (a', w) :: gs, f, e0, e => by
    rw [List.map_cons, List.map_cons, List.cons.injEq] at e0
    obtain ⟨e1, e2⟩ := e0
    have e1 : a = a' := e1
    subst e1
    rw [List.lookup_cons] at e ⊢
    cases z : f == a with
    | true => rw [z] at e; cases e
    | false => rw [z] at e; exact lookup_none e2 e
theorem cls_ok {C m : Str} {o : W} {u : V} (r : Rep N M ρ st H) (h : clsW C m o st) (ro : Rw N M ρ o u) : ∃ a dx fs, u = .ref a ∧ H a = some (.ins (He.ga N.K C) dx fs) ∧ fs.lookup m = none := by
  have im : ∀ {C' : Str} {ns : List Str} {ds : List D} {v : V}, Rp N M (.ins C' ns ds) v → (C' = C ∧ getK ns ds m = none) → ∃ a dx fs, v = .ref a ∧ H a = some (.ins (He.ga N.K C) dx fs) ∧ fs.lookup m = none := by
    rintro C' ns ds v ⟨p, dx, fs, rfl, h1, h2, h3⟩ ⟨rfl, h4⟩
    subst h2
    exact ⟨p, dx, fs, rfl, r.sub.ins h1, getK_none h3 h4⟩
  cases o with
  | dead => exact False.elim h
  | im d => cases d <;> try exact False.elim h
            exact im ro h
  | loc n =>
    obtain ⟨a, ha, rfl⟩ := ro
    cases ho : st[n]? with
    | none => simp only [clsW, ho] at h
    | some ob =>
      simp only [clsW, ho] at h
      have q := r.ob n a _ ha ho
      cases ob <;> try exact False.elim h
      · rename_i C' fs
        obtain ⟨rfl, h⟩ := h
        obtain ⟨hm, dx, fxs, h1, h2, h3⟩ := q
        exact ⟨a, dx, fxs, rfl, h1, lookup_none h2 h⟩
      · rename_i d
        cases d <;> try exact False.elim h
        exact im q.1 h
end
def trW (n0 : Nat) : W → W
  | .loc n => if n < n0 then .loc n else .dead
  | w => w
def trO (n0 : Nat) : Ob → Ob
  | .ins C fs => .ins C (fs.map fun p => (p.1, trW n0 p.2))
  | .lsW ws => .lsW (ws.map (trW n0))
  | .dcW ks ws => .dcW ks (ws.map (trW n0))
  | o => o
def trS (n0 : Nat) (st : Sto) : Sto := (st.take n0).map (trO n0)
def fin (kp : Bool) (n0 : Nat) (k : W → Sto → Prop) (w : W) (st : Sto) : Prop := match kp with
  | true => k w st
  | false => match w with
    | .im d => k (.im d) (trS n0 st)
    | .loc n => if n < n0 then k (.loc n) (trS n0 st) else (match toD (.loc n) st with
      | some (d, st') => k (.im d) (trS n0 st')
      | none => False)
    | .dead => False
def EnD (kp : Bool) (n0 : Nat) (k : W → Sto → Prop) (ex : DX) : En :=
  { nx := fun _ st => fin kp n0 k (.im .non) st, rt := fun w st => fin kp n0 k w st, ex := fun c fs _ st => match kp with
    | true => ex c fs st
    | false => ex c fs (trS n0 st) }
def startD (N : List Str) (ws : List W) : Sl := ws.map some ++ List.replicate (N.length - ws.length) none
section
variable {N : Kn} {M H M' H' : Hp} {ρ ρ' : List Addr} {st : Sto}
theorem trW_ok {n0 : Nat} {w : W} {v : V} (h : Rw N M ρ w v) : Rw N M (ρ.take n0) (trW n0 w) v := by
  cases w with
  | im d => exact h
  | dead => exact h
  | loc n =>
    obtain ⟨a, ha, rfl⟩ := h
    by_cases z : n < n0
    · simp only [trW, if_pos z]
      exact ⟨a, by rw [List.getElem?_take_of_lt z]; exact ha, rfl⟩
    · simp only [trW, if_neg z]; trivial
theorem trWs_ok {n0 : Nat} : ∀ {ws : List W} {vs : List V}, Rws N M ρ ws vs → Rws N M (ρ.take n0) (ws.map (trW n0)) vs
  | [], _, h => h
  | _ :: _, _, ⟨x, r, h1, h2, h3⟩ => ⟨x, r, h1, trW_ok h2, trWs_ok h3⟩
theorem Rep.tr (r : Rep N M ρ st H) (n0 : Nat) : Rep N M (ρ.take n0) (trS n0 st) H := by
  refine ⟨r.sub, by simp [trS, r.len], fun i j a h1 h2 => ?_, fun i a o h1 h2 => ?_⟩
  · have hi := (List.getElem?_eq_some_iff.mp h1).1
    have hj := (List.getElem?_eq_some_iff.mp h2).1
    rw [List.length_take] at hi hj
    rw [List.getElem?_take_of_lt (by omega)] at h1 h2
    exact r.inj _ _ _ h1 h2
  · have hi := (List.getElem?_eq_some_iff.mp h1).1
    rw [List.length_take] at hi
    rw [List.getElem?_take_of_lt (by omega)] at h1
    unfold trS at h2
    rw [List.getElem?_map, List.getElem?_take_of_lt (by omega)] at h2
    obtain ⟨o', h3, h4⟩ := r.at_ h1
    rw [h3, Option.map_some, Option.some.injEq] at h2
    subst h2
    cases o' with
    | ins C fs =>
      obtain ⟨hm, dx, fxs, g1, g2, g3⟩ := h4
      refine ⟨hm, dx, fxs, g1, by rw [g2, List.map_map]; rfl, ?_⟩
      have := trWs_ok (n0 := n0) g3
      rw [List.map_map] at this ⊢
      exact this
    | lsW ws => obtain ⟨hm, xs, g1, g2⟩ := h4; exact ⟨hm, xs, g1, trWs_ok (n0 := n0) g2⟩
    | dcW ks ws => obtain ⟨hm, xs, g1, g2, g3⟩ := h4; exact ⟨hm, xs, g1, g2, trWs_ok (n0 := n0) g3⟩
    | _ => exact h4
theorem Ext.tr (e : Ext M ρ H M' ρ' H') : Ext M ρ H M' (ρ'.take ρ.length) H' := by
  have : ρ'.take ρ.length = ρ := by
    obtain ⟨r, rfl⟩ := e.pre
    simp
  rw [this]
  exact ⟨e.mm, Pre.refl _, e.fr, e.nw, fun a h => .inl h⟩
theorem Rs.start {Nm : List Str} {ws : List W} {vs : List V} (h : Rws N M ρ ws vs) : Rs N M ρ (startD Nm ws) (L2.start Nm vs) := by
  have hl := Rws.length h
  refine ⟨by simp [startD, L2.start, hl], fun i w e => ?_⟩
  unfold startD at e
  unfold L2.start
  by_cases z : i < ws.length
  · rw [List.getElem?_append_left (by simpa using z), List.getElem?_map] at e
    rw [List.getElem?_append_left (by simpa [hl] using z), List.getElem?_map]
    cases z2 : ws[i]? with
    | none => rw [z2] at e; cases e
    | some w' =>
      rw [z2] at e
      cases e
      obtain ⟨v, h1, h2⟩ := Rws.get h z2
      exact ⟨v, by rw [h1]; rfl, h2⟩
  · rw [List.getElem?_append_right (by simpa using z), List.getElem?_replicate] at e
    split at e <;> cases e
theorem fin_ok {kp : Bool} {k : W → Sto → Prop} {w : W} {st' : Sto} {v : V} {Q : VK} (hρ : ρ.length = st.length) (h : fin kp st.length k w st') (e : Ext M ρ H M' ρ' H') (r : Rep N M' ρ' st' H') (rw : Rw N M' ρ' w v)
    (q : ∀ w st', k w st' → ∀ v M' ρ' H', Ext M ρ H M' ρ' H' → Rep N M' ρ' st' H' → Rw N M' ρ' w v → Q v H') : Q v H' := by
  cases kp with
  | true => exact q _ _ h v M' ρ' H' e r rw
  | false =>
    have R := r.tr st.length
    have E := e.tr
    rw [hρ] at E
    cases w with
    | dead => exact False.elim h
    | im d => exact q _ _ (show k (.im d) (trS st.length st') from h) v M' _ H' E R rw
    | loc n =>
      have h : (if n < st.length then k (.loc n) (trS st.length st') else (match toD (.loc n) st' with
      | some (d, st2) => k (.im d) (trS st.length st2)
      | none => False)) := h
      split at h
      · rename_i hn
        refine q _ _ h v M' _ H' E R ?_
        obtain ⟨a, ha, rfl⟩ := rw
        exact ⟨a, by rw [List.getElem?_take_of_lt hn]; exact ha, rfl⟩
      · cases hz : toD (.loc n) st' with
        | none => rw [hz] at h; exact False.elim h
        | some p =>
          obtain ⟨d, st2⟩ := p
          rw [hz] at h
          obtain ⟨M2, E2, R2, r2⟩ := toD_ok r hz rw
          have E3 := (e.trans E2).tr
          rw [hρ] at E3
          exact q _ _ h v M2 _ H' E3 (R2.tr st.length) r2
theorem body_ok {Nm : List Str} {pf : Pf} {t : DS} {kp : Bool} {vs : List V} {Q : VK} {E : XK} (hr : ∀ ws st k ex, pf ws st k ex → t (EnD kp st.length k ex) (startD Nm ws) st) (h : spD N pf vs H Q E) :
    lS N (fun cls d _ H => E cls d H) t { nx := fun _ H' => Q .non H', rt := Q } (start Nm vs) H := by
  obtain ⟨M, ρ, ws, st, k, ex, r, rw, hf, hk, hx⟩ := h
  refine ⟨M, ρ, startD Nm ws, st, _, r, Rs.start rw, hr _ _ _ _ hf, ⟨fun σ' st' h M' ρ' H' σV' e r' s' => fin_ok r.len h e r' (show Rw N M' ρ' (.im .non) .non from rfl) hk, fun w st' h v M' ρ' H' e r' rv => fin_ok r.len h e r' rv hk, fun c fs σ' st' h o M' ρ' H' σV' e r' s' eo => ?_, fun _ _ h => False.elim h, fun _ _ h => False.elim h⟩⟩
  cases kp with
  | true => exact hx _ _ _ h o M' ρ' H' e r' eo
  | false =>
    have E := e.tr
    rw [r.len] at E
    exact hx _ _ _ h o M' _ H' E (r'.tr st.length) eo
theorem spD_len {pf : Pf} {n : Nat} (h : ∀ ws st k ex, pf ws st k ex → ws.length = n) : ∀ vs H Q E, spD N pf vs H Q E → vs.length = n := fun vs H Q E q => by
  obtain ⟨M, ρ, ws, st, k, ex, r, rw, hf, _⟩ := q
  rw [Rws.length rw]
  exact h _ _ _ _ hf
end
end Dl
end

section
set_option maxHeartbeats 4000000
namespace Dl
open PySem PySem.Spec PyProof.Rows L2 Co
abbrev DG := D → Sl → (Sl → Prop) → Prop
def gN (i : Nat) : DG := fun d σ k => k (σ.set i (some (.im d)))
def gAll : List DG → List D → Sl → (Sl → Prop) → Prop
  | [], [], σ, k => k σ
  | g :: gs, d :: ds, σ, k => g d σ fun σ' => gAll gs ds σ' k
  | _, _, _, _ => False
def gT (gs : List DG) : DG := fun d σ k => match d with
  | .tup ds => ds.length = gs.length ∧ gAll gs ds σ k
  | _ => False
structure GOk (N : Kn) (vs : List Nat) (g : DG) (gV : TG) : Prop where
  ok : ∀ {d : D} {v : V} {M H : Hp} {ρ : List Addr} {σ : Sl} {σV : L2.St} {k : Sl → Prop} {Q : L2.St → Hp → Prop}, Rp N M d v → Sub M H → Rs N M ρ σ σV → g d σ k → (∀ σ', k σ' → ∀ σV', Rs N M ρ σ' σV' → wipe σV' vs = wipe σV vs → Q σV' H) → gV v σV H Q
structure GsOk (N : Kn) (vs : List Nat) (gs : List DG) (gV : TGs) : Prop where
  ok : ∀ {ds : List D} {us : List V} {M H : Hp} {ρ : List Addr} {σ : Sl} {σV : L2.St} {k : Sl → Prop} {Q : L2.St → Hp → Prop}, Rps N M ds us → Sub M H → Rs N M ρ σ σV → gAll gs ds σ k → (∀ σ', k σ' → ∀ σV', Rs N M ρ σ' σV' → wipe σV' vs = wipe σV vs → Q σV' H) → gV us σV H Q
theorem wipe_get {σ : L2.St} {j : Nat} : ∀ {vs : List Nat}, j ∈ vs → j < σ.length → (wipe σ vs)[j]? = some none
  | [], h, _ => by cases h
  | v :: vs, h, hj => by
    unfold wipe
    by_cases z : v = j
    · subst z
      rw [List.getElem?_set_self (by rw [wipe_length]; exact hj)]
    · rw [List.getElem?_set_ne z]
      exact wipe_get ((List.mem_cons.mp h).elim (fun w => absurd w.symm z) fun w => w) hj
theorem wipe_set {σ : L2.St} {i : Nat} {o : Option V} {vs : List Nat} (h : i ∈ vs) : wipe (σ.set i o) vs = wipe σ vs := by
  apply List.ext_getElem?
  intro j
  by_cases z : j ∈ vs
  · by_cases hj : j < σ.length
    · rw [wipe_get z hj, wipe_get z (by rw [List.length_set]; exact hj)]
    · rw [List.getElem?_eq_none (by rw [wipe_length, List.length_set]; omega), List.getElem?_eq_none (by rw [wipe_length]; omega)]
  · rw [wipe_out z, wipe_out z, List.getElem?_set_ne (fun w => z (by rw [← w]; exact h))]
theorem wipe_wipe {σ : L2.St} {vs : List Nat} : wipe (wipe σ vs) vs = wipe σ vs := by
  apply List.ext_getElem?
  intro j
  by_cases z : j ∈ vs
  · by_cases hj : j < σ.length
    · rw [wipe_get z hj, wipe_get z (by rw [wipe_length]; exact hj)]
    · rw [List.getElem?_eq_none (by rw [wipe_length, wipe_length]; omega), List.getElem?_eq_none (by rw [wipe_length]; omega)]
  · rw [wipe_out z]
theorem gok_name {N : Kn} {i : Nat} {vs : List Nat} (h : i ∈ vs) : GOk N vs (gN i) (gName i) := ⟨fun r _ rs h1 q => q _ h1 _ (rs.set (w := .im _) r i) (wipe_set h)⟩
structure GoD (N : Kn) (J : It) (M0 : Hp) (ds : List D) : Prop where
  stop : ∀ (i : Nat) (M H : Hp), Same M0 M → Sub M H → ds.length ≤ i → J.stop i H
  go : ∀ (i : Nat) (M H : Hp), Same M0 M → Sub M H → i < ds.length → J.go i H
  yld : ∀ (i : Nat) (M H : Hp) (v : V) (H' : Hp), Same M0 M → Sub M H → i < ds.length → J.yld i H v H' → ∃ d, ds[i]? = some d ∧ ((H' = H ∧ Rp N M d v) ∨ ∃ T xs es, H T = none ∧ H' = upd H T (.tup xs) ∧ v = .ref T ∧ d = .tup es ∧ Rps N M es xs)
def lI (N : Kn) (Wx : WX) (t : Lv (List D)) : TI := fun σV H R => ∃ M ρ σ st k ex, Kx N Wx M ρ σ st H σV ex ∧ t σ st k ex ∧ ∀ ds st', k ds st' → ∀ J M' ρ' H', Ext M ρ H M' ρ' H' → Rep N M' ρ' st' H' → GoD N J M' ds → R J H'
section
variable {N : Kn} {Wx : WX} {M H : Hp} {ρ : List Addr} {σ : Sl} {st : Sto} {σV : L2.St} {ex : DX}
theorem lI.open_ {t : Lv (List D)} {R : It → Hp → Prop} (h : lI N Wx t σV H R) : ∃ M ρ σ st k ex, Kx N Wx M ρ σ st H σV ex ∧ t σ st k ex ∧ ∀ ds st', k ds st' → ∀ J M' ρ' H', Ext M ρ H M' ρ' H' → Rep N M' ρ' st' H' → GoD N J M' ds → R J H' := h
def iSq (t : DD) : Lv (List D) := fun σ st k ex => t σ st (fun d st1 => match d with
  | .tup ds => k ds st1
  | .lst ds => k ds st1
  | _ => False) ex
def chD (z : Str) : List D := z.cps.toList.map fun c => .str ⟨#[c]⟩
def iSt (t : DD) : Lv (List D) := fun σ st k ex => t σ st (fun d st1 => match d with
  | .str z => k (chD z) st1
  | _ => False) ex
def rgD (lo : Int) (n : Nat) : List D := (List.range n).map fun (i : Nat) => D.int (lo + (i : Int))
def iRg1 (t : DD) : Lv (List D) := fun σ st k ex => t σ st (fun d st1 => match d with
  | .int j => -(2 ^ 62) ≤ j ∧ j < 2 ^ 62 ∧ k (rgD 0 j.toNat) st1
  | _ => False) ex
def iRg2 (t u : DD) : Lv (List D) := fun σ st k ex => t σ st (fun d st1 => u σ st1 (fun d' st2 => match d, d' with
  | .int i, .int j => (-(2 ^ 62) ≤ i ∧ i < 2 ^ 62 ∧ -(2 ^ 62) ≤ j ∧ j < 2 ^ 62) ∧ k (rgD i (j - i).toNat) st2
  | _, _ => False) ex) ex
def enD : Nat → List D → List D
  | _, [] => []
  | i, d :: ds => .tup [.int (i : Int), d] :: enD (i + 1) ds
def iEn (t : DD) : Lv (List D) := fun σ st k ex => t σ st (fun d st1 => match d with
  | .tup ds => k (enD 0 ds) st1
  | .lst ds => k (enD 0 ds) st1
  | _ => False) ex
theorem lsts {M M' H : Hp} {a : Addr} {xs : List V} {K : PySem.W.Frag} (s : Same M M') (u : Sub M' H) (h : M a = some (.lst xs)) : SqL K H a xs := SqL.of (u.lst1 (s _ _ h))
theorem go_list {a : Addr} {xs : List V} {ds : List D} (h : M a = some (.lst xs)) (r : Rps N M ds xs) : GoD N (Itl N.K a) M ds where
  stop := fun i M' H s u hi => ⟨xs, lsts s u h, by rw [r.length]; exact hi⟩
  go := fun i M' H s u hi => ⟨xs, xs[i]'(by rw [r.length]; exact hi), lsts s u h, by simp [r.length, hi]⟩
  yld := fun i M' H v H' s u hi y => by
    obtain ⟨rfl, y⟩ := y
    obtain ⟨d, h1, h2⟩ := Rps.get2 r (y xs (lsts s u h))
    exact ⟨d, h1, .inl ⟨rfl, h2.mono s⟩⟩
theorem go_tup {a : Addr} {xs : List V} {ds : List D} (h : SqC N M a xs) (r : Rps N M ds xs) : GoD N (Itt N.K a) M ds where
  stop := fun i M' H s u hi => ⟨xs, u.tup (h.mono s), by rw [r.length]; exact hi⟩
  go := fun i M' H s u hi => ⟨xs, xs[i]'(by rw [r.length]; exact hi), u.tup (h.mono s), by simp [r.length, hi]⟩
  yld := fun i M' H v H' s u hi y => by
    obtain ⟨rfl, y⟩ := y
    obtain ⟨d, h1, h2⟩ := Rps.get2 r (y xs (u.tup (h.mono s)))
    exact ⟨d, h1, .inl ⟨rfl, h2.mono s⟩⟩
theorem go_str {z : Str} : GoD N (Its z) M (chD z) where
  stop := fun i M' H s u hi => by simpa [chD, Its] using hi
  go := fun i M' H s u hi => by simpa [chD, Its] using hi
  yld := fun i M' H v H' s u hi y => by
    obtain ⟨rfl, c, h1, rfl⟩ := y
    refine ⟨.str ⟨#[c]⟩, ?_, .inl ⟨rfl, rfl⟩⟩
    have : z.cps.toList[i]? = some c := by simpa using h1
    simp [chD, this]
theorem go_rng {lo : Int} {n : Nat} : GoD N (Itr lo n) M (rgD lo n) where
  stop := fun i M' H s u hi => by simpa [rgD, Itr] using hi
  go := fun i M' H s u hi => by simpa [rgD, Itr] using hi
  yld := fun i M' H v H' s u hi y => by
    obtain ⟨rfl, rfl⟩ := y
    have hi : i < n := by simpa [rgD] using hi
    exact ⟨.int (lo + i), by simp [rgD, hi], .inl ⟨rfl, rfl⟩⟩
theorem enD_get : ∀ (ds : List D) (j i : Nat), (enD j ds)[i]? = ds[i]?.map fun d => .tup [.int ((j + i : Nat) : Int), d]
  | [], j, i => by simp [enD]
  | d :: ds, j, 0 => by simp [enD]
  | d :: ds, j, i + 1 => by
    have := enD_get ds (j + 1) i
    rw [show j + 1 + i = j + (i + 1) by omega] at this
    simpa [enD] using this
theorem enD_len : ∀ (ds : List D) (j : Nat), (enD j ds).length = ds.length
  | [], j => rfl
  | d :: ds, j => by simp [enD, enD_len ds (j + 1)]
theorem go_en {a : Addr} {xs : List V} {ds : List D} (h : M a = some (.lst xs)) (r : Rps N M ds xs) : GoD N (Ite N.K a) M (enD 0 ds) where
  stop := fun i M' H s u hi => ⟨xs, lsts s u h, by rw [r.length]; rwa [enD_len] at hi⟩
  go := fun i M' H s u hi => by
    rw [enD_len] at hi
    exact ⟨xs, xs[i]'(by rw [r.length]; exact hi), lsts s u h, by simp [r.length, hi]⟩
  yld := fun i M' H v H' s u hi y => by
    obtain ⟨T, x, rfl, hT, rfl, y⟩ := y
    obtain ⟨d, h1, h2⟩ := Rps.get2 r (y xs (lsts s u h))
    exact ⟨.tup [.int (i : Int), d], by rw [enD_get, h1, Nat.zero_add]; rfl, .inr ⟨T, _, [.int (i : Int), d], hT, rfl, rfl, rfl, ⟨_, _, rfl, rfl, _, _, rfl, h2.mono s, rfl⟩⟩⟩
theorem go_enT {a : Addr} {xs : List V} {ds : List D} (h : SqC N M a xs) (r : Rps N M ds xs) : GoD N (IteT N.K a) M (enD 0 ds) where
  stop := fun i M' H s u hi => ⟨xs, u.tup (h.mono s), by rw [r.length]; rwa [enD_len] at hi⟩
  go := fun i M' H s u hi => by
    rw [enD_len] at hi
    exact ⟨xs, xs[i]'(by rw [r.length]; exact hi), u.tup (h.mono s), by simp [r.length, hi]⟩
  yld := fun i M' H v H' s u hi y => by
    obtain ⟨T, x, rfl, hT, rfl, y⟩ := y
    obtain ⟨d, h1, h2⟩ := Rps.get2 r (y xs (u.tup (h.mono s)))
    exact ⟨.tup [.int (i : Int), d], by rw [enD_get, h1, Nat.zero_add]; rfl, .inr ⟨T, _, [.int (i : Int), d], hT, rfl, rfl, rfl, ⟨_, _, rfl, rfl, _, _, rfl, h2.mono s, rfl⟩⟩⟩
end
section
variable {X : Cx} {b : Bool} {Wx : WX} {e e1 e2 e3 tg : Expr} {es : List Expr} {pos p tpos : Pos} {x : Str} {kk : Nat} {elts : List Expr}
theorem PI.imp {t t' : TI} (h : PI X tg e t) (i : ∀ σ H R, t' σ H R → t σ H R) : PI X tg e t' := ⟨fun pins s σ H R I q => h.run pins s σ H R I (i σ H R q)⟩
theorem i_sq {t : DD} (h : PE X e (lD (XN X b) Wx t)) : PI X tg e (lI (XN X b) Wx (iSq t)) := PI.imp (pi_seq h) fun σV H R q => by
  obtain ⟨M, ρ, σ, st, k, ex, c, ht, q⟩ := lI.open_ q
  refine Lf.of c ht fun d st' hk v M' ρ' H' E c' r => ?_
  cases d <;> try exact False.elim hk
  · obtain ⟨a, xs, rfl, h1, h2⟩ := r
    exact ⟨a, rfl, .inr ⟨⟨xs, c'.rep.sub.tup h1⟩, q _ _ hk _ M' ρ' H' E c'.rep (go_tup h1 h2)⟩⟩
  · obtain ⟨a, xs, rfl, h1, h2⟩ := r
    exact ⟨a, rfl, .inl ⟨⟨xs, SqL.of (c'.rep.sub.lst1 h1)⟩, q _ _ hk _ M' ρ' H' E c'.rep (go_list (N := XN X b) h1 h2)⟩⟩
variable {N : Kn}
theorem i_st {t : DD} (h : PE X e (lD N Wx t)) : PI X tg e (lI N Wx (iSt t)) := PI.imp (pi_str h) fun σV H R q => by
  obtain ⟨M, ρ, σ, st, k, ex, c, ht, q⟩ := lI.open_ q
  refine Lf.of c ht fun d st' hk v M' ρ' H' E c' r => ?_
  cases d <;> try exact False.elim hk
  cases r
  exact ⟨_, rfl, q _ _ hk _ M' ρ' H' E c'.rep go_str⟩
theorem i_rg1 {t : DD} (hg : Gl X "range") (hm : X.mg "range" = none) (h : PA X [e] (tCons (lD N Wx t) tNil)) (hs : starEach [e] X.env = [(false, eval e X.env)] := by rfl) : PI X tg (.Call (.Name "range" p) [e] [] pos) (lI N Wx (iRg1 t)) := PI.imp (pi_range1 hg hm h hs) fun σV H R q => by
  obtain ⟨M, ρ, σ, st, k, ex, c, ht, q⟩ := lI.open_ q
  refine Lf.of c ht fun d st' hk v M' ρ' H' E c' r => ?_
  cases d <;> try exact False.elim hk
  cases r
  exact ⟨_, rfl, hk.1, hk.2.1, q _ _ hk.2.2 _ M' ρ' H' E c'.rep go_rng⟩
theorem i_rg2 {t u : DD} (hg : Gl X "range") (hm : X.mg "range" = none) (h : PA X [e1, e2] (tCons (lD N Wx t) (tCons (lD N Wx u) tNil))) (hs : starEach [e1, e2] X.env = [(false, eval e1 X.env), (false, eval e2 X.env)] := by rfl) (hpl : starEach [e2] X.env = [(false, eval e2 X.env)] := by rfl) : PI X tg (.Call (.Name "range" p) [e1, e2] [] pos) (lI N Wx (iRg2 t u)) := PI.imp (pi_range2 hg hm h hs hpl) fun σV H R q => by
  obtain ⟨M, ρ, σ, st, k, ex, c, ht, q⟩ := lI.open_ q
  refine Lf.bin c ht fun d d' st' hk v v' M' ρ' H' E c' r r' => ?_
  cases d <;> cases d' <;> try exact False.elim hk
  cases r; cases r'
  exact ⟨_, _, rfl, hk.1, q _ _ hk.2 _ M' ρ' H' E c'.rep go_rng⟩
theorem i_en {t : DD} (hg : Gl X "enumerate") (hm : X.mg "enumerate" = none) (h : PA X [e] (tCons (lD (XN X b) Wx t) tNil)) (hs : starEach [e] X.env = [(false, eval e X.env)] := by rfl) : PI X (.Tuple elts kk tpos) (.Call (.Name "enumerate" p) [e] [] pos) (lI (XN X b) Wx (iEn t)) := PI.imp (pi_enumA hg hm h hs) fun σV H R q => by
  obtain ⟨M, ρ, σ, st, k, ex, c, ht, q⟩ := lI.open_ q
  refine Lf.of c ht fun d st' hk v M' ρ' H' E c' r => ?_
  cases d <;> try exact False.elim hk
  · obtain ⟨a, xs, rfl, h1, h2⟩ := r
    exact ⟨a, rfl, .inr ⟨⟨xs, c'.rep.sub.tup h1⟩, q _ _ hk _ M' ρ' H' E c'.rep (go_enT h1 h2)⟩⟩
  · obtain ⟨a, xs, rfl, h1, h2⟩ := r
    exact ⟨a, rfl, .inl ⟨⟨xs, SqL.of (c'.rep.sub.lst1 h1)⟩, q _ _ hk _ M' ρ' H' E c'.rep (go_en (N := XN X b) h1 h2)⟩⟩
end
end Dl
end

section
set_option maxHeartbeats 4000000
namespace Dl
open PySem PySem.Spec PyProof.Rows L2 Co
def trSl (n0 : Nat) (σ : Sl) : Sl := σ.map fun o => match o with
  | some (.loc n) => if n < n0 then some (.loc n) else none
  | o => o
def sFor (it : Lv (List D)) (g : DG) (tb : DS) : DS := fun E σ st => it σ st (fun ds st1 => ∃ I : Nat → Sl → Sto → Prop, I 0 σ st1 ∧
  (∀ (i : Nat) d σ' st', ds[i]? = some d → I i σ' st' → st'.length = st1.length → g d σ' fun σ2 => tb { E with nx := fun σ3 st3 => I (i + 1) (trSl st1.length σ3) (trS st1.length st3), ct := fun σ3 st3 => I (i + 1) (trSl st1.length σ3) (trS st1.length st3), bk := E.nx } σ2 st') ∧
  ∀ σ' st', I ds.length σ' st' → st'.length = st1.length → E.nx σ' st') (exE E σ)
def sAsgG (t : DD) (g : DG) : DS := fun E σ st => t σ st (fun d st1 => g d σ fun σ' => E.nx σ' st1) (exE E σ)
def wipeD (σ : Sl) : List Nat → Sl
  | [] => σ
  | v :: vs => (wipeD σ vs).set v none
def dYes : DT := fun _ st k _ => k true st
def exF : DX := fun _ _ _ => False
def lcB (ds : List D) (g : DG) (tt : DT) (te : DD) (vs : List Nat) (σ : Sl) (st : Sto) (k : List D → Sto → Prop) : Prop := ∃ I : Nat → List D → Sto → Prop, I 0 [] st ∧
  (∀ (i : Nat) d acc st', ds[i]? = some d → I i acc st' → st'.length = st.length → g d (wipeD σ vs) fun σ2 => tt σ2 st' (fun b st2 => two b (te σ2 st2 (fun y st3 => acc.length ≤ 1000000 ∧ I (i + 1) (acc ++ [y]) (trS st.length st3)) exF) (I (i + 1) acc (trS st.length st2))) exF) ∧
  ∀ acc st', I ds.length acc st' → st'.length = st.length → k acc st'
def dLc (it : Lv (List D)) (g : DG) (tt : DT) (te : DD) (vs : List Nat) : DD := fun σ st k ex => it σ st (fun ds st1 => lcB ds g tt te vs σ st1 fun acc st' => k (.lst acc) st') ex
abbrev W0 : WX := fun _ _ _ _ => False
section
variable {N : Kn} {Wx : WX} {M H M' H' : Hp} {ρ ρ' : List Addr} {σ : Sl} {st : Sto} {σV : L2.St} {ex : DX}
theorem trSl_ok {n0 : Nat} (h : Rs N M ρ σ σV) : Rs N M (ρ.take n0) (trSl n0 σ) σV := by
  refine ⟨by simp [trSl, h.1], fun i w e => ?_⟩
  unfold trSl at e
  rw [List.getElem?_map] at e
  cases z : σ[i]? with
  | none => rw [z] at e; cases e
  | some o =>
    rw [z, Option.map_some, Option.some.injEq] at e
    cases o with
    | none => cases e
    | some w' =>
      obtain ⟨v, h1, h2⟩ := h.2 i w' z
      refine ⟨v, h1, ?_⟩
      cases w' with
      | im d => cases e; exact h2
      | dead => cases e; exact h2
      | loc n =>
        simp only at e
        split at e
        · rename_i hn
          cases e
          obtain ⟨a, ha, rfl⟩ := h2
          exact ⟨a, by rw [List.getElem?_take_of_lt hn]; exact ha, rfl⟩
        · cases e
theorem GoD.item {J : It} {ds : List D} {M1 H1 : Hp} {ρ1 : List Addr} (g : GoD N J M ds) (e : Ext M ρ H M1 ρ1 H1) (r : Rep N M1 ρ1 st H1) {i : Nat} {v : V} {H2 : Hp} (hi : i < ds.length) (y : J.yld i H1 v H2) :
    ∃ d M2, ds[i]? = some d ∧ Ext M1 ρ1 H1 M2 ρ1 H2 ∧ Rep N M2 ρ1 st H2 ∧ Rp N M2 d v := by
  obtain ⟨d, h1, h2⟩ := g.yld i M1 H1 v H2 e.mm r.sub hi y
  rcases h2 with ⟨rfl, h2⟩ | ⟨T, xs, es, hT, rfl, rfl, rfl, h2⟩
  · exact ⟨d, M1, h1, Ext.refl, r, h2⟩
  · exact ⟨_, _, h1, Ext.new r.sub hT, r.new hT, ⟨T, xs, rfl, .inl upd_same, h2.ext (Ext.new (ρ := ρ1) (o := .tup xs) r.sub hT)⟩⟩
end
section
variable {X : Cx} {b : Bool} {Wx : WX} {e e1 e2 e3 tg : Expr} {pos : Pos} {N : Kn}
theorem Ext.cut {M H M' H' : Hp} {ρ ρ' : List Addr} {n : Nat} (e : Ext M ρ H M' ρ' H') (h : ρ.length = n) : Ext M ρ H M' ρ H' ∧ ρ'.take n = ρ := by
  subst h
  have := e.tr
  have e2 : ρ'.take ρ.length = ρ := by
    obtain ⟨r, rfl⟩ := e.pre
    simp
  rw [e2] at this
  exact ⟨this, e2⟩
theorem s_for {it : Lv (List D)} {vs : List Nat} {g : DG} {gV : TG} {tb : DS} {body : List Stmt} (g2 : GOk N vs g gV) (hp : PassesOwn (model X.prog X.w) X.A X.env X.xe) (hc : X.calm = true) (hi : PI X tg e (lI N Wx it)) (g1 : PG X tg gV) (hb : PSs X body (lS N Wx tb))
    (hs : ∀ x, foldedSetIterable e X.env x = pure x := by intro _; rfl) : PS X (.For tg e body [] pos) (lS N Wx (sFor it g tb)) := by
  refine PS.imp (ps_for hp hc hi g1 hb hs) fun D σV H h => ?_
  obtain ⟨M, ρ, σ, st, E, r, s, h, l⟩ := h
  refine ⟨M, ρ, σ, st, _, _, l.kx r s, h, fun ds st1 hk J M1 ρ1 H1 E1 r1 gd => ?_⟩
  obtain ⟨I, h0, hstep, hend⟩ := hk
  have l1 := l.step E1
  have hρ1 := r1.len
  refine ⟨fun i m σV' H' => m = ds.length - i ∧ i ≤ ds.length ∧ ∃ M' σ' st', Ext M1 ρ1 H1 M' ρ1 H' ∧ Rep N M' ρ1 st' H' ∧ Rs N M' ρ1 σ' σV' ∧ I i σ' st', ⟨ds.length, by simp, Nat.zero_le _, M1, σ, st1, Ext.refl, r1, s.ext E1, h0⟩, ?_⟩
  rintro i m σV' H' ⟨rfl, hi, M', σ', st', E', r', s', hI⟩
  have hlen : st'.length = st1.length := by rw [← r'.len, r1.len]
  by_cases hlt : i < ds.length
  · refine .inr ⟨gd.go i M' H' E'.mm r'.sub hlt, fun σV3 H3 => ∃ M3 σ3 st3, Ext M1 ρ1 H1 M3 ρ1 H3 ∧ Rep N M3 ρ1 st3 H3 ∧ Rs N M3 ρ1 σ3 σV3 ∧ I (i + 1) σ3 st3, fun σV3 H3 q => ⟨ds.length - (i + 1), by omega, rfl, hlt, q⟩, fun v H2 y => ?_⟩
    obtain ⟨d, M2, hd, E2, r2, rd⟩ := gd.item E' r' hlt y
    refine g2.ok rd r2.sub (s'.ext E2) (hstep i d σ' st' hd hI hlen) fun σ2 h2 σV2 s2 _ => ?_
    have E12 := E'.trans E2
    have l2 := l1.step E12
    have turn : ∀ σ3 st3, I (i + 1) (trSl st1.length σ3) (trS st1.length st3) → ∀ M3 ρ3 H3 σV3, Ext M2 ρ1 H2 M3 ρ3 H3 → Rep N M3 ρ3 st3 H3 → Rs N M3 ρ3 σ3 σV3 → ∃ M3 σ3 st3, Ext M1 ρ1 H1 M3 ρ1 H3 ∧ Rep N M3 ρ1 st3 H3 ∧ Rs N M3 ρ1 σ3 σV3 ∧ I (i + 1) σ3 st3 := fun σ3 st3 hI3 M3 ρ3 H3 σV3 E3 r3 s3 => by
      obtain ⟨E4, e4⟩ := (E12.trans E3).cut hρ1
      have q1 := r3.tr st1.length
      have q2 := trSl_ok (n0 := st1.length) s3
      rw [e4] at q1 q2
      exact ⟨M3, _, _, E4, q1, q2, hI3⟩
    exact lS.of (E := { E with nx := fun σ3 st3 => I (i + 1) (trSl st1.length σ3) (trS st1.length st3), ct := fun σ3 st3 => I (i + 1) (trSl st1.length σ3) (trS st1.length st3), bk := E.nx })
      ⟨turn, l2.rt, l2.ex, l2.nx, turn⟩ r2 s2 h2
  · have e : i = ds.length := by omega
    subst e
    exact .inl ⟨gd.stop _ M' H' E'.mm r'.sub (Nat.le_refl _), l1.nx _ _ (hend σ' st' hI hlen) M' ρ1 H' σV' E' r' s'⟩
theorem s_asgG {t : DD} {g : DG} {gV : TG} {vs : List Nat} (g2 : GOk N vs g gV) (h : PS X (.Assign [tg] e pos) (tAsg (lD N Wx t) gV)) : PS X (.Assign [tg] e pos) (lS N Wx (sAsgG t g)) := by
  refine PS.imp h fun D σV H h => ?_
  obtain ⟨M, ρ, σ, st, E, r, s, h, l⟩ := h
  refine Lf.of (l.kx r s) h fun d st' hk v M' ρ' H' e' c' rv => ?_
  exact g2.ok rv c'.rep.sub c'.rs hk fun σ2 h2 σV2 s2 _ => l.nx _ _ h2 M' ρ' H' σV2 e' c'.rep s2
theorem wipe_rs {M : Hp} {ρ : List Addr} {σ : Sl} {σV : L2.St} (h : Rs N M ρ σ σV) : ∀ vs : List Nat, Rs N M ρ (wipeD σ vs) (wipe σV vs)
  | [] => h
  | v :: vs => (wipe_rs h vs).unset v none
theorem lc_lift {it : Lv (List D)} {g : DG} {gV : TG} {tt : DT} {te : DD} {vs : List Nat} {K : List D → Sto → Prop} {σV : L2.St} {H : Hp} {Q : VK} {M : Hp} {ρ : List Addr} {σ : Sl} {st : Sto} {ex : DX} (g2 : GOk N vs g gV) (c : Kx N Wx M ρ σ st H σV ex)
    (ht : it σ st (fun ds st1 => lcB ds g tt te vs σ st1 K) ex)
    (q : ∀ acc st', K acc st' → ∀ p M' ρ' H' xs, Ext M ρ H M' ρ' H' → Rep N M' ρ' st' H' → M' p = none → p ∉ ρ' → H p = none → H' p = some (.lst xs) → Rps N M' acc xs → Q (.ref p) H') :
    uLc (lI N Wx it) gV (lT N W0 tt) (lD N W0 te) vs σV H Q := by
  refine ⟨M, ρ, σ, st, _, _, c, ht, fun ds st1 hk J M1 ρ1 H1 E1 r1 gd D hD => ?_⟩
  obtain ⟨I, h0, hstep, hend⟩ := hk
  have hm1 := r1.non hD
  have hn1 : D ∉ ρ1 := fun z => r1.mem z hD
  have hH : H D = none := by
    cases z : H D with
    | none => rfl
    | some o =>
      by_cases w : D ∈ ρ
      · exact absurd (E1.pre.mem w) hn1
      · rw [E1.fr D o z w] at hD; cases hD
  have rD : ∀ {M' : Hp} {st' : Sto} {H' : Hp} {xs : List V}, Rep N M' ρ1 st' H' → M' D = none → Rep N M' ρ1 st' (upd H' D (.lst xs)) := fun {M' st' H' xs} r hm => by
    refine ⟨fun b u z => ?_, r.len, r.inj, fun i a o h1 h2 => ?_⟩
    · have hb : b ≠ D := fun w => by rw [w, hm] at z; cases z
      rw [upd_ne hb]
      exact r.sub b u z
    · have q := r.ob i a o h1 h2
      have ha : a ≠ D := fun w => hn1 (by rw [← w]; exact List.mem_of_getElem? h1)
      exact q.mono (Same.refl _) (Pre.refl _) (fun z => z) fun u hu => by rw [upd_ne ha]; exact hu
  refine ⟨fun i m H' => m = ds.length - i ∧ i ≤ ds.length ∧ ∃ M' st' acc xs, Ext M1 ρ1 H1 M' ρ1 H' ∧ Rep N M' ρ1 st' H' ∧ M' D = none ∧ H' D = some (.lst xs) ∧ Rps N M' acc xs ∧ I i acc st',
    ⟨ds.length, by simp, Nat.zero_le _, M1, st1, [], [], ⟨Same.refl _, Pre.refl _, (Fr.refl _ _).new hD, fun _ h => .inl h, fun _ h => .inl h⟩, rD r1 hm1, hm1, upd_same, rfl, h0⟩, ?_⟩
  rintro i m H' ⟨rfl, hi, M', st', acc, xs, E', r', hm', hD', ra, hI⟩
  have hlen : st'.length = st1.length := by rw [← r'.len, r1.len]
  by_cases hlt : i < ds.length
  · refine .inr ⟨gd.go i M' H' E'.mm r'.sub hlt, fun H3 => ∃ M3 st3 acc xs, Ext M1 ρ1 H1 M3 ρ1 H3 ∧ Rep N M3 ρ1 st3 H3 ∧ M3 D = none ∧ H3 D = some (.lst xs) ∧ Rps N M3 acc xs ∧ I (i + 1) acc st3, fun H3 q => ⟨ds.length - (i + 1), by omega, rfl, hlt, q⟩, fun v H2 y => ?_⟩
    obtain ⟨d, M2, hd, E2, r2, rd⟩ := gd.item E' r' hlt y
    have keep : ∀ {M3 : Hp} {ρ3 : List Addr} {H3 : Hp}, Ext M' ρ1 H' M3 ρ3 H3 → H3 D = some (.lst xs) ∧ M3 D = none := fun {M3 ρ3 H3} E3 => ⟨E3.fr D _ hD' hn1, by
      cases z : M3 D with
      | none => rfl
      | some u =>
        rcases E3.nw D (by rw [z]; exact fun w => nomatch w) with w | w | w
        · exact absurd hm' w
        · rw [hD'] at w; cases w
        · exact absurd w hn1⟩
    refine g2.ok rd r2.sub (wipe_rs (c.rs.ext (E1.trans (E'.trans E2))) vs) (hstep i d acc st' hd hI hlen) fun σ2 h2 σV2 s2 hw => ⟨by rw [hw, wipe_wipe], ?_⟩
    have k2 : Kx N W0 M2 ρ1 σ2 st' H2 σV2 exF := ⟨r2, s2, fun _ _ _ h => False.elim h⟩
    refine Lf.of k2 h2 fun bb st2 hk2 v2 M3 ρ3 H3 E3 c3 r3 => ?_
    rw [show v2 = bb from r3]
    refine ⟨fun z => Lf.of c3 (hk2.1 z) fun y st3 hk3 yv M4 ρ4 H4 E4 c4 r4 => ?_, fun z => ?_⟩
    · have EE := E2.trans (E3.trans E4)
      obtain ⟨g3, g4⟩ := keep EE
      obtain ⟨E5, e5⟩ := (E'.trans EE).cut r1.len
      have q1 := c4.rep.tr st1.length
      rw [e5] at q1
      have ra4 := (Rps.ext ra EE).append (Rps.cons r4 .nil)
      refine ⟨xs, g3, by rw [ra.length, sizeLine_eq]; omega, M4, _, _, _, ⟨E5.mm, E5.pre, E5.fr.loc hD, E5.nw, E5.rn⟩, rD q1 g4, g4, upd_same, ra4, hk3.2⟩
    · have EE := E2.trans E3
      obtain ⟨g3, g4⟩ := keep EE
      obtain ⟨E5, e5⟩ := (E'.trans EE).cut r1.len
      have q1 := c3.rep.tr st1.length
      rw [e5] at q1
      exact ⟨M3, _, _, xs, E5, q1, g4, g3, Rps.ext ra EE, hk2.2 z⟩
  · have e : i = ds.length := by omega
    subst e
    exact .inl ⟨gd.stop _ M' H' E'.mm r'.sub (Nat.le_refl _), q _ _ (hend acc st' hI hlen) D M' ρ1 H' xs (E1.trans E') r' hm' hn1 hH hD' ra⟩
theorem gsok_nil {vs : List Nat} : GsOk N vs [] gNil := ⟨fun {ds us M H ρ σ σV k Q} r s rs h q => by
  cases ds with
  | nil => exact ⟨r, q _ h _ rs rfl⟩
  | cons _ _ => exact False.elim h⟩
theorem gsok_cons {vs : List Nat} {g : DG} {gs : List DG} {gV : TG} {gsV : TGs} (a2 : GOk N vs g gV) (b2 : GsOk N vs gs gsV) : GsOk N vs (g :: gs) (gCons gV gsV) := ⟨fun {ds us M H ρ σ σV k Q} r s rs h q => by
  cases ds with
  | nil => exact False.elim h
  | cons d ds =>
    obtain ⟨v, us', rfl, r1, r2⟩ := r
    refine ⟨v, us', rfl, a2.ok r1 s rs h fun σ1 h1 σV1 rs1 w1 => b2.ok r2 s rs1 h1 fun σ2 h2 σV2 rs2 w2 => q _ h2 _ rs2 (w2.trans w1)⟩⟩
theorem gok_tup {vs : List Nat} {gs : List DG} {gsV : TGs} {n : Nat} (b2 : GsOk N vs gs gsV) (hn : gs.length = n := by rfl) : GOk N vs (gT gs) (gTup N.K n gsV) := ⟨fun {d v M H ρ σ σV k Q} r s rs h q => by
  subst hn
  cases d <;> try exact False.elim h
  obtain ⟨p, xs, rfl, h1, h2⟩ := r
  exact ⟨p, xs, rfl, s.tup h1, by rw [h2.length]; exact h.1, b2.ok h2 s rs h.2 q⟩⟩
theorem Rep.adopt {M H : Hp} {ρ : List Addr} {st : Sto} (r : Rep N M ρ st H) {p : Addr} {u : HO} (hm : M p = Option.none) (hn : p ∉ ρ) (hu : H p = some u) : Rep N (upd M p u) ρ st H := by
  refine ⟨fun b u' e => ?_, r.len, r.inj, fun i a o h1 h2 => ?_⟩
  · by_cases z : b = p
    · subst z
      rw [upd_same] at e
      cases e
      exact .inl hu
    · rw [upd_ne z] at e
      exact r.sub b u' e
  · have ha : a ≠ p := fun w => hn (by rw [← w]; exact List.mem_of_getElem? h1)
    exact (r.ob i a o h1 h2).mono (same_grow0 hm) (Pre.refl _) (fun z => by rw [upd_ne ha]; exact z) fun u hu => hu
theorem lc_D {it : Lv (List D)} {g : DG} {gV : TG} {tt : DT} {te : DD} {vs : List Nat} {σV : L2.St} {H : Hp} {Q : VK} (g2 : GOk N vs g gV) (h : lD N Wx (dLc it g tt te vs) σV H Q) : uLc (lI N Wx it) gV (lT N W0 tt) (lD N W0 te) vs σV H Q := by
  obtain ⟨M, ρ, σ, st, k, ex, c, ht, q⟩ := Kx.open_ h
  refine lc_lift g2 c ht fun acc st' hk p M' ρ' H' xs E r hm hn hH hp ra => ?_
  have E2 : Ext M ρ H (upd M' p (.lst xs)) ρ' H' := ⟨E.mm.trans (same_grow0 hm), E.pre, E.fr, fun a z => by
    by_cases w : a = p
    · exact .inr (.inl (by rw [w]; exact hH))
    · rw [upd_ne w] at z; exact E.nw a z, E.rn⟩
  exact q _ _ hk _ _ ρ' H' E2 (c.step E2 (r.adopt hm hn hp)) ⟨p, xs, rfl, upd_same, ra.mono (same_grow0 hm)⟩
theorem yes_ok {N : Kn} : ∀ σV H Q, lT N W0 dYes σV H Q → tYes σV H Q := fun σV H Q h => by
  obtain ⟨M, ρ, σ, st, k, ex, c, ht, q⟩ := Kx.open_ h
  exact q _ _ ht _ M ρ H Ext.refl c rfl
theorem PTs.imp {es : List Expr} {t t' : TT} (h : PTs X es t) (i : ∀ σ H Q, t' σ H Q → t σ H Q) : PTs X es t' := ⟨fun pins s σ H Q I q => h.run pins s σ H Q I (i σ H Q q)⟩
theorem ts_nil {N : Kn} : PTs X [] (lT N W0 dYes) := PTs.imp pts_nil yes_ok
section
variable {elt iter : Expr} {ifs : List Expr} {scope : Scope} {own : List (Str × Nat)} {it : Lv (List D)} {g : DG} {gV : TG} {tt : DT} {te : DD}
theorem e_lcD (g2 : GOk N (own.map (·.2)) g gV) (hc : X.calm = true) (hN : X.N.Nodup) (hi : PI X tg iter (lI N Wx it)) (ok : BlkOk X.N X.env.scope scope own)
    (hg : ∀ (s : Shared) (H : Hp) (C : Addr) (cl : List (Str × Addr)) (fp : List Addr), PG (X.blk s H scope (compEnvC scope cl C X.env) fp) tg gV) (ht : ∀ (s : Shared) (H : Hp) (C : Addr) (cl : List (Str × Addr)) (fp : List Addr), PTs (X.blk s H scope (compEnvC scope cl C X.env) fp) ifs (lT N W0 tt))
    (he : ∀ (s : Shared) (H : Hp) (C : Addr) (cl : List (Str × Addr)) (fp : List Addr), PE (X.blk s H scope (compEnvC scope cl C X.env) fp) elt (lD N W0 te)) (hs : ∀ x, foldedSetIterable iter X.env x = pure x := by intro _; rfl) :
    PE X (.ListComp elt [⟨tg, iter, ifs, 0⟩] scope pos) (lD N Wx (dLc it g tt te (own.map (·.2)))) := PE.imp (Co.e_lc hc hN hi ok hg ht he hs) fun _ _ _ => lc_D g2
variable {i : Nat} {y : Str} {py spos : Pos}
end
end
end Dl
end

section
set_option maxHeartbeats 4000000
namespace Dl
open PySem PySem.Spec PyProof.Rows L2 Co
mutual
def eqvD : D → D → Bool
  | .non, .non => true
  | .bl a, .bl b => a == b
  | .bl a, .int j => (if a then 1 else 0) == j
  | .int i, .bl b => i == (if b then 1 else 0)
  | .int i, .int j => i == j
  | .str x, .str y => x == y
  | .lst xs, .lst ys => eqvDs xs ys
  | .tup xs, .tup ys => eqvDs xs ys
  | _, _ => false
def eqvDs : List D → List D → Bool
  | [], [] => true
  | x :: xs, y :: ys => eqvD x y && eqvDs xs ys
  | _, _ => false
end
def shp : Nat → D → Bool
  | _, .non => true
  | _, .bl _ => true
  | _, .int _ => true
  | _, .str _ => true
  | n + 1, .tup ds => ds.all (shp n)
  | n + 1, .lst ds => ds.all (shp n)
  | _, _ => false
mutual
theorem eqvD_refl : ∀ (d : D) (n : Nat), shp n d = true → eqvD d d = true
  | .non, _, _ => rfl
  | .bl b, _, _ => by simp [eqvD]
  | .int i, _, _ => by simp [eqvD]
  | .str x, _, _ => by simp [eqvD]
  | .tup ds, 0, h => by cases h
  | .lst ds, 0, h => by cases h
  | .tup ds, n + 1, h => by rw [eqvD]; exact eqvDs_refl ds n h
  | .lst ds, n + 1, h => by rw [eqvD]; exact eqvDs_refl ds n h
  | .ty _, n, h => by cases n <;> cases h
  | .glo _, n, h => by cases n <;> cases h
  | .scr _, n, h => by cases n <;> cases h
  | .dct _ _, n, h => by cases n <;> cases h
  | .dcT _ _, n, h => by cases n <;> cases h
  | .ins _ _ _, n, h => by cases n <;> cases h
  | .exc _ _ _ _ _, n, h => by cases n <;> cases h
theorem eqvDs_refl : ∀ (ds : List D) (n : Nat), ds.all (shp n) = true → eqvDs ds ds = true
  | [], _, _ => rfl
  | d :: ds, n, h => by
    rw [List.all_cons, Bool.and_eq_true] at h
    rw [eqvDs, eqvD_refl d n h.1, eqvDs_refl ds n h.2]
    rfl
end
theorem eqvDs_at : ∀ (xs ys : List D), eqvDs xs ys = ((List.range (min xs.length ys.length)).all (fun j => eqvD (xs.getD j .non) (ys.getD j .non)) && xs.length == ys.length)
  | [], [] => rfl
  | [], y :: ys => by simp [eqvDs]
  | x :: xs, [] => by simp [eqvDs]
  | x :: xs, y :: ys => by
    rw [eqvDs, eqvDs_at xs ys, List.length_cons, List.length_cons, Nat.succ_min_succ, List.range_succ_eq_map, List.all_cons, List.all_map]
    have e1 : ((fun j => eqvD ((x :: xs).getD j .non) ((y :: ys).getD j .non)) ∘ Nat.succ) = fun j => eqvD (xs.getD j .non) (ys.getD j .non) := by
      funext j
      simp
    rw [e1]
    have e2 : (xs.length + 1 == ys.length + 1) = (xs.length == ys.length) := by
      by_cases z : xs.length = ys.length
      · simp [z]
      · rw [beq_eq_false_iff_ne.mpr z, beq_eq_false_iff_ne.mpr (by omega)]
    rw [e2, Bool.and_assoc]
    rfl
section
variable {X : Cx} {pins : List (Addr × Obj)} {σ : L2.St} {F H : Hp} {s : Shared} {N : Kn}
mutual
theorem rp_inj (I : Inv X pins σ H s) (hK : N.K = X.K) (sub : Sub F H) : ∀ (d e : D) (n : Nat) (v : V), shp n d = true → shp n e = true → Rp N F d v → Rp N F e v → d = e
  | .non, e, n, v, h1, h2, r1, r2 => by
    cases r1
    cases e <;> first | rfl | (cases r2; done) | (obtain ⟨_, _, z, _⟩ := r2; cases z; done) | (obtain ⟨_, z, _⟩ := r2; cases z; done) | (cases n <;> cases h2 <;> done)
  | .bl b, e, n, v, h1, h2, r1, r2 => by
    cases r1
    cases e <;> first | (cases r2; rfl) | (cases r2; done) | (obtain ⟨_, _, z, _⟩ := r2; cases z; done) | (obtain ⟨_, z, _⟩ := r2; cases z; done) | (cases n <;> cases h2 <;> done)
  | .int b, e, n, v, h1, h2, r1, r2 => by
    cases r1
    cases e <;> first | (cases r2; rfl) | (cases r2; done) | (obtain ⟨_, _, z, _⟩ := r2; cases z; done) | (obtain ⟨_, z, _⟩ := r2; cases z; done) | (cases n <;> cases h2 <;> done)
  | .str b, e, n, v, h1, h2, r1, r2 => by
    cases r1
    cases e <;> first | (cases r2; rfl) | (cases r2; done) | (obtain ⟨_, _, z, _⟩ := r2; cases z; done) | (obtain ⟨_, z, _⟩ := r2; cases z; done) | (cases n <;> cases h2 <;> done)
  | .tup xs, e, 0, v, h1, h2, r1, r2 => by cases h1
  | .lst xs, e, 0, v, h1, h2, r1, r2 => by cases h1
  | .tup xs, e, n + 1, v, h1, h2, r1, r2 => by
    obtain ⟨p, vs, rfl, f1, g1⟩ := r1
    cases e <;> first | (cases r2; done) | (cases h2; done) | skip
    · obtain ⟨p2, vs2, z, f2, g2⟩ := r2
      cases z
      have := I.tuple_inj (hK ▸ sub.tup f1) (hK ▸ sub.tup f2)
      subst this
      rw [rps_inj I hK sub xs _ n vs h1 h2 g1 g2]
    · obtain ⟨p2, vs2, z, f2, g2⟩ := r2
      cases z
      obtain ⟨its, _, ⟨o, ho, hc, _⟩, _⟩ := I.tuple (hK ▸ sub.tup f1)
      obtain ⟨its2, _, ⟨o2, n2, ho2, hc2, _⟩, _⟩ := I.list (SqL.of (sub.lst1 f2))
      rw [ho] at ho2
      cases ho2
      rw [hc] at hc2
      exact absurd hc2 (by decide)
  | .lst xs, e, n + 1, v, h1, h2, r1, r2 => by
    obtain ⟨p, vs, rfl, f1, g1⟩ := r1
    cases e <;> first | (cases r2; done) | (cases h2; done) | skip
    · obtain ⟨p2, vs2, z, f2, g2⟩ := r2
      cases z
      obtain ⟨its, _, ⟨o, ho, hc, _⟩, _⟩ := I.tuple (hK ▸ sub.tup f2)
      obtain ⟨its2, _, ⟨o2, n2, ho2, hc2, _⟩, _⟩ := I.list (SqL.of (sub.lst1 f1))
      rw [ho] at ho2
      cases ho2
      rw [hc] at hc2
      exact absurd hc2 (by decide)
    · obtain ⟨p2, vs2, z, f2, g2⟩ := r2
      cases z
      rw [f1] at f2
      cases f2
      rw [rps_inj I hK sub xs _ n vs h1 h2 g1 g2]
  | .ty _, e, n, v, h1, h2, r1, r2 => by cases n <;> cases h1
  | .glo _, e, n, v, h1, h2, r1, r2 => by cases n <;> cases h1
  | .scr _, e, n, v, h1, h2, r1, r2 => by cases n <;> cases h1
  | .dct _ _, e, n, v, h1, h2, r1, r2 => by cases n <;> cases h1
  | .dcT _ _, e, n, v, h1, h2, r1, r2 => by cases n <;> cases h1
  | .ins _ _ _, e, n, v, h1, h2, r1, r2 => by cases n <;> cases h1
  | .exc _ _ _ _ _, e, n, v, h1, h2, r1, r2 => by cases n <;> cases h1
theorem rps_inj (I : Inv X pins σ H s) (hK : N.K = X.K) (sub : Sub F H) : ∀ (xs ys : List D) (n : Nat) (vs : List V), xs.all (shp n) = true → ys.all (shp n) = true → Rps N F xs vs → Rps N F ys vs → xs = ys
  | [], ys, n, vs, h1, h2, r1, r2 => by
    have : vs = [] := r1
    subst this
    have := r2.length
    exact (List.eq_nil_of_length_eq_zero (by simpa using this.symm)).symm
  | x :: xs, [], n, vs, h1, h2, r1, r2 => by
    have : vs = [] := r2
    subst this
    have := r1.length
    simp at this
  | x :: xs, y :: ys, n, vs, h1, h2, ⟨v, r, e1, a1, a2⟩, ⟨v', r', e2, b1, b2⟩ => by
    rw [e1] at e2
    cases e2
    rw [List.all_cons, Bool.and_eq_true] at h1 h2
    rw [rp_inj I hK sub x y n v h1.1 h2.1 a1 b1, rps_inj I hK sub xs ys n r h1.2 h2.2 a2 b2]
end
theorem item_eq {m : Nat} (ih : ∀ k, m + 1 = k + 1 → ∀ (A : Around) (d e : D) (v w : V) (u u' : Value), shp k d = true → shp k e = true → Rp N F d v → Rp N F e w → RelV v u → RelV w u' → A.units + k < cLine → SeqAt.EqAt A s u u' (eqvD d e)) {A : Around} {xs ys : List D} {vs vs2 : List V} {its its2 : List Value}
    (g : Rps N F xs vs) (g2 : Rps N F ys vs2) (rv : Vals vs its) (rv2 : Vals vs2 its2) (s1 : xs.all (shp m) = true) (s2 : ys.all (shp m) = true) (hn : A.units + m < cLine) (j : Nat) (j1 : j < xs.length) (j2 : j < ys.length) (h1 : j < its.toArray.size := by simpa using (by have := g.length; have := rv.length; omega)) (h2 : j < its2.toArray.size := by simpa using (by have := g2.length; have := rv2.length; omega)) :
    SeqAt.EqAt A s its.toArray[j] its2.toArray[j] (eqvD (xs.getD j .non) (ys.getD j .non)) := by
  obtain ⟨v, a1, a2⟩ := g.get (i := j) (d := xs[j]) (by simp [j1])
  obtain ⟨u, a3, a4⟩ := rv.get a1
  obtain ⟨w, b1, b2⟩ := g2.get (i := j) (d := ys[j]) (by simp [j2])
  obtain ⟨u', b3, b4⟩ := rv2.get b1
  have e1 : its.toArray[j] = u := by
    have := (List.getElem?_eq_some_iff.mp a3).2
    simpa using this
  have e2 : its2.toArray[j] = u' := by
    have := (List.getElem?_eq_some_iff.mp b3).2
    simpa using this
  have e3 : xs.getD j .non = xs[j] := by simp [List.getD, j1]
  have e4 : ys.getD j .non = ys[j] := by simp [List.getD, j2]
  rw [e1, e2, e3, e4]
  exact ih m rfl A _ _ v w u u' (List.all_eq_true.mp s1 _ (List.getElem_mem j1)) (List.all_eq_true.mp s2 _ (List.getElem_mem j2)) a2 b2 a4 b4 hn
theorem eq_both (I : Inv X pins σ H s) (hK : N.K = X.K) (sub : Sub F H) (n : Nat) (ih : ∀ m, n = m + 1 → ∀ (A : Around) (d e : D) (v w : V) (u u' : Value), shp m d = true → shp m e = true → Rp N F d v → Rp N F e w → RelV v u → RelV w u' → A.units + m < cLine → SeqAt.EqAt A s u u' (eqvD d e)) :
    ∀ (A : Around) (d e : D) (v w : V) (u u' : Value), shp n d = true → shp n e = true → Rp N F d v → Rp N F e w → RelV v u → RelV w u' → A.units + n < cLine → SeqAt.EqAt A s u u' (eqvD d e) ∧ SeqAt.RcAt A s u u' (eqvD d e) ∧ SeqAt.RcNeAt A s u u' (!eqvD d e) := by
  intro A d e v w u u' s1 s2 r1 r2 q1 q2 hn
  have hu : A.units < cLine := by omega
  have K1 : ∀ {a : Addr} {vs : List V}, H a = some (.lst vs) → SqL X.K H a vs := fun h => SqL.of h
  have K2 : ∀ {a : Addr} {vs : List V}, SqT N.K H a vs → SqT X.K H a vs := fun h => hK ▸ h
  open SeqAt in
  exact match d, e, s1, s2, r1, r2 with
  | .non, .non, s1, s2, r1, r2 => by
    cases r1; cases q1; cases r2; cases q2; exact ⟨EqAt.same _, RcAt.none_none, RcNeAt.none_none⟩
  | .non, .bl y, s1, s2, r1, r2 => by
    cases r1; cases q1; cases r2; cases q2; exact ⟨EqAt.none_bool y, RcAt.none_bool y, RcNeAt.none_bool y⟩
  | .non, .int y, s1, s2, r1, r2 => by
    cases r1; cases q1; cases r2; obtain ⟨t2, rfl⟩ := q2; exact ⟨EqAt.none_int y t2, RcAt.none_int y t2, RcNeAt.none_int y t2⟩
  | .non, .str y, s1, s2, r1, r2 => by
    cases r1; cases q1; cases r2; obtain ⟨t2, rfl⟩ := q2; exact ⟨EqAt.none_str y t2, RcAt.none_str y t2, RcNeAt.none_str y t2⟩
  | .non, .lst ys, s1, s2, r1, r2 => by
    cases r1; cases q1; obtain ⟨p2, vs2, rfl, f2, g2⟩ := r2; cases q2; obtain ⟨its2, rv2, hl2, _⟩ := I.list (K1 (sub.lst1 f2)); exact ⟨EqAt.none_list hl2.isList hu, RcAt.none_list hl2.isList hu, RcNeAt.none_list hl2.isList hu⟩
  | .non, .tup ys, s1, s2, r1, r2 => by
    cases r1; cases q1; obtain ⟨p2, vs2, rfl, f2, g2⟩ := r2; cases q2; obtain ⟨its2, rv2, hl2, _⟩ := I.tuple (K2 (sub.tup f2)); exact ⟨EqAt.none_tuple hl2 hu, RcAt.none_tuple hl2 hu, RcNeAt.none_tuple hl2 hu⟩
  | .bl x, .non, s1, s2, r1, r2 => by
    cases r1; cases q1; cases r2; cases q2; exact ⟨EqAt.bool_none x, RcAt.bool_none x, RcNeAt.bool_none x⟩
  | .bl x, .bl y, s1, s2, r1, r2 => by
    cases r1; cases q1; cases r2; cases q2; exact ⟨EqAt.bool_bool x y, RcAt.bool_bool x y, RcNeAt.bool_bool x y⟩
  | .bl x, .int y, s1, s2, r1, r2 => by
    cases r1; cases q1; cases r2; obtain ⟨t2, rfl⟩ := q2; exact ⟨EqAt.bool_int x y t2, RcAt.bool_int x y t2, RcNeAt.bool_int x y t2⟩
  | .bl x, .str y, s1, s2, r1, r2 => by
    cases r1; cases q1; cases r2; obtain ⟨t2, rfl⟩ := q2; exact ⟨EqAt.bool_str x y t2, RcAt.bool_str x y t2, RcNeAt.bool_str x y t2⟩
  | .bl x, .lst ys, s1, s2, r1, r2 => by
    cases r1; cases q1; obtain ⟨p2, vs2, rfl, f2, g2⟩ := r2; cases q2; obtain ⟨its2, rv2, hl2, _⟩ := I.list (K1 (sub.lst1 f2)); exact ⟨EqAt.bool_list x hl2.isList hu, RcAt.bool_list x hl2.isList hu, RcNeAt.bool_list x hl2.isList hu⟩
  | .bl x, .tup ys, s1, s2, r1, r2 => by
    cases r1; cases q1; obtain ⟨p2, vs2, rfl, f2, g2⟩ := r2; cases q2; obtain ⟨its2, rv2, hl2, _⟩ := I.tuple (K2 (sub.tup f2)); exact ⟨EqAt.bool_tuple x hl2 hu, RcAt.bool_tuple x hl2 hu, RcNeAt.bool_tuple x hl2 hu⟩
  | .int x, .non, s1, s2, r1, r2 => by
    cases r1; obtain ⟨t, rfl⟩ := q1; cases r2; cases q2; exact ⟨EqAt.int_none x t, RcAt.int_none x t, RcNeAt.int_none x t⟩
  | .int x, .bl y, s1, s2, r1, r2 => by
    cases r1; obtain ⟨t, rfl⟩ := q1; cases r2; cases q2; exact ⟨EqAt.int_bool x t y, RcAt.int_bool x t y, RcNeAt.int_bool x t y⟩
  | .int x, .int y, s1, s2, r1, r2 => by
    cases r1; obtain ⟨t, rfl⟩ := q1; cases r2; obtain ⟨t2, rfl⟩ := q2; exact ⟨EqAt.int_int x t y t2, RcAt.int_int x t y t2, RcNeAt.int_int x t y t2⟩
  | .int x, .str y, s1, s2, r1, r2 => by
    cases r1; obtain ⟨t, rfl⟩ := q1; cases r2; obtain ⟨t2, rfl⟩ := q2; exact ⟨EqAt.int_str x t y t2, RcAt.int_str x t y t2, RcNeAt.int_str x t y t2⟩
  | .int x, .lst ys, s1, s2, r1, r2 => by
    cases r1; obtain ⟨t, rfl⟩ := q1; obtain ⟨p2, vs2, rfl, f2, g2⟩ := r2; cases q2; obtain ⟨its2, rv2, hl2, _⟩ := I.list (K1 (sub.lst1 f2)); exact ⟨EqAt.int_list x t hl2.isList hu, RcAt.int_list x t hl2.isList hu, RcNeAt.int_list x t hl2.isList hu⟩
  | .int x, .tup ys, s1, s2, r1, r2 => by
    cases r1; obtain ⟨t, rfl⟩ := q1; obtain ⟨p2, vs2, rfl, f2, g2⟩ := r2; cases q2; obtain ⟨its2, rv2, hl2, _⟩ := I.tuple (K2 (sub.tup f2)); exact ⟨EqAt.int_tuple x t hl2 hu, RcAt.int_tuple x t hl2 hu, RcNeAt.int_tuple x t hl2 hu⟩
  | .str x, .non, s1, s2, r1, r2 => by
    cases r1; obtain ⟨t, rfl⟩ := q1; cases r2; cases q2; exact ⟨EqAt.str_none x t, RcAt.str_none x t, RcNeAt.str_none x t⟩
  | .str x, .bl y, s1, s2, r1, r2 => by
    cases r1; obtain ⟨t, rfl⟩ := q1; cases r2; cases q2; exact ⟨EqAt.str_bool x t y, RcAt.str_bool x t y, RcNeAt.str_bool x t y⟩
  | .str x, .int y, s1, s2, r1, r2 => by
    cases r1; obtain ⟨t, rfl⟩ := q1; cases r2; obtain ⟨t2, rfl⟩ := q2; exact ⟨EqAt.str_int x t y t2, RcAt.str_int x t y t2, RcNeAt.str_int x t y t2⟩
  | .str x, .str y, s1, s2, r1, r2 => by
    cases r1; obtain ⟨t, rfl⟩ := q1; cases r2; obtain ⟨t2, rfl⟩ := q2; exact ⟨EqAt.str_str x t y t2, RcAt.str_str x t y t2, RcNeAt.str_str x t y t2⟩
  | .str x, .lst ys, s1, s2, r1, r2 => by
    cases r1; obtain ⟨t, rfl⟩ := q1; obtain ⟨p2, vs2, rfl, f2, g2⟩ := r2; cases q2; obtain ⟨its2, rv2, hl2, _⟩ := I.list (K1 (sub.lst1 f2)); exact ⟨EqAt.str_list x t hl2.isList hu, RcAt.str_list x t hl2.isList hu, RcNeAt.str_list x t hl2.isList hu⟩
  | .str x, .tup ys, s1, s2, r1, r2 => by
    cases r1; obtain ⟨t, rfl⟩ := q1; obtain ⟨p2, vs2, rfl, f2, g2⟩ := r2; cases q2; obtain ⟨its2, rv2, hl2, _⟩ := I.tuple (K2 (sub.tup f2)); exact ⟨EqAt.str_tuple x t hl2 hu, RcAt.str_tuple x t hl2 hu, RcNeAt.str_tuple x t hl2 hu⟩
  | .lst xs, .non, s1, s2, r1, r2 => by
    obtain ⟨p, vs, rfl, f, g⟩ := r1; cases q1; obtain ⟨its, rv, hl, _⟩ := I.list (K1 (sub.lst1 f)); cases r2; cases q2; exact ⟨EqAt.list_none hl.isList hu, RcAt.list_none hl.isList hu, RcNeAt.list_none hl.isList hu⟩
  | .lst xs, .bl y, s1, s2, r1, r2 => by
    obtain ⟨p, vs, rfl, f, g⟩ := r1; cases q1; obtain ⟨its, rv, hl, _⟩ := I.list (K1 (sub.lst1 f)); cases r2; cases q2; exact ⟨EqAt.list_bool y hl.isList hu, RcAt.list_bool y hl.isList hu, RcNeAt.list_bool y hl.isList hu⟩
  | .lst xs, .int y, s1, s2, r1, r2 => by
    obtain ⟨p, vs, rfl, f, g⟩ := r1; cases q1; obtain ⟨its, rv, hl, _⟩ := I.list (K1 (sub.lst1 f)); cases r2; obtain ⟨t2, rfl⟩ := q2; exact ⟨EqAt.list_int y t2 hl.isList hu, RcAt.list_int y t2 hl.isList hu, RcNeAt.list_int y t2 hl.isList hu⟩
  | .lst xs, .str y, s1, s2, r1, r2 => by
    obtain ⟨p, vs, rfl, f, g⟩ := r1; cases q1; obtain ⟨its, rv, hl, _⟩ := I.list (K1 (sub.lst1 f)); cases r2; obtain ⟨t2, rfl⟩ := q2; exact ⟨EqAt.list_str y t2 hl.isList hu, RcAt.list_str y t2 hl.isList hu, RcNeAt.list_str y t2 hl.isList hu⟩
  | .lst xs, .tup ys, s1, s2, r1, r2 => by
    obtain ⟨p, vs, rfl, f, g⟩ := r1; cases q1; obtain ⟨its, rv, hl, _⟩ := I.list (K1 (sub.lst1 f)); obtain ⟨p2, vs2, rfl, f2, g2⟩ := r2; cases q2; obtain ⟨its2, rv2, hl2, _⟩ := I.tuple (K2 (sub.tup f2)); exact ⟨EqAt.list_tuple hl.isList hl2 hu, RcAt.list_tuple hl.isList hl2 hu, RcNeAt.list_tuple hl.isList hl2 hu⟩
  | .tup xs, .non, s1, s2, r1, r2 => by
    obtain ⟨p, vs, rfl, f, g⟩ := r1; cases q1; obtain ⟨its, rv, hl, _⟩ := I.tuple (K2 (sub.tup f)); cases r2; cases q2; exact ⟨EqAt.tuple_none hl hu, RcAt.tuple_none hl hu, RcNeAt.tuple_none hl hu⟩
  | .tup xs, .bl y, s1, s2, r1, r2 => by
    obtain ⟨p, vs, rfl, f, g⟩ := r1; cases q1; obtain ⟨its, rv, hl, _⟩ := I.tuple (K2 (sub.tup f)); cases r2; cases q2; exact ⟨EqAt.tuple_bool y hl hu, RcAt.tuple_bool y hl hu, RcNeAt.tuple_bool y hl hu⟩
  | .tup xs, .int y, s1, s2, r1, r2 => by
    obtain ⟨p, vs, rfl, f, g⟩ := r1; cases q1; obtain ⟨its, rv, hl, _⟩ := I.tuple (K2 (sub.tup f)); cases r2; obtain ⟨t2, rfl⟩ := q2; exact ⟨EqAt.tuple_int y t2 hl hu, RcAt.tuple_int y t2 hl hu, RcNeAt.tuple_int y t2 hl hu⟩
  | .tup xs, .str y, s1, s2, r1, r2 => by
    obtain ⟨p, vs, rfl, f, g⟩ := r1; cases q1; obtain ⟨its, rv, hl, _⟩ := I.tuple (K2 (sub.tup f)); cases r2; obtain ⟨t2, rfl⟩ := q2; exact ⟨EqAt.tuple_str y t2 hl hu, RcAt.tuple_str y t2 hl hu, RcNeAt.tuple_str y t2 hl hu⟩
  | .tup xs, .lst ys, s1, s2, r1, r2 => by
    obtain ⟨p, vs, rfl, f, g⟩ := r1; cases q1; obtain ⟨its, rv, hl, _⟩ := I.tuple (K2 (sub.tup f)); obtain ⟨p2, vs2, rfl, f2, g2⟩ := r2; cases q2; obtain ⟨its2, rv2, hl2, _⟩ := I.list (K1 (sub.lst1 f2)); exact ⟨EqAt.tuple_list hl hl2.isList hu, RcAt.tuple_list hl hl2.isList hu, RcNeAt.tuple_list hl hl2.isList hu⟩
  | .lst xs, .lst ys, s1, s2, r1, r2 => by
    have R1 := r1
    have R2 := r2
    obtain ⟨p, vs, rfl, f, g⟩ := r1; cases q1; obtain ⟨its, rv, hl, _⟩ := I.list (K1 (sub.lst1 f))
    obtain ⟨p2, vs2, rfl, f2, g2⟩ := r2; cases q2; obtain ⟨its2, rv2, hl2, _⟩ := I.list (K1 (sub.lst1 f2))
    have n1 : its.toArray.size = xs.length := by rw [← g.length, rv.length]; simp
    have n2 : its2.toArray.size = ys.length := by rw [← g2.length, rv2.length]; simp
    have rc : RcAt A s (.ref p) (.ref p2) (eqvD (.lst xs) (.lst ys)) := by
      rw [eqvD, eqvDs_at]
      by_cases hsz : xs.length = ys.length
      · rw [hsz, Nat.min_self, beq_self_eq_true, Bool.and_true, ← hsz, ← n1]
        cases n with
        | zero => cases s1
        | succ m =>
          refine RcAt.lists hl.isList hl2.isList (by omega) hu fun j j1 j2 => ?_
          rw [n1] at j1
          rw [n2] at j2
          exact item_eq ih g g2 rv rv2 s1 s2 (by have : A.in1.units = A.units + 1 := rfl; omega) j j1 j2
      · rw [beq_eq_false_iff_ne.mpr hsz, Bool.and_false]
        exact RcAt.lists_lengths hl.isList hl2.isList (by rw [n1, n2]; exact bne_iff_ne.mpr hsz) hu
    have rn : RcNeAt A s (.ref p) (.ref p2) (!eqvD (.lst xs) (.lst ys)) := by
      rw [eqvD, eqvDs_at]
      by_cases hsz : xs.length = ys.length
      · rw [hsz, Nat.min_self, beq_self_eq_true, Bool.and_true, ← hsz, ← n1]
        cases n with
        | zero => cases s1
        | succ m =>
          refine RcNeAt.lists hl.isList hl2.isList (by omega) hu fun j j1 j2 => ?_
          rw [n1] at j1
          rw [n2] at j2
          exact item_eq ih g g2 rv rv2 s1 s2 (by have : A.in1.units = A.units + 1 := rfl; omega) j j1 j2
      · rw [beq_eq_false_iff_ne.mpr hsz, Bool.and_false]
        exact RcNeAt.lists_lengths hl.isList hl2.isList (by rw [n1, n2]; exact bne_iff_ne.mpr hsz) hu
    refine ⟨?_, rc, rn⟩
    by_cases hp : p = p2
    · subst hp
      rw [rp_inj I hK sub _ _ n _ s1 s2 R1 R2, eqvD_refl _ n s2]
      exact EqAt.same _
    · exact EqAt.of_refs hp rc
  | .tup xs, .tup ys, s1, s2, r1, r2 => by
    have R1 := r1
    have R2 := r2
    obtain ⟨p, vs, rfl, f, g⟩ := r1; cases q1; obtain ⟨its, rv, hl, _⟩ := I.tuple (K2 (sub.tup f))
    obtain ⟨p2, vs2, rfl, f2, g2⟩ := r2; cases q2; obtain ⟨its2, rv2, hl2, _⟩ := I.tuple (K2 (sub.tup f2))
    have n1 : its.toArray.size = xs.length := by rw [← g.length, rv.length]; simp
    have n2 : its2.toArray.size = ys.length := by rw [← g2.length, rv2.length]; simp
    have rc : RcAt A s (.ref p) (.ref p2) (eqvD (.tup xs) (.tup ys)) := by
      rw [eqvD, eqvDs_at, ← n1, ← n2]
      cases n with
      | zero => cases s1
      | succ m =>
        refine RcAt.tuples (show s.heap.IsTuple p its.toArray from hl) (show s.heap.IsTuple p2 its2.toArray from hl2) hu fun j j1 j2 => ?_
        rw [n1] at j1
        rw [n2] at j2
        exact item_eq ih g g2 rv rv2 s1 s2 (by have : A.in1.units = A.units + 1 := rfl; omega) j j1 j2
    have rn : RcNeAt A s (.ref p) (.ref p2) (!eqvD (.tup xs) (.tup ys)) := by
      rw [eqvD, eqvDs_at, ← n1, ← n2]
      cases n with
      | zero => cases s1
      | succ m =>
        refine RcNeAt.tuples (show s.heap.IsTuple p its.toArray from hl) (show s.heap.IsTuple p2 its2.toArray from hl2) hu fun j j1 j2 => ?_
        rw [n1] at j1
        rw [n2] at j2
        exact item_eq ih g g2 rv rv2 s1 s2 (by have : A.in1.units = A.units + 1 := rfl; omega) j j1 j2
    refine ⟨?_, rc, rn⟩
    by_cases hp : p = p2
    · subst hp
      rw [rp_inj I hK sub _ _ n _ s1 s2 R1 R2, eqvD_refl _ n s2]
      exact EqAt.same _
    · exact EqAt.of_refs hp rc
  | .ty _, _, s1, _, _, _ => by cases n <;> cases s1
  | .glo _, _, s1, _, _, _ => by cases n <;> cases s1
  | .scr _, _, s1, _, _, _ => by cases n <;> cases s1
  | .dct _ _, _, s1, _, _, _ => by cases n <;> cases s1
  | .dcT _ _, _, s1, _, _, _ => by cases n <;> cases s1
  | .ins _ _ _, _, s1, _, _, _ => by cases n <;> cases s1
  | .exc _ _ _ _ _, _, s1, _, _, _ => by cases n <;> cases s1
  | _, .ty _, _, s2, _, _ => by cases n <;> cases s2
  | _, .glo _, _, s2, _, _ => by cases n <;> cases s2
  | _, .scr _, _, s2, _, _ => by cases n <;> cases s2
  | _, .dct _ _, _, s2, _, _ => by cases n <;> cases s2
  | _, .dcT _ _, _, s2, _, _ => by cases n <;> cases s2
  | _, .ins _ _ _, _, s2, _, _ => by cases n <;> cases s2
  | _, .exc _ _ _ _ _, _, s2, _, _ => by cases n <;> cases s2
end
end Dl
end

section
set_option maxHeartbeats 4000000
namespace Dl
open PySem PySem.Spec PyProof.Rows L2 Co
section
variable {X : Cx} {pins : List (Addr × Obj)} {F H : Hp} {s : Shared} {N : Kn}
theorem eqAt_d {σ : L2.St} (I : Inv X pins σ H s) (hK : N.K = X.K) (sub : Sub F H) : ∀ (n : Nat) (A : Around) (d e : D) (v w : V) (u u' : Value), shp n d = true → shp n e = true → Rp N F d v → Rp N F e w → RelV v u → RelV w u' → A.units + n < cLine → SeqAt.EqAt A s u u' (eqvD d e)
  | 0 => fun A d e v w u u' s1 s2 r1 r2 q1 q2 h => (eq_both I hK sub 0 (fun m e => absurd e (by omega)) A d e v w u u' s1 s2 r1 r2 q1 q2 h).1
  | n + 1 => fun A d e v w u u' s1 s2 r1 r2 q1 q2 h => (eq_both I hK sub (n + 1) (fun m e => by cases e; exact eqAt_d I hK sub n) A d e v w u u' s1 s2 r1 r2 q1 q2 h).1
theorem rcAt_d {σ : L2.St} (I : Inv X pins σ H s) (hK : N.K = X.K) (sub : Sub F H) (n : Nat) {A : Around} {d e : D} {v w : V} {u u' : Value} (s1 : shp n d = true) (s2 : shp n e = true) (r1 : Rp N F d v) (r2 : Rp N F e w) (q1 : RelV v u) (q2 : RelV w u') (h : A.units + n < cLine) :
    SeqAt.RcAt A s u u' (eqvD d e) ∧ SeqAt.RcNeAt A s u u' (!eqvD d e) := by
  cases n with
  | zero => exact (eq_both I hK sub 0 (fun m e => absurd e (by omega)) A d e v w u u' s1 s2 r1 r2 q1 q2 h).2
  | succ n => exact (eq_both I hK sub (n + 1) (fun m e => by cases e; exact eqAt_d I hK sub n) A d e v w u u' s1 s2 r1 r2 q1 q2 h).2
end
def eqSD : D → D → Option Bool
  | .non, .non => some true | .non, .int _ => some false | .int _, .non => some false | .non, .bl _ => some false | .bl _, .non => some false | .non, .str _ => some false | .str _, .non => some false
  | .int i, .int j => some (decide (i = j)) | .bl i, .bl j => some (decide (i = j)) | .str i, .str j => some (decide (i = j))
  | .int _, .str _ => some false | .str _, .int _ => some false | .bl _, .str _ => some false | .str _, .bl _ => some false
  | _, _ => none
def cEq : C2 := fun x y k => match eqSD x y with
  | some b => k b
  | none => shp 60 x = true ∧ shp 60 y = true ∧ k (eqvD x y)
def cNe : C2 := fun x y k => match eqSD x y with
  | some b => k (!b)
  | none => shp 60 x = true ∧ shp 60 y = true ∧ k (!eqvD x y)
section
variable {X : Cx} {b : Bool} {Wx : WX} {e e1 e2 e3 : Expr} {pos : Pos} {N : Kn}
def rEqW (K : PySem.W.Frag) (neg : Bool) : R2 := fun x y H Q => ∃ (N : Kn) (F : Hp) (d e : D), N.K = K ∧ Sub F H ∧ Rp N F d x ∧ Rp N F e y ∧ shp 60 d = true ∧ shp 60 e = true ∧ Q (.bl (if neg = true then !eqvD d e else eqvD d e)) H
theorem op_eqW (hu : X.A.units + 64 < cLine) : OpR X (compareOp .Eq) (rEqW X.K false) := by
  intro pins s σ H x y v u Q I rx ry h
  obtain ⟨N, F, d, e, hK, sub, hd, he, sd, se, q⟩ := h
  exact (rcAt_d I hK sub 60 sd se hd he rx ry (by omega)).1 _ _ _ _ ⟨.bl _, H, I, rfl, q⟩
theorem op_neW (hu : X.A.units + 64 < cLine) : OpR X (compareOp .NotEq) (rEqW X.K true) := by
  intro pins s σ H x y v u Q I rx ry h
  obtain ⟨N, F, d, e, hK, sub, hd, he, sd, se, q⟩ := h
  exact (rcAt_d I hK sub 60 sd se hd he rx ry (show X.A.units + 60 < cLine by omega)).2 _ _ _ _ ⟨.bl _, H, I, rfl, q⟩
theorem eqSD_ok {F : Hp} {x y : D} {u v : V} {c : Bool} (h : eqSD x y = some c) (hx : Rp N F x u) (hy : Rp N F y v) : eqS u v = some c := by
  cases x <;> cases y <;> simp only [eqSD, Option.some.injEq, reduceCtorEq] at h <;> subst h <;> cases hx <;> cases hy <;> rfl
theorem o_eq' (hu : X.A.units + 64 < cLine) : OpR X (compareOp .Eq) (fun x y H Q => fEq x y H Q ∨ rEqW X.K false x y H Q) := OpR.or o_eq (op_eqW hu)
theorem o_ne' (hu : X.A.units + 64 < cLine) : OpR X (compareOp .NotEq) (fun x y H Q => fNe x y H Q ∨ rEqW X.K true x y H Q) := OpR.or o_ne (op_neW hu)
theorem ok_eq : CmpOk (XN X b) (fun x y H Q => fEq x y H Q ∨ rEqW X.K false x y H Q) cEq := by
  intro F H x y u v kb Q s hx hy h k
  cases z : eqSD x y with
  | some c =>
    simp only [cEq, z] at h
    refine .inl ?_
    unfold fEq
    rw [eqSD_ok z hx hy]
    exact k _ h
  | none =>
    simp only [cEq, z] at h
    exact .inr ⟨XN X b, F, x, y, rfl, s, hx, hy, h.1, h.2.1, k _ h.2.2⟩
theorem ok_ne : CmpOk (XN X b) (fun x y H Q => fNe x y H Q ∨ rEqW X.K true x y H Q) cNe := by
  intro F H x y u v kb Q s hx hy h k
  cases z : eqSD x y with
  | some c =>
    simp only [cNe, z] at h
    refine .inl ?_
    unfold fNe
    rw [eqSD_ok z hx hy]
    exact k _ h
  | none =>
    simp only [cNe, z] at h
    exact .inr ⟨XN X b, F, x, y, rfl, s, hx, hy, h.1, h.2.1, k _ h.2.2⟩
def isiD : D → String → Option Bool
  | .non, c => isiS .non c
  | .bl b, c => isiS (.bl b) c
  | .int i, c => isiS (.int i) c
  | .str x, c => isiS (.str x) c
  | .tup _, c => if c = "tuple" ∨ c = "list" ∨ c = "dict" ∨ c = "int" ∨ c = "str" ∨ c = "bool" then some (decide ("tuple" = c)) else none
  | .lst _, c => if c = "tuple" ∨ c = "list" ∨ c = "dict" ∨ c = "int" ∨ c = "str" ∨ c = "bool" then some (decide ("list" = c)) else none
  | _, _ => none
def fIsi : FL := fun xs k => match xs with
  | [x, .ty c] => (match isiD x c with
    | some b => k (.bl b)
    | none => False)
  | _ => False
theorem ok_isi : CallOk (XN X b) (cIsi X.K) fIsi := by
  intro Wx M H ρ σ st σV ex ds us kd Q c hd h k
  unfold fIsi at h
  split at h
  · rename_i x cn
    obtain ⟨u, u', rfl, r, r'⟩ := RpCs.two hd
    cases r'
    cases z : isiD x cn with
    | none => simp only [z] at h
    | some bb =>
      simp only [z] at h
      have sc : ∀ v : V, isiS v cn = some bb → (∀ p, v ≠ .ref p) → cIsi X.K [v, .ty cn] H Q := fun v hv hn => by
        have q := k _ h _ M H Ext.refl c rfl
        unfold cIsi
        cases v <;> first | exact absurd rfl (hn _) | (simp only [hv]; exact q)
      cases x <;> simp only [isiD, reduceCtorEq] at z
      · cases r; exact sc _ z (fun p w => nomatch w)
      · cases r; exact sc _ z (fun p w => nomatch w)
      · cases r; exact sc _ z (fun p w => nomatch w)
      · cases r; exact sc _ z (fun p w => nomatch w)
      · obtain ⟨p, xs, rfl, h1, h2⟩ := (show Rp (XN X b) M (.tup _) u from r)
        split at z
        · rename_i hc
          simp only [Option.some.injEq] at z
          subst z
          exact isi_t (c.rep.sub.tup h1) hc (k _ h _ M H Ext.refl c rfl)
        · cases z
      · obtain ⟨p, xs, rfl, h1, h2⟩ := r
        split at z
        · rename_i hc
          simp only [Option.some.injEq] at z
          subst z
          exact isi_l (SqL.of ((Fv.sub (ρ := ρ) c.rep.sub).lst1 h1)) hc (k _ h _ M H Ext.refl c rfl)
        · cases z
  · exact h.elim
end
def pf_take : Pf := fun ws st k _ => match ws, st with
  | [.loc 0, .im (.int m)], [.pool] => 0 < m ∧ m < 2 ^ 250 ∧ ∀ r : Int, 0 ≤ r → r < m → k (.im (.int r)) [.pool]
  | _, _ => False
def pf_pool : Pf := fun ws st k _ => match ws, st with
  | [.im (.scr ns)], [] => ns.length ≤ 63 ∧ k (.loc 0) [.pool]
  | _, _ => False
section
variable {N : Kn}
theorem take_ok {vs : List V} {H : Hp} {Q : VK} {E : XK} (h : spD N pf_take vs H Q E) : sp_take 2 vs H Q E := by
  obtain ⟨M, ρ, ws, st, k, ex, r, rw, hf, hk, _⟩ := h
  unfold pf_take at hf
  split at hf
  · rename_i m
    obtain ⟨h1, h2, h3⟩ := hf
    obtain ⟨v, us, rfl, ⟨a, ha, rfl⟩, v2, us2, rfl, hv2, hus⟩ := rw
    cases hv2
    obtain rfl : us2 = [] := hus
    obtain ⟨hm, q, ns, i, d, s, p1, p2, p3, p4, p5, p6, p7⟩ := r.ob 0 a _ ha rfl
    have hne : q ≠ a := fun z => by rw [z, hm] at p1; cases p1
    refine ⟨by decide, q, ⟨ns, i, d, s, ⟨p2, r.sub.lst1 p1, hne, p3, p4, p5, p6, p7⟩, fun e => absurd e (by decide)⟩, h1, h2, fun rr H' g1 g2 ⟨ns', i', d', s', P⟩ fr => ?_⟩
    have hns : ns' = ns := by
      have e1 := fr.at1 (r.sub.lst1 p1) hne
      rw [P.hq] at e1
      have e2 := HO.lst.inj (Option.some.inj e1)
      exact (List.map_inj_right fun x y h => V.int.inj h).mp e2
    have hρ : ρ = [a] := by
      have hl := r.len
      match ρ, hl, ha with
      | [b], _, ha => simp at ha; rw [ha]
    subst hρ
    have E : Ext M [a] H M [a] H' := ⟨Same.refl _, Pre.refl _, fr, fun _ h => .inl h, fun _ h => .inl h⟩
    refine hk _ _ (h3 rr g1 g2) _ M [a] H' E ⟨fun b u e => ?_, rfl, r.inj, fun j b o h1 h2 => ?_⟩ rfl
    · have hb : b ≠ a := fun z => by rw [z, hm] at e; cases e
      rcases r.sub b u e with h | ⟨h, o, h'⟩
      · exact .inl (fr.at1 h hb)
      · exact .inr ⟨h, o, fr.at1 h' hb⟩
    · cases j with
      | zero =>
        simp at h1 h2
        subst h1 h2
        exact ⟨hm, q, ns, i', d', s', p1, P.hp, p3, P.hi, P.hd, P.hs, P.hs2⟩
      | succ j => simp at h1
  · exact hf.elim
theorem pool_ok {vs : List V} {H : Hp} {Q : VK} {E : XK} (h : spD N pf_pool vs H Q E) : sp_pool N.K vs H Q E := by
  obtain ⟨M, ρ, ws, st, k, ex, r, rw, hf, hk, _⟩ := h
  unfold pf_pool at hf
  split at hf
  · rename_i ns
    obtain ⟨h1, h2⟩ := hf
    obtain ⟨v, us, rfl, ⟨a, rfl, hs⟩, hus⟩ := rw
    obtain rfl : us = [] := hus
    refine ⟨ns, r.sub.seq hs, h1, fun p q H' hp hq ⟨ns', i', d', s', P⟩ sm => ?_⟩
    have hρ : ρ = [] := List.eq_nil_of_length_eq_zero r.len
    subst hρ
    have hMq := r.non hq
    have hMp := r.non hp
    have E : Ext M [] H (upd M q (.lst (ns'.map V.int))) ([] ++ [p]) H' := ⟨same_grow0 hMq, ⟨[p], rfl⟩, Fr.of sm, fun b h => by
      by_cases z : b = q
      · exact .inr (.inl (by rw [z]; exact hq))
      · rw [upd_ne z] at h; exact .inl h, fun b h => by
      have : b = p := by simpa using h
      exact .inr (by rw [this]; exact hp)⟩
    refine hk _ _ h2 _ _ _ H' E ⟨fun b u e => ?_, rfl, fun i j b e1 e2 => ?_, fun j b o e1 e2 => ?_⟩ ⟨p, rfl, rfl⟩
    · by_cases z : b = q
      · subst z
        rw [upd_same] at e
        cases e
        exact .inl P.hq
      · rw [upd_ne z] at e
        rcases r.sub b u e with h | ⟨h, o, h'⟩
        · exact .inl (sm _ _ h)
        · exact .inr ⟨h, o, sm _ _ h'⟩
    · have hi := (List.getElem?_eq_some_iff.mp e1).1
      have hj := (List.getElem?_eq_some_iff.mp e2).1
      simp at hi hj
      omega
    · cases j with
      | zero =>
        simp at e1 e2
        subst e1 e2
        refine ⟨by rw [upd_ne P.ne.symm]; exact hMp, q, ns', i', d', s', upd_same, P.hp, P.nn, P.hi, P.hd, P.hs, P.hs2⟩
      | succ j => simp at e1
  · exact hf.elim
def pf_law : Pf := fun ws st k _ => match ws, st with
  | [.im (.scr ns)], [] => ns.length ≤ 63 ∧ k (.im (.bl true)) []
  | _, _ => False
def sp_law (K : PySem.W.Frag) : Sp := fun vs H Q _ => match vs with
  | [.ref a] => ∃ ns : List Int, SqL K H a (ns.map V.int) ∧ ns.length ≤ 63 ∧ ∀ H', Q (.bl true) H'
  | _ => False
theorem law_ok {vs : List V} {H : Hp} {Q : VK} {E : XK} (h : sp_law N.K vs H Q E) : spD N pf_law vs H Q E := by
  unfold sp_law at h
  split at h
  · rename_i a
    obtain ⟨ns, h1, h2, h3⟩ := h
    refine ⟨H, [], [.im (.scr ns)], [], fun w st => w = .im (.bl true), fun _ _ _ => False, ⟨fun b u e => .inl e, rfl, fun i j b e => by simp at e, fun i b o e => by simp at e⟩, ⟨_, [], rfl, ⟨a, rfl, h1⟩, rfl⟩, ⟨h2, rfl⟩, fun w st' hw v M' ρ' H' e r rv => ?_, fun _ _ _ h => h.elim⟩
    subst hw
    cases rv
    exact h3 H'
  · exact h.elim
end
end Dl
end

section
set_option maxHeartbeats 4000000
namespace Dl
open PySem PySem.Spec PyProof.Rows L2 Co
section
variable {N : Kn} {Wx : WX} {M H M' H' : Hp} {ρ ρ' : List Addr} {σ : Sl} {st : Sto} {σV : L2.St} {ex : DX}
theorem Ext.kept {p : Addr} {o : HO} (e : Ext M ρ H M' ρ' H') (hn : p ∉ ρ) (hm : M p = Option.none) (hp : H p = some o) : H' p = some o ∧ M' p = Option.none ∧ p ∉ ρ' := by
  refine ⟨e.fr p o hp hn, ?_, fun z => ?_⟩
  · cases z : M' p with
    | none => rfl
    | some u =>
      rcases e.nw p (by rw [z]; exact fun w => nomatch w) with w | w | w
      · exact absurd hm w
      · rw [hp] at w; cases w
      · exact absurd w hn
  · rcases e.rn p z with w | w
    · exact hn w
    · rw [hp] at w; cases w
theorem Kx.adopt (c : Kx N Wx M ρ σ st H σV ex) {p : Addr} {u : HO} (hm : M p = Option.none) (hn : p ∉ ρ) (hu : H p = some u) : Same M (upd M p u) ∧ Rep N (upd M p u) ρ st H := ⟨same_grow0 hm, c.rep.adopt hm hn hu⟩
end
section
variable {X : Cx} {b : Bool} {Wx : WX} {e e1 e2 e3 : Expr} {pos : Pos} {N : Kn}
def Rpp (N : Kn) (M : Hp) : List (D × D) → List (V × V) → Prop
  | [], vs => vs = []
  | (x, y) :: r, vs => ∃ u v r', vs = (u, v) :: r' ∧ Rp N M x u ∧ Rp N M y v ∧ Rpp N M r r'
theorem Rpp.mono {M M' : Hp} (e : Same M M') : ∀ {ps : List (D × D)} {vs : List (V × V)}, Rpp N M ps vs → Rpp N M' ps vs
  | [], _, h => h
  | (_, _) :: _, _, ⟨u, v, r', h1, h2, h3, h4⟩ => ⟨u, v, r', h1, h2.mono e, h3.mono e, Rpp.mono e h4⟩
end
end Dl
end

section
set_option maxHeartbeats 4000000
namespace Dl
open PySem PySem.Spec PyProof.Rows L2 Co
theorem lc_map {n : Nat} {ds : List D} {te : DD} {vs : List Nat} {σ : Sl} {st : Sto} {K : List D → Sto → Prop} (f : Nat → D → D) (hl : ds.length ≤ 1000000) (hst : trS st.length st = st)
    (hs : ∀ (i : Nat) d, ds[i]? = some d → ∀ Q : D → Sto → Prop, Q (f i d) st → te ((wipeD σ vs).set n (some (.im d))) st Q exF) (hk : ∀ ys : List D, ys.length = ds.length → (∀ (i : Nat) d, ds[i]? = some d → ys[i]? = some (f i d)) → K ys st) : lcB ds (gN n) dYes te vs σ st K := by
  refine ⟨fun i acc st' => st' = st ∧ acc.length = i ∧ i ≤ ds.length ∧ ∀ (j : Nat) d, j < i → ds[j]? = some d → acc[j]? = some (f j d), ⟨rfl, rfl, Nat.zero_le _, fun j d h => absurd h (by omega)⟩, ?_, ?_⟩
  · rintro i d acc st' hd ⟨rfl, ha, _, hj⟩ -
    have hi := (List.getElem?_eq_some_iff.mp hd).1
    refine twoT (hs i d hd _ ⟨by omega, hst, by simp [ha], hi, fun j d' h1 h2 => ?_⟩)
    by_cases z : j = i
    · subst z
      rw [hd] at h2
      cases h2
      rw [List.getElem?_append_right (by omega), ha, Nat.sub_self]
      rfl
    · rw [List.getElem?_append_left (by omega)]
      exact hj j d' (by omega) h2
  · rintro acc st' ⟨rfl, ha, _, hj⟩ -
    exact hk acc ha fun i d h => hj i d (List.getElem?_eq_some_iff.mp h).1 h
theorem lc_fn {α β : Type} {n : Nat} {as : List α} {a : α → D} {b : β → D} {te : DD} {vs : List Nat} {σ : Sl} {st : Sto} {K : List D → Sto → Prop} (f : α → β) (hl : as.length ≤ 1000000) (hst : trS st.length st = st)
    (hs : ∀ x ∈ as, ∀ Q : D → Sto → Prop, Q (b (f x)) st → te ((wipeD σ vs).set n (some (.im (a x)))) st Q exF) (hk : K ((as.map f).map b) st) : lcB (as.map a) (gN n) dYes te vs σ st K := by
  refine lc_map (fun i _ => match as[i]? with
    | some x => b (f x)
    | none => .non) (by simpa using hl) hst (fun i d hd Q q => ?_) fun ys h1 h2 => ?_
  · rw [List.getElem?_map] at hd
    cases hx : as[i]? with
    | none => rw [hx] at hd; cases hd
    | some x =>
      rw [hx] at hd q
      cases hd
      exact hs x (List.mem_of_getElem? hx) Q q
  · have : ys = (as.map f).map b := by
      apply List.ext_getElem?
      intro i
      cases hx : as[i]? with
      | none =>
        have := List.getElem?_eq_none_iff.mp hx
        rw [List.getElem?_eq_none (by rw [h1]; simpa using this), List.getElem?_eq_none (by simpa using this)]
      | some x =>
        rw [h2 i (a x) (by rw [List.getElem?_map, hx]; rfl)]
        simp [hx]
    rw [this]
    exact hk
theorem rgD_get {lo : Int} {n i : Nat} {d : D} (h : (rgD lo n)[i]? = some d) : i < n ∧ d = .int (lo + (i : Int)) := by
  unfold rgD at h
  rw [List.getElem?_map] at h
  by_cases hi : i < n
  · rw [List.getElem?_range hi] at h
    exact ⟨hi, (Option.some.inj h).symm⟩
  · rw [List.getElem?_eq_none (by simp; omega)] at h
    cases h
theorem rgD_len {lo : Int} {n : Nat} : (rgD lo n).length = n := by simp [rgD]
end Dl
end

section
set_option maxHeartbeats 4000000
namespace Dl
open PySem PySem.Spec PyProof.Rows L2 Co
section
variable {X : Cx} {b : Bool} {Wx : WX} {e e1 e2 e3 : Expr} {pos : Pos} {N : Kn} {s s1 s2 : Stmt} {ss : List Stmt}
def TblOk (K : PySem.W.Frag) (C : Str) (tbl : List (Str × Bool)) : Prop := ∀ c v, tbl.lookup c = some v → PySem.W.exmOne K (.ref (He.ga K c)) (.ref (He.ga K C)) = some v
theorem tbl_nil {K : PySem.W.Frag} {C : Str} : TblOk K C [] := fun c v h => by cases h
theorem tbl_cons {K : PySem.W.Frag} {C c : Str} {v : Bool} {tbl : List (Str × Bool)} (h : PySem.W.exmOne K (.ref (He.ga K c)) (.ref (He.ga K C)) = some v) (t : TblOk K C tbl) : TblOk K C ((c, v) :: tbl) := fun c' v' e => by
  rw [List.lookup_cons] at e
  split at e
  · rename_i z
    cases e
    rw [beq_iff_eq.mp z]
    exact h
  · exact t c' v' e
def sTryAs (i : Nat) (tbl : List (Str × Bool)) (u : Addr → Addr → Str → DS) (t : DS) : DS := fun E σ st => t { E with ex := fun c fs σ' st' => match tbl.lookup c with
  | some true => fs ≠ [] ∧ ∀ a dd, u a dd c { E with nx := fun σ2 st2 => E.nx (σ2.set i none) st2, bk := fun σ2 st2 => E.bk (σ2.set i none) st2, ct := fun σ2 st2 => E.ct (σ2.set i none) st2 } (σ'.set i (some (.im (.exc a dd c (fs.map (·.1)) (fs.map (·.2)))))) st'
  | some false => E.ex c fs σ' st'
  | none => False } σ st
def tsD (N : Kn) (Wx : WX) (u : Addr → Addr → Str → DS) (a : Addr) (cls : Value) (d : Option Addr) : TS := fun D σ H => ∃ dd c, cls = .ref (He.ga N.K c) ∧ d = some dd ∧ lS N Wx (u a dd c) D σ H
section
variable {x n C : Str} {i : Nat} {body suite : List Stmt} {b₀ : Stmt} {np pos' : Pos} {t : DS} {u : Addr → Addr → Str → DS} {tbl : List (Str × Bool)}
theorem s_tryAs (hs : X.stack = X.env :: X.outer) (hf : X.env.frame = some X.env.locals) (hN : X.N.Nodup) (hi : X.N[i]? = some n) (hln : X.env.kindOf n = some .local) (hc : Names X x (.ref (He.ga X.K C))) (tk : Takes X Wx) (hx : TblOk X.K C tbl)
    (hb : ∀ (W : WX) (pn : List (Addr × Obj)) (xe : Value → Shared → Prop), Takes (X.tr pn xe) W → PassesOwn (model X.prog X.w) X.A X.env xe → PSs (X.tr pn xe) body (lS (XN X b) W t))
    (hsu : ∀ (a : Addr) (oe : Obj) (cls : Value) (d : Option Addr) (pn : List (Addr × Obj)), Zc cls d oe → (∃ vs, oe.data = .fields vs) → ∀ (dd : Addr) (c : Str), cls = .ref (He.ga X.K c) → d = some dd → PSs (X.suite a ((a, oe) :: pn)) (b₀ :: suite) (lS (XN X b) Wx (u a dd c))) :
    PS X (.Try body [.ExceptHandler (some (.Name x np)) (some n) (b₀ :: suite) pos'] [] [] pos) (lS (XN X b) Wx (sTryAs i tbl u t)) :=
  PS.imp (ps_try_as (tb := fun W => lS (XN X b) W t) (ts := tsD (XN X b) Wx u) (Wout := Wx) hs hf hN hi hln hc tk hb fun a oe cls d pn hz hfl => ⟨fun pins s σ H D I ⟨dd, c, h1, h2, h⟩ => (hsu a oe cls d pn hz hfl dd c h1 h2).run pins s σ H D I h⟩) fun D σV H h => by
    obtain ⟨M, ρ, σ, st, E, r, s, h, l⟩ := h
    refine ⟨M, ρ, σ, st, _, r, s, h, ⟨l.nx, l.rt, fun c fs σ' st' hx' o M' ρ' H' σV' e r' s' eo => ?_, l.bk, l.ct⟩⟩
    have hx' : (match tbl.lookup c with
      | some true => fs ≠ [] ∧ ∀ a dd, u a dd c { E with nx := fun σ2 st2 => E.nx (σ2.set i none) st2, bk := fun σ2 st2 => E.bk (σ2.set i none) st2, ct := fun σ2 st2 => E.ct (σ2.set i none) st2 } (σ'.set i (some (.im (.exc a dd c (fs.map (·.1)) (fs.map (·.2)))))) st'
      | some false => E.ex c fs σ' st'
      | none => False) := hx'
    cases hl : tbl.lookup c with
    | none => rw [hl] at hx'; exact False.elim hx'
    | some v =>
      cases v with
      | false =>
        rw [hl] at hx'
        exact ⟨false, hx c false hl, fun z => (nomatch z), fun _ => l.ex _ _ _ _ hx' o M' ρ' H' σV' e r' s' eo⟩
      | true =>
        rw [hl] at hx'
        obtain ⟨hne, hx'⟩ := hx'
        refine ⟨true, hx c true hl, fun _ a ha => ?_, fun z => (nomatch z)⟩
        cases o with
        | none => exact absurd (show fs = [] from eo) hne
        | some dd =>
          obtain ⟨fxs, g1, g2, g3⟩ := eo
          refine ⟨dd, c, rfl, rfl, M', ρ', _, st', { E with nx := fun σ2 st2 => E.nx (σ2.set i none) st2, bk := fun σ2 st2 => E.bk (σ2.set i none) st2, ct := fun σ2 st2 => E.ct (σ2.set i none) st2 }, r', s'.set (w := .im (.exc a dd c (fs.map (·.1)) (fs.map (·.2)))) ⟨rfl, fxs, g1, g2, g3⟩ i, hx' a dd, ⟨fun σ2 st2 h2 M2 ρ2 H2 σV2 e2 r2 s2 => l.nx _ _ h2 M2 ρ2 H2 _ (e.trans e2) r2 (s2.unset i none), fun w st2 h2 v M2 ρ2 H2 e2 r2 rv => l.rt _ _ h2 v M2 ρ2 H2 (e.trans e2) r2 rv,
            fun c2 fs2 σ2 st2 h2 o2 M2 ρ2 H2 σV2 e2 r2 s2 eo2 => l.ex _ _ _ _ h2 o2 M2 ρ2 H2 σV2 (e.trans e2) r2 s2 eo2, fun σ2 st2 h2 M2 ρ2 H2 σV2 e2 r2 s2 => l.bk _ _ h2 M2 ρ2 H2 _ (e.trans e2) r2 (s2.unset i none), fun σ2 st2 h2 M2 ρ2 H2 σV2 e2 r2 s2 => l.ct _ _ h2 M2 ρ2 H2 _ (e.trans e2) r2 (s2.unset i none)⟩⟩
end
theorem getK_look {M : Hp} : ∀ {fs : List (Str × V)} {ds : List D}, Rps N M ds (fs.map (·.2)) → ∀ {q : Str} {d : D}, getK (fs.map (·.1)) ds q = some d → ∃ v, fs.lookup q = some v ∧ Rp N M d v
  | [], ds, h, q, d, e => by
    cases ds <;> cases e
  | (a, v) :: fs, [], h, q, d, e => by have := h.length; simp at this
  | (a, v) :: fs, d' :: ds, ⟨x, r, h1, h2, h3⟩, q, d, e => by
    cases h1
    by_cases z : a = q
    · simp only [List.map_cons, getK, if_pos z, Option.some.injEq] at e
      subst e z
      exact ⟨v, by simp, h2⟩
    · simp only [List.map_cons, getK, if_neg z] at e
      obtain ⟨v', g1, g2⟩ := getK_look h3 e
      refine ⟨v', ?_, g2⟩
      rw [List.lookup_cons]
      have : (q == a) = false := beq_eq_false_iff_ne.mpr fun w => z w.symm
      rw [this]
      exact g1
def dXf (a dd : Addr) (c C f : Str) (t : DW) : DD := fun σ st k ex => c = C ∧ t σ st (fun w st1 => match w with
  | .im (.exc a' dd' _ ns ds) => a' = a ∧ dd' = dd ∧ (match getK ns ds f with
    | some d => k d st1
    | none => False)
  | _ => False) ex
theorem e_xf {a dd : Addr} {c C f : Str} {oe : Obj} {cls : Value} {d : Option Addr} {pn : List (Addr × Obj)} {t : DW} (T : XfC X.K (He.ga X.K C)) (hno : PySem.W.findIn X.K (.ref (He.ga X.K C)) f = some none)
    (hz : Zc cls d oe) (hf : ∃ vs, oe.data = .fields vs) (hc : cls = .ref (He.ga X.K c)) (hd : d = some dd) (he : PE (X.suite a ((a, oe) :: pn)) e (lW (XN X b) Wx t)) (hb : attributeBase e f X.env (eval e X.env) = eval e X.env := by rfl) :
    PE (X.suite a ((a, oe) :: pn)) (.Attribute e f pos) (lD (XN X b) Wx (dXf a dd c C f t)) := PE.imp (pe_xf T hno hz hf he hb) fun σV H Q h => by
  obtain ⟨M, ρ, σ, st, k, ex, cx, ⟨hcC, ht⟩, q⟩ := Kx.open_ h
  subst hcC
  refine Lf.of cx ht fun w st' hk v M' ρ' H' E c' r => ?_
  cases w with
  | loc n => exact False.elim hk
  | dead => exact False.elim hk
  | im x =>
    cases x <;> try exact False.elim hk
    rename_i a' dd' C' ns ds
    obtain ⟨rfl, rfl, hk⟩ := hk
    obtain ⟨hv, fxs, g1, g2, g3⟩ := (show Rp (XN X b) M' (.exc a' dd' C' ns ds) v from r)
    subst g2
    cases hg : getK (fxs.map (·.1)) ds f with
    | none => simp only [hg] at hk
    | some y =>
      simp only [hg] at hk
      obtain ⟨vv, l1, l2⟩ := getK_look g3 hg
      have hH : H' dd' = some (.xd fxs) := by
        rcases c'.rep.sub _ _ g1 with z | ⟨z, _⟩
        · exact z
        · cases z
      exact ⟨hv, hc, dd', fxs, vv, hd, hH, l1, q _ _ hk vv M' ρ' H' E c' l2⟩
def dIsX (a dd : Addr) (c C : Str) (v : Bool) (t : DW) : DD := fun σ st k ex => c = C ∧ t σ st (fun w st1 => match w with
  | .im (.exc a' dd' _ _ _) => a' = a ∧ dd' = dd ∧ k (.bl v) st1
  | _ => False) ex
theorem e_isX {a dd : Addr} {c C : Str} {cls : Value} {d : Option Addr} {t : DW} {v : Bool} {cV : V} {cv : Value} (h : PE X e (tCB (rIsD N.K (He.ga N.K C) a cls d) (tCons (lW N Wx t) (tCons (tC cV) tNil)))) (hc : cls = .ref (He.ga N.K c)) (hd : d = some dd)
    (hcv : ∀ u, RelV cV u → u = cv) (hk : PySem.W.kitOne N.K (.ref (He.ga N.K C)) cv = some v) : PE X e (lD N Wx (dIsX a dd c C v t)) := PE.imp h fun σV H Q h => by
  obtain ⟨M, ρ, σ, st, k, ex, cx, ⟨hcC, ht⟩, q⟩ := Kx.open_ h
  subst hcC
  refine Lf.of cx ht fun w st' hk' x M' ρ' H' E c' r => ?_
  cases w with
  | loc n => exact False.elim hk'
  | dead => exact False.elim hk'
  | im y =>
    cases y <;> try exact False.elim hk'
    rename_i a' dd' C' ns ds
    obtain ⟨rfl, rfl, hk'⟩ := hk'
    obtain ⟨hv, fxs, g1, g2, g3⟩ := (show Rp N M' (.exc a' dd' C' ns ds) x from r)
    have hH : H' dd' = some (.xd fxs) := by
      rcases c'.rep.sub _ _ g1 with z | ⟨z, _⟩
      · exact z
      · cases z
    exact ⟨cV, cv, v, dd', fxs, by rw [hv], hc, hd, hH, hcv, hk, q _ _ hk' _ M' ρ' H' E c' rfl⟩
end
end Dl
end

section
set_option maxHeartbeats 4000000
namespace Dl
open PySem PySem.Spec PyProof.Rows L2 Co
def plainDv : He.Dv → Bool
  | .non => true
  | .bl _ => true
  | .int _ => true
  | .str _ => true
  | _ => false
def chkD (K : PySem.W.Frag) : List DictEntry → List (Str × He.Dv) → Bool
  | [], [] => true
  | e :: r, q :: t => (match e.key with
    | .str x _ => decide (x = q.1)
    | _ => false) && (He.relB (q.2.v K) e.val && (plainDv q.2 && chkD K r t))
  | _, _ => false
def kdB (K : PySem.W.Frag) (a : Addr) (kvs : List (Str × He.Dv)) : Bool := match K.lookup a with
  | some ⟨_, _, .dict es _, _⟩ => chkD K es.toList kvs
  | _ => false
structure Gd (K : PySem.W.Frag) (w : World) (x : Str) (kvs : List (Str × He.Dv)) : Prop where
  kd : kdB K (He.ga K x) kvs = true
  tb : ∃ es n, KDict K w (He.ga K x) es n
section
variable {X : Cx} {Wx : WX} {e e1 e2 : Expr} {pos : Pos} {N : Kn} {x : Str} {kvs : List (Str × He.Dv)} {t : DD}
end
structure Fz (fa : List He.Fa) (fn : List He.DefD) (xs : List Ex) (kds : List (Str × List (Str × He.Dv))) (w : World) (K : PySem.W.Frag) (mg : Str → Option Value) : Prop extends Fy fa fn xs K mg where
  gds : ∀ p ∈ kds, Gd K w p.1 p.2
theorem Fz.gd {fa : List He.Fa} {fn : List He.DefD} {xs : List Ex} {kds : List (Str × List (Str × He.Dv))} {w : World} {K : PySem.W.Frag} {mg : Str → Option Value} (T : Fz fa fn xs kds w K mg) (i : Nat) {x : Str} {kvs : List (Str × He.Dv)} (h : kds[i]? = some (x, kvs) := by rfl) : Gd K w x kvs := T.gds _ (List.mem_of_getElem? h)
def tabD (kds : List (Str × List (Str × He.Dv))) : List He.Tab := kds.map fun p => ((fun K => He.ga K p.1), p.2.map (·.1))
theorem gds_of {fa : List He.Fa} {fn : List He.DefD} {kds : List (Str × List (Str × He.Dv))} {w : World} {K : PySem.W.Frag} (c : He.SaysT fa fn (tabD kds) w K) (h : (kds.all fun p => kdB K (He.ga K p.1) p.2) = true) : ∀ p ∈ kds, Gd K w p.1 p.2 := fun p hp => by
  refine ⟨List.all_eq_true.mp h p hp, ?_⟩
  obtain ⟨i, hi, e⟩ := List.mem_iff_getElem.mp hp
  exact c.tab i (t := ((fun K => He.ga K p.1), p.2.map (·.1))) (by unfold tabD; rw [List.getElem?_map, List.getElem?_eq_getElem hi, e]; rfl)
end Dl
end

section
set_option maxHeartbeats 0
namespace Co.KaF
open PySem PySem.Spec PyProof.Rows L2 Co
def top (i : Nat) : Stmt := PySem.Challenge.pw_tongues_k01_changes.main.body.getD i (.Pass ⟨0, 0, 0, 0⟩)
abbrev s_BadChange_init : Stmt := inClass (top 2) 0
def df_BadChange_init : He.DefD := ⟨("BadChange", some "__init__"), "__init__", "BadChange.__init__", defArgs s_BadChange_init, defBody s_BadChange_init, defScope s_BadChange_init, [], []⟩
abbrev s_check_change : Stmt := top 4
def df_check_change : He.DefD := ⟨("check_change", none), "check_change", "check_change", defArgs s_check_change, defBody s_check_change, defScope s_check_change, [], []⟩
abbrev s_apply_change : Stmt := top 5
def df_apply_change : He.DefD := ⟨("apply_change", none), "apply_change", "apply_change", defArgs s_apply_change, defBody s_apply_change, defScope s_apply_change, [], []⟩
abbrev s_Lpool : Stmt := top 7
abbrev N_Lpool : List Str := ["_law_script", "_law_cell"]
theorem sc_Lpool : FnScope N_Lpool ["_law_script"] (defScope s_Lpool) := ⟨rfl, rfl, rfl, by decide +kernel, rfl, by decide +kernel, by decide +kernel⟩
def df_Lpool : He.DefD := ⟨("_law_pool", none), "_law_pool", "_law_pool", defArgs s_Lpool, defBody s_Lpool, defScope s_Lpool, [], []⟩
abbrev s_Ltake : Stmt := top 8
abbrev N_Ltake : List Str := ["_law_pool_here", "_law_many", "_law_digit", "_law_cell", "_law_mixed"]
theorem sc_Ltake : FnScope N_Ltake ["_law_pool_here", "_law_many"] (defScope s_Ltake) := ⟨rfl, rfl, rfl, by decide +kernel, rfl, by decide +kernel, by decide +kernel⟩
def df_Ltake : He.DefD := ⟨("_law_take", none), "_law_take", "_law_take", defArgs s_Ltake, defBody s_Ltake, defScope s_Ltake, [], []⟩
abbrev s_Lchar : Stmt := top 9
def df_Lchar : He.DefD := ⟨("_law_char", none), "_law_char", "_law_char", defArgs s_Lchar, defBody s_Lchar, defScope s_Lchar, [], []⟩
abbrev s_Ltext : Stmt := top 10
def df_Ltext : He.DefD := ⟨("_law_text", none), "_law_text", "_law_text", defArgs s_Ltext, defBody s_Ltext, defScope s_Ltext, [], []⟩
abbrev s_Lsize : Stmt := top 11
def df_Lsize : He.DefD := ⟨("_law_size", none), "_law_size", "_law_size", defArgs s_Lsize, defBody s_Lsize, defScope s_Lsize, [], []⟩
abbrev s_Lchange : Stmt := top 12
def df_Lchange : He.DefD := ⟨("_law_change", none), "_law_change", "_law_change", defArgs s_Lchange, defBody s_Lchange, defScope s_Lchange, [], []⟩
abbrev s_Lmarked : Stmt := top 13
def df_Lmarked : He.DefD := ⟨("_law_marked", none), "_law_marked", "_law_marked", defArgs s_Lmarked, defBody s_Lmarked, defScope s_Lmarked, [], []⟩
abbrev s_Lafter : Stmt := top 14
def df_Lafter : He.DefD := ⟨("_law_after", none), "_law_after", "_law_after", defArgs s_Lafter, defBody s_Lafter, defScope s_Lafter, [], []⟩
abbrev s_Lis_integer : Stmt := top 15
def df_Lis_integer : He.DefD := ⟨("_law_is_integer", none), "_law_is_integer", "_law_is_integer", defArgs s_Lis_integer, defBody s_Lis_integer, defScope s_Lis_integer, [], []⟩
abbrev s_Lsame : Stmt := top 16
def df_Lsame : He.DefD := ⟨("_law_same", none), "_law_same", "_law_same", defArgs s_Lsame, defBody s_Lsame, defScope s_Lsame, [], []⟩
abbrev s_Lwild : Stmt := top 17
def df_Lwild : He.DefD := ⟨("_law_wild", none), "_law_wild", "_law_wild", defArgs s_Lwild, defBody s_Lwild, defScope s_Lwild, [], []⟩
abbrev s_Lwrong : Stmt := top 18
def df_Lwrong : He.DefD := ⟨("_law_wrong", none), "_law_wrong", "_law_wrong", defArgs s_Lwrong, defBody s_Lwrong, defScope s_Lwrong, [], []⟩
abbrev s_Ltold : Stmt := top 19
def df_Ltold : He.DefD := ⟨("_law_told", none), "_law_told", "_law_told", defArgs s_Ltold, defBody s_Ltold, defScope s_Ltold, [], []⟩
abbrev s_law : Stmt := top 20
def df_law : He.DefD := ⟨("law", none), "law", "law", defArgs s_law, defBody s_law, defScope s_law, [], []⟩
def fn : List He.DefD := [df_BadChange_init, df_check_change, df_apply_change, df_Lpool, df_Ltake, df_Lchar, df_Ltext, df_Lsize, df_Lchange, df_Lmarked, df_Lafter, df_Lis_integer, df_Lsame, df_Lwild, df_Lwrong, df_Ltold, df_law]
def xs : List Ex := [.oex "BadChange", .init "BadChange", .nofld "BadChange" "number", .nofld "BadChange" "reason", .kit "BadChange" "TongueError" true, .isc "BadChange", .kitT "BadChange" "ValueError" true]
def kds : List (Str × List (Str × He.Dv)) := []
def exB (K : PySem.W.Frag) : Bool := (xs.all fun e => e.ok K) && kds.all fun p => Dl.kdB K (He.ga K p.1) p.2
def fa : List He.Fa := [.free "enumerate", .free "len", .glo "BadChange", .free "int", .glo "_law_take", .free "range", .glo "_law_char", .free "min", .glo "_law_text", .glo "_law_marked", .free "isinstance", .free "bool", .free "tuple", .glo "_law_same", .free "all", .free "list", .free "str", .glo "_law_is_integer", .glo "check_change", .exm "BadChange" "BadChange" true, .glo "TongueError", .free "ValueError", .glo "_law_pool", .glo "_law_size", .glo "_law_change", .glo "_law_wild", .free "repr", .glo "_law_after", .glo "_law_told", .glo "apply_change", .glo "_law_wrong", .glo "law"]
abbrev R : PySem.W.OpenRow := PySem.W.OpenLaw.row PySem.Challenge.rw_tongues_k01_changes
abbrev hk : PySem.W.Hook := He.hookX 5 fa fn (Dl.tabD kds) [] exB
def ob (s : PySem.W.SharedT) : He.AlX := He.obsX 5 fa fn (Dl.tabD kds) [] exB (HandSHeadRun.getT s)
theorem ob_eq (s : PySem.W.SharedT) : ob s = hk.obs s.abs := He.obsX_eq (HandSHeadRun.getT_eq s)
def loose : List Str := (["TongueError", "BadChange", "check_change", "apply_change", "_law_pool", "_law_take", "_law_char", "_law_text", "_law_size", "_law_change", "_law_marked", "_law_after", "_law_is_integer", "_law_same", "_law_wild", "_law_wrong", "_law_told"] : List Str)
theorem run (w : World) : HandSHeadRun.RunEq R (PySem.W.view R.prog [20]) hk ob 9000 loose w := by
  intro os
  kernel_rfl
end Co.KaF
end

section
set_option maxHeartbeats 4000000
namespace Dl
open PySem PySem.Spec PyProof.Rows L2 Co
end Dl
end

section
set_option maxHeartbeats 4000000
namespace Dl
open PySem PySem.Spec PyProof.Rows L2 Co
section
variable {X : Cx} {b : Bool} {Wx : WX} {e e1 e2 e3 tg : Expr} {pos : Pos} {N : Kn}
end
end Dl
namespace Dl
open PySem PySem.Spec PyProof.Rows L2 Co
section
variable {σ : Sl} {st : Sto} {E : En} {i n : Nat} {xs ys : List D} {ex : DX}
theorem dV_at {w : W} {k : W → Sto → Prop} (h : σ[i]? = some (some w)) (hk : k w st) : dV i σ st k ex := by
  unfold dV
  rw [h]
  exact hk
theorem dD_at {k : D → Sto → Prop} {d : D} (h1 : σ[i]? = some (some (.im d))) (hk : k d st) : dD (dV i) σ st k ex := dV_at h1 hk
end
end Dl
end

section
set_option maxHeartbeats 4000000
namespace Dl
open PySem PySem.Spec PyProof.Rows L2 Co
section
variable {σ : Sl} {st : Sto} {E : En} {ex : DX}
theorem sIf_of {c : DT} {t u : DS} (h : c σ st (fun b st1 => two b (t E σ st1) (u E σ st1)) (exE E σ)) : sIf c t u E σ st := h
theorem sSeq_of {t u : DS} (h : t { E with nx := fun σ' st' => u E σ' st' } σ st) : sSeq t u E σ st := h
theorem sAsg_of {i : Nat} {t : DW} (h : t σ st (fun w st1 => E.nx (σ.set i (some w)) st1) (exE E σ)) : sAsg i t E σ st := h
theorem sAsgG_of {t : DD} {g : DG} (h : t σ st (fun d st1 => g d σ fun σ' => E.nx σ' st1) (exE E σ)) : sAsgG t g E σ st := h
theorem sRet_of {t : DW} (h : t σ st (fun w st1 => E.rt w st1) (exE E σ)) : sRet t E σ st := h
theorem dI_of {t : DD} {k : W → Sto → Prop} (h : t σ st (fun d st1 => k (.im d) st1) ex) : dI t σ st k ex := h
theorem dC_of {d : D} {k : D → Sto → Prop} (h : k d st) : dC d σ st k ex := h
theorem dCmp_of {f : C2} {ta tb : DW} {k : Bool → Sto → Prop} (h : ta σ st (fun x st1 => tb σ st1 (fun y st2 => match seeW x st2, seeW y st2 with
  | some d, some e => f d e fun b => k b st2
  | _, _ => False) ex) ex) : dCmp f ta tb σ st k ex := h
theorem dIx_of {ta : DW} {ti : DD} {k : D → Sto → Prop} (h : ta σ st (fun w st1 => ti σ st1 (fun i st2 => match seeW w st2 with
  | some x => atD x i fun d => k d st2
  | none => False) ex) ex) : dIx ta ti σ st k ex := h
theorem dOp_of {f : F2} {ta tb : DD} {k : D → Sto → Prop} (h : ta σ st (fun x st1 => tb σ st1 (fun y st2 => f x y fun d => k d st2) ex) ex) : dOp f ta tb σ st k ex := h
theorem dUn_of {f : D → (D → Prop) → Prop} {ta : DD} {k : D → Sto → Prop} (h : ta σ st (fun x st1 => f x fun d => k d st1) ex) : dUn f ta σ st k ex := h
theorem dB_of {t : DT} {k : D → Sto → Prop} (h : t σ st (fun b st1 => k (.bl b) st1) ex) : dB t σ st k ex := h
theorem dNot_of {t : DT} {k : Bool → Sto → Prop} (h : t σ st (fun b st1 => k (!b) st1) ex) : dNot t σ st k ex := h
theorem dAnd_of {t u : DT} {k : Bool → Sto → Prop} (h : t σ st (fun b st1 => two b (u σ st1 k ex) (k false st1)) ex) : dAnd t u σ st k ex := h
theorem dOr_of {t u : DT} {k : Bool → Sto → Prop} (h : t σ st (fun b st1 => two b (k true st1) (u σ st1 k ex)) ex) : dOr t u σ st k ex := h
theorem dTup_of {t : DAD} {k : D → Sto → Prop} (h : t σ st (fun ds st1 => ds.length ≤ 1000000 ∧ k (.tup ds) st1) ex) : dTup t σ st k ex := h
theorem dLst_of {t : DAD} {k : D → Sto → Prop} (h : t σ st (fun ds st1 => ds.length ≤ 1000000 ∧ k (.lst ds) st1) ex) : dLst t σ st k ex := h
theorem dLstM_of {t : DAD} {k : W → Sto → Prop} (h : t σ st (fun ds st1 => ds.length ≤ 1000000 ∧ k (.loc st1.length) (st1 ++ [.lst ds])) ex) : dLstM t σ st k ex := h
theorem adCons_of {t : DD} {r : DAD} {k : List D → Sto → Prop} (h : t σ st (fun w st1 => r σ st1 (fun ws st2 => k (w :: ws) st2) ex) ex) : adCons t r σ st k ex := h
theorem adNil_of {k : List D → Sto → Prop} (h : k [] st) : adNil σ st k ex := h
theorem aCons_of {t : DW} {r : DA} {k : List W → Sto → Prop} (h : t σ st (fun w st1 => r σ st1 (fun ws st2 => k (w :: ws) st2) ex) ex) : aCons t r σ st k ex := h
theorem aNil_of {k : List W → Sto → Prop} (h : k [] st) : aNil σ st k ex := h
theorem dCall_of {f : Pf} {ta : DA} {k : W → Sto → Prop} (h : ta σ st (fun ws st1 => callD f (reach st1 ws) ws st1 k ex) ex) : dCall f ta σ st k ex := h
theorem dTru_of {t : DW} {k : Bool → Sto → Prop} (h : t σ st (fun w st1 => match seeW w st1 with
  | some d => truD d fun b => k b st1
  | none => False) ex) : dTru t σ st k ex := h
theorem dCB_of {f : FL} {ta : DA} {k : D → Sto → Prop} (h : ta σ st (fun ws st1 => match seeWs ws st1 with
  | some ds => f ds fun d => k d st1
  | none => False) ex) : dCB f ta σ st k ex := h
end
end Dl
namespace Dl
open PySem PySem.Spec PyProof.Rows L2 Co
section
variable {σ : Sl} {st : Sto} {E : En} {ex : DX}
theorem sApp_of {to : DW} {t : DD} (h : to σ st (fun o st1 => (∃ ds, seeW o st1 = some (.lst ds)) ∧ t σ st1 (fun d st2 => match o with
  | .loc n => (match st2[n]? with
    | some (.lst ds) => ds.length ≤ 1000000 ∧ E.nx σ (st2.set n (.lst (ds ++ [d])))
    | _ => False)
  | _ => False) (exE E σ)) (exE E σ)) : sApp to t E σ st := h
end
end Dl
namespace Dl
open PySem PySem.Spec PyProof.Rows L2 Co
theorem atT0 {x : D} {r : List D} {k : D → Prop} (h : k x) : atD (.tup (x :: r)) (.int 0) k := by
  show (match atI (x :: r) ((0 : Nat) : Int) with | some d => k d | none => False)
  rw [atI_nat (v := x) rfl]
  exact h
end Dl
namespace Dl
theorem sNext_seq {u : DS} {E : En} {σ : Sl} {st : Sto} (h : u E σ st) : sNext { E with nx := fun σ' st' => u E σ' st' } σ st := h
end Dl
end

section
set_option maxHeartbeats 4000000
namespace Dl
open PySem PySem.Spec PyProof.Rows L2 Co
section
variable {X : Cx} {b : Bool} {Wx : WX} {N : Kn} {s : Stmt}
end
end Dl
end

section
set_option maxHeartbeats 4000000
namespace Dl
open PySem PySem.Spec PyProof.Rows L2 Co
section
variable {κ : Type} [DecidableEq κ]
end
section
variable {P : Program} {w : World} {A : Around} {κ : Type} [DecidableEq κ] {knd : KeyKind P w κ}
end
section
variable {P : Program} {w : World} {A : Around} {E : Value → Shared → Prop} {s : Shared} {κ : Type} [DecidableEq κ] {knd : KeyKind P w κ}
end
end Dl
end

section
set_option maxHeartbeats 4000000
namespace Dl
open PySem PySem.Spec PyProof.Rows L2 Co
section
variable {X : Cx} {b : Bool} {Wx : WX} {e e1 e2 e3 : Expr} {es : List Expr} {pos p p2 q apos : Pos} {N : Kn}
end
mutual
inductive Dp : Sto → W → D → Sto → Prop
  | im {st d} : Dp st (.im d) d st
  | flat {st n o d} : st[n]? = some o → flat o = some d → Dp st (.loc n) d (st.set n (.fz d))
  | ins {st n C fs ds st'} : st[n]? = some (.ins C fs) → Dps st (fs.map (·.2)) ds st' → st'[n]? = some (.ins C fs) → Dp st (.loc n) (.ins C (fs.map (·.1)) ds) (st'.set n (.fz (.ins C (fs.map (·.1)) ds)))
  | lsW {st n ws ds st'} : st[n]? = some (.lsW ws) → Dps st ws ds st' → st'[n]? = some (.lsW ws) → Dp st (.loc n) (.lst ds) (st'.set n (.fz (.lst ds)))
  | dcW {st n ks ws ds st'} : st[n]? = some (.dcW ks ws) → Dps st ws ds st' → st'[n]? = some (.dcW ks ws) → Dp st (.loc n) (.dct ks ds) (st'.set n (.fz (.dct ks ds)))
inductive Dps : Sto → List W → List D → Sto → Prop
  | nil {st} : Dps st [] [] st
  | cons {st w d st1 ws ds st2} : Dp st w d st1 → Dps st1 ws ds st2 → Dps st (w :: ws) (d :: ds) st2
end
section
variable {N : Kn} {M H : Hp} {ρ : List Addr} {st st' : Sto}
mutual
theorem Dp.ok : ∀ {st : Sto} {w : W} {d : D} {st' : Sto} {M : Hp} {v : V}, Dp st w d st' → Rep N M ρ st H → Rw N M ρ w v → ∃ M', Ext M ρ H M' ρ H ∧ Rep N M' ρ st' H ∧ Rp N M' d v
  | _, _, _, _, M, _, .im, r, h => ⟨M, Ext.refl, r, h⟩
  | _, _, _, _, M, _, .flat ho e, r, ⟨a, ha, hv⟩ => by
    subst hv
    exact flat_ok r ha ho e
  | _, _, _, _, M, _, @Dp.ins st n C fs ds st' h1 h2 h3, r, ⟨a, ha, hv⟩ => by
    subst hv
    obtain ⟨hm, dx, xs, q1, q2, q3⟩ := r.ob n a _ ha h1
    obtain ⟨M1, E1, R1, r1⟩ := Dps.ok h2 r q3
    obtain ⟨hm1, _⟩ := R1.ob n a _ ha h3
    have hd : Rp N (upd M1 a (.ins (He.ga N.K C) dx xs)) (.ins C (fs.map (·.1)) ds) (.ref a) := ⟨a, dx, xs, rfl, upd_same, q2, r1.mono (same_grow0 hm1)⟩
    exact ⟨_, E1.trans (Ext.fz (List.mem_of_getElem? ha) hm1), R1.fz ha hm1 q1 hd, hd⟩
  | _, _, _, _, M, _, @Dp.lsW st n ws ds st' h1 h2 h3, r, ⟨a, ha, hv⟩ => by
    subst hv
    obtain ⟨hm, xs, q1, q3⟩ := r.ob n a _ ha h1
    obtain ⟨M1, E1, R1, r1⟩ := Dps.ok h2 r q3
    obtain ⟨hm1, _⟩ := R1.ob n a _ ha h3
    have hd : Rp N (upd M1 a (.lst xs)) (.lst ds) (.ref a) := ⟨a, xs, rfl, upd_same, r1.mono (same_grow0 hm1)⟩
    exact ⟨_, E1.trans (Ext.fz (List.mem_of_getElem? ha) hm1), R1.fz ha hm1 q1 hd, hd⟩
  | _, _, _, _, M, _, @Dp.dcW st n ks ws ds st' h1 h2 h3, r, ⟨a, ha, hv⟩ => by
    subst hv
    obtain ⟨hm, xs, q1, q2, q3⟩ := r.ob n a _ ha h1
    obtain ⟨M1, E1, R1, r1⟩ := Dps.ok h2 r q3
    obtain ⟨hm1, _⟩ := R1.ob n a _ ha h3
    have hd : Rp N (upd M1 a (.dK xs)) (.dct ks ds) (.ref a) := ⟨a, xs, rfl, upd_same, q2, r1.mono (same_grow0 hm1)⟩
    exact ⟨_, E1.trans (Ext.fz (List.mem_of_getElem? ha) hm1), R1.fz ha hm1 q1 hd, hd⟩
theorem Dps.ok : ∀ {st : Sto} {ws : List W} {ds : List D} {st' : Sto} {M : Hp} {vs : List V}, Dps st ws ds st' → Rep N M ρ st H → Rws N M ρ ws vs → ∃ M', Ext M ρ H M' ρ H ∧ Rep N M' ρ st' H ∧ Rps N M' ds vs
  | _, _, _, _, M, _, .nil, r, h => ⟨M, Ext.refl, r, h⟩
  | _, _, _, _, M, _, .cons h1 h2, r, ⟨x, q, e, hx, hq⟩ => by
    subst e
    obtain ⟨M1, E1, R1, r1⟩ := Dp.ok h1 r hx
    obtain ⟨M2, E2, R2, r2⟩ := Dps.ok h2 R1 (Rws.ext hq E1)
    exact ⟨M2, E1.trans E2, R2, Rps.cons (Rp.ext r1 E2) r2⟩
end
end
section
variable {X : Cx} {b : Bool} {Wx : WX} {e e1 e2 e3 : Expr} {es : List Expr} {pos p apos : Pos} {N : Kn} {x m : Str} {k : Nat} {f C : Addr} {ps : List Str} {pf : Pf} {M H M' H' : Hp} {ρ ρ' : List Addr} {σ : Sl} {st : Sto} {σV : L2.St} {ex : DX}
end
section
variable {X : Cx} {b : Bool} {Wx : WX} {e e1 e2 e3 : Expr} {es : List Expr} {pos p apos : Pos} {N : Kn} {s : Stmt}
theorem Rws.append {M : Hp} {ρ : List Addr} : ∀ {ds es : List W} {vs ws : List V}, Rws N M ρ ds vs → Rws N M ρ es ws → Rws N M ρ (ds ++ es) (vs ++ ws)
  | [], _, _, _, h, t => by rw [show _ = [] from h]; exact t
  | _ :: _, _, _, _, ⟨x, r, h1, h2, h3⟩, t => by
    subst h1
    exact ⟨x, r ++ _, rfl, h2, Rws.append h3 t⟩
end
def sp_xinit2 (K : PySem.W.Frag) (f g : Str) : Sp := fun vs H Q _ => match vs with
  | [.ref a, y, z] => ∃ C, H a = some (exo a C none) ∧ OexC K C ∧ PySem.W.findIn K (.ref C) f = some none ∧ PySem.W.findIn K (.ref C) g = some none ∧ ∀ dx, H dx = none → dx ≠ a → Q .non (upd (upd (upd H dx (exd dx [(f, y)])) a (exo a C (some dx))) dx (exd dx [(g, z), (f, y)]))
  | _ => False
theorem r_xinit2 {K : PySem.W.Frag} {f g n0 n1 n2 : Str} {vs : List V} {H : Hp} {Q : VK} {E : XK} (h : sp_xinit2 K f g vs H Q E) : tSeq (tOst K f (tV 0) (tV 1)) (tOst K g (tV 0) (tV 2)) { nx := fun _ H' => Q .non H', rt := Q } (start [n0, n1, n2] vs) H := by
  unfold sp_xinit2 at h
  split at h
  · obtain ⟨C, h1, h2, h3, h4, h5⟩ := h
    refine ⟨_, C, rfl, h2, h3, .inl ⟨h1, fun dx hd hne => ?_⟩⟩
    refine ⟨_, C, rfl, h2, h4, .inr ⟨dx, [(f, _)], upd_same, ?_, (by decide : 1 ≤ 900), h5 dx hd hne⟩⟩
    rw [upd_ne hne]
    exact upd_same
  · exact h.elim
def sRaise2 (C f g : Str) (t u : DD) : DS := fun E σ st => t σ st (fun d st1 => u σ st1 (fun d2 st2 => E.ex C [(g, d2), (f, d)] σ st2) (exE E σ)) (exE E σ)
theorem exc_heap2 {H : Hp} {a dx : Addr} {C : Addr} {l l2 : List (Str × V)} (ha : H a = none) (hne : dx ≠ a) : upd (del (upd (upd (upd (upd H a (exo a C none)) dx (exd dx l)) a (exo a C (some dx))) dx (exd dx l2)) a) dx (.xd l2) = upd H dx (.xd l2) := by
  funext b
  unfold upd del
  by_cases h1 : b = dx
  · rw [if_pos h1, if_pos h1]
  · rw [if_neg h1, if_neg h1]
    by_cases h2 : b = a
    · rw [if_pos h2, h2, ha]
    · rw [if_neg h2]
      show (if b = dx then _ else if b = a then _ else if b = dx then _ else if b = a then _ else H b) = H b
      rw [if_neg h1, if_neg h2, if_neg h1, if_neg h2]
section
variable {X : Cx} {b : Bool} {Wx : WX} {s : Stmt}
theorem s_raise2 {C f g : Str} {t u : DD} (h : PS X s (sRaiseO Wx (He.ga X.K C) (sp_xinit2 X.K f g) (tCons (lD (XN X b) Wx t) (tCons (lD (XN X b) Wx u) tNil)))) (o : OexC X.K (He.ga X.K C)) (n : PySem.W.findIn X.K (.ref (He.ga X.K C)) f = some none) (n2 : PySem.W.findIn X.K (.ref (He.ga X.K C)) g = some none) :
    PS X s (lS (XN X b) Wx (sRaise2 C f g t u)) := PS.imp h fun D σV H h => by
  obtain ⟨M, ρ, σ, st, E, r, s, h, l⟩ := h
  refine Lf.of (l.kx r s) h fun d st1 hk v M1 ρ1 H1 E1 c1 rv => Lf.of c1 hk fun d2 st2 hk v2 M2 ρ2 H2 E2 c2 rv2 => ⟨(by decide : 2 ≤ 1000), fun a ha => ⟨_, upd_same, o, n, n2, fun dx hdx hne => ⟨rfl, dx, [(g, v2), (f, v)], ?_, upd_same, ?_, ?_⟩⟩⟩
  · rw [upd_ne (fun z => hne z.symm)]; exact upd_same
  · rw [upd_ne hne] at hdx; exact hdx
  · rw [exc_heap2 ha hne]
    rw [upd_ne hne] at hdx
    obtain ⟨e2, c3⟩ := c2.new (o := .xd [(g, v2), (f, v)]) hdx
    exact l.ex C [(g, d2), (f, d)] σ st2 hk (some dx) _ ρ2 _ σV ((E1.trans E2).trans e2) c3.rep c3.rs ⟨[(g, v2), (f, v)], upd_same, rfl, Rps.cons (Rp.ext rv2 e2) (Rps.cons (Rp.ext (Rp.ext rv E2) e2) Rps.nil)⟩
end
end Dl
end

section
set_option maxHeartbeats 4000000
namespace Dl
open PySem PySem.Spec PyProof.Rows L2 Co
section
variable {M : Model} {A : Around} {E : Value → Shared → Prop} {s : Shared} {env : Env}
end
section
variable {X : Cx} {pins : List (Addr × Obj)} {σ : L2.St} {H : Hp} {s s' : Shared} {W : WX} {Ek : XK}
end
section
variable {X : Cx}
end
section
variable {X : Cx} {b : Bool} {Wx : WX} {N : Kn}
section
variable {elt iter tg : Expr} {pos : Pos} {ifs : List Expr} {scope : Scope} {own : List (Str × Nat)} {it : Lv (List D)} {g : DG} {gV : TG} {tt : DT} {te : DD}
variable {i : Nat} {y : Str} {py spos : Pos}
end
end
section
variable {X : Cx} {b : Bool} {Wx : WX} {x C : Str} {body suite : List Stmt} {b₀ : Stmt} {np pos pos' : Pos} {t u : DS} {tbl : List (Str × Bool)}
end
end Dl
end

section
set_option maxHeartbeats 4000000
namespace Dl
open PySem PySem.Spec PyProof.Rows L2 Co PpSet
section
variable {X : Cx}
end
section
variable {X : Cx}
end
end Dl
end

section
set_option maxHeartbeats 4000000
namespace Dl
open PySem PySem.Spec PyProof.Rows L2 Co PpSet
section
variable {N : Kn} {Wx : WX} {M H M' H' : Hp} {ρ ρ' : List Addr} {σ : Sl} {st : Sto} {σV : L2.St} {ex : DX}
theorem Rep.other (r : Rep N M ρ st H) {D : Addr} (hm : M D = none) (hn : D ∉ ρ) (u : HO) : Rep N M ρ st (upd H D u) := by
  refine ⟨fun b o z => ?_, r.len, r.inj, fun i a o h1 h2 => ?_⟩
  · have hb : b ≠ D := fun w => by rw [w, hm] at z; cases z
    rw [upd_ne hb]
    exact r.sub b o z
  · have ha : a ≠ D := fun w => hn (by rw [← w]; exact List.mem_of_getElem? h1)
    exact (r.ob i a o h1 h2).mono (Same.refl _) (Pre.refl _) (fun z => z) fun u hu => by rw [upd_ne ha]; exact hu
theorem Ext.base {D : Addr} (r : Rep N M ρ st H) (E : Ext M' ρ' H' M ρ H) (hD : H D = none) : H' D = none := by
  cases z : H' D with
  | none => rfl
  | some o =>
    by_cases w : D ∈ ρ'
    · exact absurd hD (r.mem (E.pre.mem w))
    · rw [E.fr D o z w] at hD; cases hD
end
section
variable {N : Kn} {Wx : WX}
end
section
variable {X : Cx} {b : Bool} {Wx : WX} {N : Kn} {elt tg iter : Expr} {ifs : List Expr} {scope : Scope} {own : List (Str × Nat)} {it : Lv (List D)} {g : DG} {gV : TG} {tt : DT} {te : DD} {p pos spos : Pos}
end
section
variable {N : Kn} {Wx : WX}
end
section
variable {X : Cx} {Wx : WX} {N : Kn} {elt tg iter tg1 iter1 : Expr} {ifs ifs1 : List Expr} {scope : Scope} {own : List (Str × Nat)} {it it1 : Lv (List D)} {g g1 : DG} {gV gV1 : TG} {tt tt1 : DT} {te : DD} {vs1 : List Nat} {pos : Pos}
variable {i : Nat} {y : Str} {py spos : Pos}
end
end Dl
end

section
set_option maxHeartbeats 4000000
namespace Dl
open PySem PySem.Spec PyProof.Rows L2 Co
section
variable {X : Cx} {b : Bool} {Wx : WX} {e : Expr} {es : List Expr} {p : Pos}
end
end Dl
end

section
set_option maxHeartbeats 4000000
namespace Dl
open PySem PySem.Spec PyProof.Rows L2 Co
mutual
def pdD : D → PyData
  | .bl b => .bool b
  | .int i => .int i
  | .str x => .str x
  | .tup ds => .tuple (pdDs ds)
  | .lst ds => .list (pdDs ds)
  | _ => .none
def pdDs : List D → List PyData
  | [] => []
  | d :: ds => pdD d :: pdDs ds
end
mutual
def shw : D → Bool
  | .non => true
  | .bl _ => true
  | .int i => decide (i.natAbs.log2 < 1920)
  | .str _ => true
  | .tup ds => shws ds
  | .lst ds => shws ds
  | _ => false
def shws : List D → Bool
  | [] => true
  | d :: ds => shw d && shws ds
end
mutual
theorem pd_showable : ∀ {d : D}, shw d = true → (pdD d).showable = true ∧ (pdD d).hasDict = false
  | .non, _ => by simp [pdD, PyData.showable, PyData.hasDict]
  | .bl _, _ => by simp [pdD, PyData.showable, PyData.hasDict]
  | .int i, h => by
    unfold shw at h
    simp only [pdD, PyData.showable, PyData.hasDict]
    exact ⟨h, trivial⟩
  | .str _, _ => by simp [pdD, PyData.showable, PyData.hasDict]
  | .tup ds, h => by
    unfold shw at h
    have := pds_showable h
    simp only [pdD, PyData.showable, PyData.hasDict]
    exact this
  | .lst ds, h => by
    unfold shw at h
    have := pds_showable h
    simp only [pdD, PyData.showable, PyData.hasDict]
    exact this
theorem pds_showable : ∀ {ds : List D}, shws ds = true → PyData.showableAll (pdDs ds) = true ∧ PyData.hasDictAll (pdDs ds) = false
  | [], _ => by simp [pdDs, PyData.showableAll, PyData.hasDictAll]
  | d :: ds, h => by
    unfold shws at h
    rw [Bool.and_eq_true] at h
    obtain ⟨a, b⟩ := pd_showable h.1
    obtain ⟨a', b'⟩ := pds_showable h.2
    simp [pdDs, PyData.showableAll, PyData.hasDictAll, a, b, a', b']
end
section
variable {X : Cx} {b : Bool} {pins : List (Addr × Obj)} {σ : L2.St} {H F : Hp} {s : Shared}
mutual
theorem pd_reads (I : Inv X pins σ H s) (S : Sub F H) : ∀ {d : D} {v : V} {u : Value}, shw d = true → Rp ⟨X.K, b⟩ F d v → RelV v u → ∃ as, Reads s.heap u (pdD d) as
  | .non, _, u, _, h, r => by
    cases (show _ = V.non from h)
    cases (show u = Value.none from r)
    exact ⟨_, by unfold pdD; exact .none⟩
  | .bl x, _, u, _, h, r => by
    cases (show _ = V.bl x from h)
    cases (show u = Value.bool x from r)
    exact ⟨_, by unfold pdD; exact .bool x⟩
  | .int i, _, u, _, h, r => by
    cases (show _ = V.int i from h)
    obtain ⟨t, rfl⟩ := (show ∃ t, u = Value.int i t from r)
    exact ⟨_, by unfold pdD; exact .int i t⟩
  | .str x, _, u, _, h, r => by
    cases (show _ = V.str x from h)
    obtain ⟨t, rfl⟩ := (show ∃ t, u = Value.str x t from r)
    exact ⟨_, by unfold pdD; exact .str x t⟩
  | .tup ds, _, u, hs, ⟨p, xs, h1, h2, h3⟩, r => by
    subst h1
    cases (show u = Value.ref p from r)
    obtain ⟨its, rv, ⟨o, e1, e2, n, e3⟩, _⟩ := I.tuple (S.tup h2)
    unfold shw at hs
    obtain ⟨as, ha⟩ := pds_reads I S hs h3 rv
    exact ⟨_, by unfold pdD; exact .tuple e1 e2 e3 ha⟩
  | .lst ds, _, u, hs, ⟨p, xs, h1, h2, h3⟩, r => by
    subst h1
    cases (show u = Value.ref p from r)
    obtain ⟨_, its, n, rv, e⟩ := I.hok _ _ (S.lst1 h2)
    unfold shw at hs
    obtain ⟨as, ha⟩ := pds_reads I S hs h3 rv
    exact ⟨_, by unfold pdD; exact .list e rfl rfl ha⟩
theorem pds_reads (I : Inv X pins σ H s) (S : Sub F H) : ∀ {ds : List D} {vs : List V} {us : List Value}, shws ds = true → Rps ⟨X.K, b⟩ F ds vs → Vals vs us → ∃ as, ReadsAll s.heap us (pdDs ds) as
  | [], vs, us, _, h, r => by
    rw [show vs = [] from h] at r
    cases r
    exact ⟨_, by unfold pdDs; exact .nil⟩
  | d :: ds, vs, us, hs, ⟨x, q, h1, h2, h3⟩, r => by
    subst h1
    unfold shws at hs
    rw [Bool.and_eq_true] at hs
    cases r with
    | cons r1 r2 =>
      obtain ⟨a, ha⟩ := pd_reads I S hs.1 h2 r1
      obtain ⟨a', ha'⟩ := pds_reads I S hs.2 h3 r2
      exact ⟨_, by unfold pdDs; exact .cons ha ha'⟩
end
def isSeqD : D → Bool
  | .tup _ => true
  | .lst _ => true
  | _ => false
def fRepr : FL := fun xs k => match xs with
  | [x] => isSeqD x = true ∧ shw x = true ∧ (pdD x).depth ≤ 60 ∧ (pdD x).shown.length ≤ sizeLine ∧ k (.str (pdD x).shown)
  | _ => False
def rRepr (N : Kn) : List V → Hp → VK → Prop := fun xs H Q => ∃ F d v, xs = [v] ∧ Sub F H ∧ Rp N F d v ∧ isSeqD d = true ∧ shw d = true ∧ (pdD d).depth ≤ 60 ∧ (pdD d).shown.length ≤ sizeLine ∧ Q (.str (pdD d).shown) H
theorem c_repr (hg : X.A.guards = some []) (hr : Room 0 X.A) : CallR X (.builtin "repr") (rRepr ⟨X.K, b⟩) := by
  intro pins s σ H xs us Q I r h
  obtain ⟨F, d, v, rfl, S, rp, hd, hs, hz, hl, q⟩ := h
  obtain ⟨u, rfl, ru⟩ := vals1 r
  obtain ⟨a, rfl⟩ : ∃ a, u = Value.ref a := by
    cases d with
    | tup ds => obtain ⟨p, xs, h1, _⟩ := rp; subst h1; exact ⟨p, ru⟩
    | lst ds => obtain ⟨p, xs, h1, _⟩ := rp; subst h1; exact ⟨p, ru⟩
    | _ => cases hd
  obtain ⟨as, ha⟩ := pd_reads I S hs rp ru
  obtain ⟨p1, p2⟩ := pd_showable hs
  have hun := hr.un
  exact repr_of_reads' ha p1 (PyData.noDict_hsm p2) hg (by omega) (fun _ _ e => e) (fun h' t k hk => ⟨.str _, H, I.kept hk, ⟨_, rfl⟩, q⟩) hl
end
theorem ok_repr {N : Kn} : CallOk N (rRepr N) fRepr := by
  intro Wx M H ρ σ st σV ex ds us kd Q c hd h k
  unfold fRepr at h
  split at h
  · obtain ⟨u, rfl, r⟩ := RpCs.one hd
    exact ⟨_, _, u, rfl, Fv.sub (ρ := ρ) c.rep.sub, r.rp (Fv.same _ _ _), h.1, h.2.1, h.2.2.1, h.2.2.2.1, k _ h.2.2.2.2 _ M H Ext.refl c rfl⟩
  · exact h.elim
def dChain3 (f g h : C2) (ta tb tc td : DW) : DT := fun σ st k ex => ta σ st (fun x st1 => tb σ st1 (fun y st2 => match seeW x st2, seeW y st2 with
  | some d, some e => f d e fun b => two b (tc σ st2 (fun z st3 => match seeW y st3, seeW z st3 with
    | some d, some e => g d e fun b => two b (td σ st3 (fun v st4 => match seeW z st4, seeW v st4 with
      | some d, some e => h d e fun b => k b st4
      | _, _ => False) ex) (k false st3)
    | _, _ => False) ex) (k false st2)
  | _, _ => False) ex) ex
section
variable {X : Cx} {N : Kn} {Wx : WX} {e1 e2 e3 e4 : Expr} {pos : Pos}
theorem chain3_lift {r r' r'' : R2} {f g h : C2} {ta tb tc td : DW} (ok : CmpOk N r f) (ok' : CmpOk N r' g) (ok'' : CmpOk N r'' h) {σV : L2.St} {H : Hp} {Q : VK} {M : Hp} {ρ : List Addr} {σ : Sl} {st : Sto} {k : Bool → Sto → Prop} {ex : DX} (c : Kx N Wx M ρ σ st H σV ex) (ht : dChain3 f g h ta tb tc td σ st k ex)
    (q : ∀ c st', k c st' → ∀ M' ρ' H', Ext M ρ H M' ρ' H' → Kx N Wx M' ρ' σ st' H' σV ex → Q (.bl c) H') : uChain3 r r' r'' (lW N Wx ta) (lW N Wx tb) (lW N Wx tc) (lW N Wx td) σV H Q := by
  refine Lf.bin c ht fun x y st' hk u v M1 ρ1 H1 E1 c1 r1 r2 => ?_
  cases h1 : seeW x st' with
  | none => simp only [h1] at hk
  | some d =>
    cases h2 : seeW y st' with
    | none => simp only [h1, h2] at hk
    | some e =>
      simp only [h1, h2] at hk
      refine ok (Fv.sub c1.rep.sub) ((see_ok c1.rep h1 r1).rp (Fv.same _ _ _)) ((see_ok c1.rep h2 r2).rp (Fv.same _ _ _)) hk fun b hb => ?_
      refine ⟨fun z => Lf.of c1 (hb.1 z) fun z3 st3 hk3 v3 M3 ρ3 H3 E3 c3 r3 => ?_, fun z => q _ _ (hb.2 z) M1 ρ1 H1 E1 c1⟩
      cases h3 : seeW y st3 with
      | none => simp only [h3] at hk3
      | some d3 =>
        cases h4 : seeW z3 st3 with
        | none => simp only [h3, h4] at hk3
        | some e3 =>
          simp only [h3, h4] at hk3
          refine ok' (Fv.sub c3.rep.sub) ((see_ok c3.rep h3 (Rw.ext r2 E3)).rp (Fv.same _ _ _)) ((see_ok c3.rep h4 r3).rp (Fv.same _ _ _)) hk3 fun b' hb' => ?_
          refine ⟨fun z' => Lf.of c3 (hb'.1 z') fun z5 st5 hk5 v5 M5 ρ5 H5 E5 c5 r5 => ?_, fun z' => q _ _ (hb'.2 z') M3 ρ3 H3 (E1.trans E3) c3⟩
          cases h5 : seeW z3 st5 with
          | none => simp only [h5] at hk5
          | some d5 =>
            cases h6 : seeW z5 st5 with
            | none => simp only [h5, h6] at hk5
            | some e5 =>
              simp only [h5, h6] at hk5
              exact ok'' (Fv.sub c5.rep.sub) ((see_ok c5.rep h5 (Rw.ext r3 E5)).rp (Fv.same _ _ _)) ((see_ok c5.rep h6 r5).rp (Fv.same _ _ _)) hk5 fun b2 hb2 => q _ _ hb2 M5 ρ5 H5 ((E1.trans E3).trans E5) c5
theorem t_chain3D {op op' op'' : CmpOp} {r r' r'' : R2} {f g h : C2} {ta tb tc td : DW} (ho : OpR X (compareOp op) r) (ho' : OpR X (compareOp op') r') (ho'' : OpR X (compareOp op'') r'') (ok : CmpOk N r f) (ok' : CmpOk N r' g) (ok'' : CmpOk N r'' h) (ha : PE X e1 (lW N Wx ta)) (hb : PE X e2 (lW N Wx tb)) (hc : PE X e3 (lW N Wx tc)) (hd : PE X e4 (lW N Wx td))
    (hm : lastMarks [op, op', op''] [e2, e3, e4] = false := by with_unfolding_all rfl) : PT X (.Compare e1 [op, op', op''] [e2, e3, e4] pos) (lT N Wx (dChain3 f g h ta tb tc td)) := PT.imp (t_chain3 ho ho' ho'' ha hb hc hd hm) fun σV H Q h => by
  obtain ⟨M, ρ, σ, st, k, ex, c, ht, q⟩ := Kx.open_ h
  exact chain3_lift (Q := fun x H1 => match x with
    | .bl c => Q c H1
    | _ => False) ok ok' ok'' c ht fun b st' hb M' ρ' H' E c' => q _ _ hb b M' ρ' H' E c' rfl
end
end Dl
end

section
set_option maxHeartbeats 4000000
namespace Dl
open PySem PySem.Spec PyProof.Rows L2 Co PySem.StrLaws
mutual
def rpOk : D → Bool
  | .non => true
  | .bl _ => true
  | .int i => decide (i.natAbs < 10 ^ 12)
  | .str x => x.cps.toList.all fun c => decide (c < 65536)
  | .tup ds => rpOks ds
  | .lst ds => rpOks ds
  | _ => false
def rpOks : List D → Bool
  | [] => true
  | d :: ds => rpOk d && rpOks ds
end
mutual
def rpW : D → Nat
  | .int _ => 41
  | .str x => x.cps.size
  | .tup ds => rpWs ds
  | .lst ds => rpWs ds
  | _ => 0
def rpWs : List D → Nat
  | [] => 0
  | d :: ds => rpW d + 1 + rpWs ds
end
mutual
def rpD : D → Nat
  | .tup ds => rpDs ds + 1
  | .lst ds => rpDs ds + 1
  | _ => 1
def rpDs : List D → Nat
  | [] => 0
  | d :: ds => max (rpD d) (rpDs ds)
end
theorem log_lt {i : Int} {k : Nat} (hk : 0 < k) (h : i.natAbs < 2 ^ k) : i.natAbs.log2 < k := by
  by_cases h0 : i.natAbs = 0
  · rw [h0]
    simpa using hk
  · exact (Nat.log2_lt h0).mpr h
mutual
theorem rp_facts : ∀ {d : D}, rpOk d = true → shw d = true ∧ (pdD d).leavesShort 13 = true ∧ (pdD d).weight ≤ rpW d
  | .non, _ => by simp [pdD, shw, PyData.leavesShort, PyData.weight, rpW]
  | .bl _, _ => by simp [pdD, shw, PyData.leavesShort, PyData.weight, rpW]
  | .int i, h => by
    unfold rpOk at h
    have h : i.natAbs < 10 ^ 12 := of_decide_eq_true h
    have h2 : i.natAbs < 2 ^ 40 := Nat.lt_of_lt_of_le h (by decide)
    have hl := log_lt (k := 40) (by decide) h2
    refine ⟨?_, ?_, ?_⟩
    · unfold shw
      exact decide_eq_true (by omega)
    · unfold pdD
      have h3 := int_text_length_le10 (k := 12) (by decide) h
      have h4 : (PyData.int i).shown.length ≤ 13 := by
        simp only [PyData.shown]
        rw [PySem.ofString_length]
        omega
      simp only [PyData.leavesShort]
      exact decide_eq_true h4
    · unfold pdD rpW
      simp only [PyData.weight]
      split <;> omega
  | .str x, h => by
    unfold rpOk at h
    refine ⟨by unfold shw; rfl, ?_, ?_⟩
    · unfold pdD
      simp only [PyData.leavesShort]
      rw [List.all_eq_true] at h ⊢
      intro c hc
      have := of_decide_eq_true (h c hc)
      exact decide_eq_true (Nat.lt_of_lt_of_le this (by decide))
    · unfold pdD rpW
      simp [PyData.weight]
  | .tup ds, h => by
    unfold rpOk at h
    obtain ⟨a, b, c⟩ := rp_factss h
    unfold shw pdD rpW
    simp only [PyData.leavesShort, PyData.weight]
    exact ⟨a, b, c⟩
  | .lst ds, h => by
    unfold rpOk at h
    obtain ⟨a, b, c⟩ := rp_factss h
    unfold shw pdD rpW
    simp only [PyData.leavesShort, PyData.weight]
    exact ⟨a, b, c⟩
theorem rp_factss : ∀ {ds : List D}, rpOks ds = true → shws ds = true ∧ PyData.leavesShortAll 13 (pdDs ds) = true ∧ PyData.weightAll (pdDs ds) ≤ rpWs ds
  | [], _ => by simp [pdDs, shws, PyData.leavesShortAll, PyData.weightAll, rpWs]
  | d :: ds, h => by
    unfold rpOks at h
    rw [Bool.and_eq_true] at h
    obtain ⟨a, b, c⟩ := rp_facts h.1
    obtain ⟨a', b', c'⟩ := rp_factss h.2
    unfold shws pdDs rpWs
    simp only [PyData.leavesShortAll, PyData.weightAll, a, b, a', b', Bool.and_self, true_and]
    omega
end
mutual
theorem rp_depth : ∀ d : D, (pdD d).depth ≤ rpD d
  | .tup ds => by
    unfold pdD rpD
    simp only [PyData.depth]
    have := rp_depths ds
    omega
  | .lst ds => by
    unfold pdD rpD
    simp only [PyData.depth]
    have := rp_depths ds
    omega
  | .non | .bl _ | .int _ | .str _ | .ty _ | .glo _ | .dct _ _ | .dcT _ _ | .ins _ _ _ | .scr _ | .exc _ _ _ _ _ => by
    unfold pdD rpD
    simp [PyData.depth]
theorem rp_depths : ∀ ds : List D, PyData.depthAll (pdDs ds) ≤ rpDs ds
  | [] => by simp [pdDs, PyData.depthAll]
  | d :: ds => by
    unfold pdDs rpDs
    simp only [PyData.depthAll]
    have := rp_depth d
    have := rp_depths ds
    omega
end
theorem rpOks_map {α : Type} {f : α → D} {xs : List α} (h : ∀ x ∈ xs, rpOk (f x) = true) : rpOks (xs.map f) = true := by
  induction xs with
  | nil => rfl
  | cons x xs ih =>
    rw [List.map_cons, rpOks, h x List.mem_cons_self, ih fun y hy => h y (List.mem_cons_of_mem _ hy)]
    rfl
theorem rpWs_map {α : Type} {f : α → D} {B : Nat} {xs : List α} (h : ∀ x ∈ xs, rpW (f x) + 1 ≤ B) : rpWs (xs.map f) ≤ B * xs.length := by
  induction xs with
  | nil => exact Nat.zero_le _
  | cons x xs ih =>
    rw [List.map_cons, rpWs, List.length_cons, Nat.mul_succ]
    have := h x List.mem_cons_self
    have := ih fun y hy => h y (List.mem_cons_of_mem _ hy)
    omega
theorem rpDs_map {α : Type} {f : α → D} {B : Nat} {xs : List α} (h : ∀ x ∈ xs, rpD (f x) ≤ B) : rpDs (xs.map f) ≤ B := by
  induction xs with
  | nil => exact Nat.zero_le _
  | cons x xs ih =>
    rw [List.map_cons, rpDs]
    have := h x List.mem_cons_self
    have := ih fun y hy => h y (List.mem_cons_of_mem _ hy)
    omega
theorem rpOk_S {t : List Nat} (h : ∀ c ∈ t, c < 65536) : rpOk (.str (S t)) = true := by
  unfold rpOk
  rw [List.all_eq_true]
  exact fun c hc => decide_eq_true (h c hc)
theorem rpOk_i {i : Int} (h : i.natAbs < 10 ^ 12) : rpOk (.int i) = true := by
  unfold rpOk
  exact decide_eq_true h
theorem fRepr_ok {d : D} {k : D → Prop} (h : isSeqD d = true) (h1 : rpOk d = true) (h2 : rpW d ≤ 100000) (h3 : rpD d ≤ 50) (hk : k (.str (pdD d).shown)) : fRepr [d] k := by
  obtain ⟨a, b, c⟩ := rp_facts h1
  refine ⟨h, a, Nat.le_trans (rp_depth d) (by omega), ?_, hk⟩
  have := PyData.shown_le 13 (by decide) _ b
  rw [sizeLine_eq]
  omega
end Dl
namespace Dl.Ut
open PySem PySem.Spec PyProof.Rows L2 Co PySem.StrLaws Dl
theorem backAuxU (o2 : Ob) (n0 : Nat) : ∀ (i : Nat) (r : Sto), 1 ≤ i → backO [0] n0 [o2] i r = r
  | i, [], h => rfl
  | i, o :: r, h => by
    show (match idx i [0] with | some j => _ | none => o) :: backO [0] n0 [o2] (i + 1) r = o :: r
    rw [backAuxU o2 n0 (i + 1) r (by omega)]
    have : idx i [0] = none := by
      show (if 0 = i then some 0 else (idx i []).map (· + 1)) = none
      rw [if_neg (by omega)]
      rfl
    rw [this]
theorem backP (r : Sto) : back [0] (.pool :: r) [.pool] = .pool :: r := by
  show (unO [0] _ .pool :: backO [0] _ [.pool] 1 r) ++ _ = _
  rw [backAuxU _ _ _ _ (Nat.le_refl _)]
  exact List.append_nil _
theorem takeU {m : Int} {r : Sto} {k : W → Sto → Prop} {ex : DX} (h0 : 0 < m) (h1 : m < 2 ^ 250) (h : ∀ n : Nat, (n : Int) < m → k (.im (.int (n : Int))) (.pool :: r)) : callD pf_take [0] [.loc 0, .im (.int m)] (.pool :: r) k ex := by
  refine ⟨rfl, h0, h1, fun i a b => ?_⟩
  show k _ (back [0] (.pool :: r) [.pool])
  rw [backP]
  have := h i.toNat (by omega)
  rw [Int.toNat_of_nonneg a] at this
  exact this
theorem strAt {z : Str} {l : List Nat} {i : Nat} {c : Nat} (hz : z = S l) (hl : l.length ≤ 1000000) (h : l[i]? = some c) {k : D → Prop} (hk : k (.str (S [c]))) : atD (.str z) (.int (i : Int)) k := by
  subst hz
  refine ⟨by rw [S_len]; exact lenL6 (by omega), ?_⟩
  show (match atI l (i : Int) with | some c => k (.str ⟨#[c]⟩) | none => False)
  rw [atNat (Int.natCast_nonneg i) (by simpa using h)]
  exact hk
theorem lstAt {ds : List D} {i : Nat} {d : D} (h : ds[i]? = some d) {k : D → Prop} (hk : k d) : atD (.lst ds) (.int (i : Int)) k := by
  show (match atI ds (i : Int) with | some d => k d | none => False)
  rw [atNat (Int.natCast_nonneg i) (by simpa using h)]
  exact hk
theorem tupAt {ds : List D} {i : Nat} {d : D} (h : ds[i]? = some d) {k : D → Prop} (hk : k d) : atD (.tup ds) (.int (i : Int)) k := by
  show (match atI ds (i : Int) with | some d => k d | none => False)
  rw [atNat (Int.natCast_nonneg i) (by simpa using h)]
  exact hk
theorem takeGet {α : Type} {l : List α} {i : Nat} {x : α} (h : l[i]? = some x) : l.take (i + 1) = l.take i ++ [x] ∧ l.drop i = x :: l.drop (i + 1) ∧ (l.take i).length = i := by
  obtain ⟨h1, h2⟩ := List.getElem?_eq_some_iff.mp h
  refine ⟨by rw [List.take_add_one, h]; rfl, ?_, by rw [List.length_take]; omega⟩
  rw [List.drop_eq_getElem_cons h1, h2]
theorem ltAt {α : Type} {l : List α} {i : Nat} {x : α} (h : l[i]? = some x) : i < l.length := (List.getElem?_eq_some_iff.mp h).1
theorem addI {i j : Int} {k : D → Prop} (h : k (.int (i + j))) : fAdd (.int i) (.int j) k := h
theorem subI {i j : Int} {k : D → Prop} (h : k (.int (i - j))) : fSub (.int i) (.int j) k := h
def lsD (ls : List (List Nat)) : List D := ls.map fun l => .str (S l)
theorem lsD_len (ls : List (List Nat)) : (lsD ls).length = ls.length := List.length_map _
theorem lsD_snoc (ls : List (List Nat)) (l : List Nat) : lsD ls ++ [.str (S l)] = lsD (ls ++ [l]) := by
  unfold lsD
  rw [List.map_append]
  rfl
def joinU (a : List Nat) : List (List Nat) → List Nat
  | [] => []
  | [x] => x
  | x :: y :: r => x ++ (a ++ joinU a (y :: r))
theorem joinU_txt (a : List Nat) (ls : List (List Nat)) : Txt.join (S a) (ls.map S) = S (joinU a ls) := by
  refine (PySem.StrLaws.glued_eq_join _ _).trans ?_
  have key : ∀ ls : List (List Nat), Str.join (S a) (ls.map S) = S (joinU a ls) := fun ls => by
    induction ls with
    | nil => rfl
    | cons x r ih =>
      cases r with
      | nil => rfl
      | cons y r =>
        show S x ++ S a ++ Str.join (S a) ((y :: r).map S) = S (x ++ (a ++ joinU a (y :: r)))
        rw [ih, S_app, S_app, List.append_assoc]
  exact key ls
theorem joinU_len (a : List Nat) : ∀ ls : List (List Nat), ls ≠ [] → (joinU a ls).length + a.length = ((ls.map S).map (·.length)).sum + ls.length * a.length
  | [], h => absurd rfl h
  | [x], _ => by
    show x.length + a.length = (S x).length + 0 + 1 * a.length
    rw [S_len]
    omega
  | x :: y :: r, _ => by
    have ih := joinU_len a (y :: r) (by simp)
    rw [List.map_cons, List.map_cons, List.sum_cons, List.length_cons, Nat.succ_mul]
    show (x ++ (a ++ joinU a (y :: r))).length + _ = _
    rw [List.length_append, List.length_append, S_len]
    omega
theorem joinU_nil (ls : List (List Nat)) : joinU [] ls = ls.flatten := by
  induction ls with
  | nil => rfl
  | cons x r ih =>
    cases r with
    | nil => exact (List.append_nil _).symm
    | cons y r => show x ++ ([] ++ joinU [] (y :: r)) = _; rw [ih]; rfl
theorem joinUt {a : List Nat} {z : Str} {ls : List (List Nat)} {k : D → Prop} (hz : z = S a) (ha : a.length ≤ 10) (hl : ls.length ≤ 100000) (hs : (joinU a ls).length ≤ 1000000) (hk : k (.str (S (joinU a ls)))) : mJoin (.str z) [.lst (lsD ls)] k := by
  subst hz
  refine ⟨ls.map S, by unfold lsD; rw [List.map_map]; rfl, ?_, ?_⟩
  · cases ls with
    | nil => show 0 + 0 * _ ≤ _; omega
    | cons x r =>
      have := joinU_len a (x :: r) (by simp)
      have h2 : (x :: r).length * a.length ≤ 100000 * 10 := Nat.mul_le_mul hl ha
      rw [List.length_map, S_len]
      omega
  · rw [joinU_txt]
    exact hk
theorem joinE {ls : List (List Nat)} {k : D → Prop} (hl : ls.length ≤ 100000) (hs : ls.flatten.length ≤ 1000000) (hk : k (.str (S ls.flatten))) : mJoin (.str "") [.lst (lsD ls)] k := by
  refine joinUt (a := []) rfl (by decide) hl ?_ ?_
  · rw [joinU_nil]; exact hs
  · rw [joinU_nil]; exact hk
end Dl.Ut
end

section
set_option maxHeartbeats 4000000
namespace Co.Tx
open PySem PySem.Spec PyProof.Rows L2 Co PySem.StrLaws
structure Pc where
  s : Nat
  e : Nat
  put : List Nat
def WfC (n : Nat) : Nat → List Pc → Prop
  | _, [] => True
  | lo, c :: cs => lo ≤ c.s ∧ c.s ≤ c.e ∧ c.e ≤ n ∧ (c.s = c.e → c.put ≠ []) ∧ WfC n (c.e + 1) cs
abbrev Row := Nat × Option Nat
def seg (t : List Nat) (a b : Nat) : List Row := (List.range (b - a)).map fun k => (t.getD (a + k) 0, some (a + k))
def ins (p : List Nat) : List Row := p.map fun c => (c, none)
def mark (t : List Nat) : Nat → List Pc → List Row
  | at_, [] => seg t at_ t.length
  | at_, c :: cs => seg t at_ c.s ++ ins c.put ++ mark t c.e cs
theorem seg_len {t : List Nat} {a b : Nat} : (seg t a b).length = b - a := by simp [seg]
theorem ins_len {p : List Nat} : (ins p).length = p.length := by simp [ins]
theorem wf_mem {n : Nat} : ∀ {cs : List Pc} {lo : Nat} {c : Pc}, WfC n lo cs → c ∈ cs → lo ≤ c.s ∧ c.s ≤ c.e ∧ c.e ≤ n ∧ (c.s = c.e → c.put ≠ [])
  | [], _, _, _, h => by cases h
  | d :: cs, lo, c, w, h => by
    obtain ⟨h1, h2, h3, h4, w⟩ := w
    rcases List.mem_cons.mp h with e | h
    · subst e
      exact ⟨h1, h2, h3, h4⟩
    · obtain ⟨k1, k2, k3, k4⟩ := wf_mem w h
      exact ⟨by omega, k2, k3, k4⟩
theorem seg_at {t : List Nat} {a b k : Nat} (h : k < b - a) : (seg t a b)[k]? = some (t.getD (a + k) 0, some (a + k)) := by
  unfold seg
  rw [List.getElem?_map, List.getElem?_range h]
  rfl
end Co.Tx
end

section
set_option maxHeartbeats 4000000
namespace Co.Tx
open PySem PySem.Spec PyProof.Rows L2 Co PySem.StrLaws
def slc (t : List Nat) (a b : Nat) : List Nat := (t.drop a).take (b - a)
theorem seg_fst {t : List Nat} {a b : Nat} (h : b ≤ t.length) : (seg t a b).map (·.1) = slc t a b := by
  refine List.ext_getElem? fun i => ?_
  rw [List.getElem?_map]
  unfold slc
  by_cases hi : i < b - a
  · rw [seg_at hi, List.getElem?_take_of_lt hi, List.getElem?_drop]
    have : a + i < t.length := by omega
    simp [this]
  · rw [List.getElem?_eq_none (by rw [seg_len]; omega), List.getElem?_eq_none (by rw [List.length_take]; omega)]
    rfl
theorem ins_fst (p : List Nat) : (ins p).map (·.1) = p := by
  unfold ins
  rw [List.map_map]
  exact List.map_id p
abbrev aft (t : List Nat) (old : Nat) (cs : List Pc) : List Nat := (mark t old cs).map (·.1)
theorem aft_nil {t : List Nat} {old : Nat} : aft t old [] = t.drop old := by
  show (seg t old t.length).map (·.1) = _
  rw [seg_fst (Nat.le_refl _)]
  unfold slc
  rw [List.take_of_length_le (by simp)]
theorem aft_cons {t : List Nat} {old : Nat} {c : Pc} {cs : List Pc} (h : c.s ≤ t.length) : aft t old (c :: cs) = slc t old c.s ++ c.put ++ aft t c.e cs := by
  show (seg t old c.s ++ ins c.put ++ mark t c.e cs).map (·.1) = _
  rw [List.map_append, List.map_append, seg_fst h, ins_fst]
end Co.Tx
end

section
set_option maxHeartbeats 4000000
namespace Dl.Sm
open PySem PySem.Spec PyProof.Rows L2 Co
def smD : Nat → D → Bool
  | _, .non => true
  | _, .bl _ => true
  | _, .int _ => true
  | _, .str _ => true
  | n + 1, .tup ds => decide (ds.length ≤ 1000000) && ds.all (smD n)
  | n + 1, .lst ds => decide (ds.length ≤ 1000000) && ds.all (smD n)
  | _, _ => false
def pf_isint : Pf := fun ws st k _ => match ws, st with
  | [.im (.int _)], [] => k (.im (.bl true)) []
  | _, _ => False
def pf_same (n : Nat) : Pf := fun ws st k _ => match ws, st with
  | [.im d, .im e], [] => d = e ∧ 0 < n ∧ smD (n - 1) d = true ∧ k (.im (.bl true)) []
  | _, _ => False
theorem pf_same0 : ∀ ws st k ex, ¬ pf_same 0 ws st k ex := fun ws st k ex h => by
  unfold pf_same at h
  split at h
  · exact absurd h.2.1 (Nat.lt_irrefl 0)
  · exact h
abbrev N_isint : List Str := ["_law_actual"]
abbrev N_same : List Str := ["_law_actual", "_law_due", "_law_k"]
def t_isint : DS :=
 (sRet (dAndV (dI (dCB fIsi (aCons (dV 0) (aCons (dI (dC (.ty "int"))) aNil)))) (dI (dB (dNot (dTru (dI (dCB fIsi (aCons (dV 0) (aCons (dI (dC (.ty "bool"))) aNil))))))))))
theorem r_isint : ∀ ws st k ex, pf_isint ws st k ex → t_isint (EnD false st.length k ex) (startD N_isint ws) st := by
  intro ws st k ex h
  unfold pf_isint at h
  split at h
  · exact twoT h
  · exact h.elim
def sm6 (n : Nat) : DS := (sRet (dAndV (dCall pf_isint (aCons (dV 0) aNil)) (dI (dB (dCmp cEq (dV 0) (dV 1))))))
def sm5 (n : Nat) : DS := (sSeq (sIf (dTru (dI (dCB fIsi (aCons (dV 1) (aCons (dI (dC (.ty "str"))) aNil))))) (sRet (dAndV (dI (dCB fIsi (aCons (dV 0) (aCons (dI (dC (.ty "str"))) aNil)))) (dI (dB (dCmp cEq (dV 0) (dV 1)))))) sNext) (sm6 n))
def sm4 (n : Nat) : DS := (sSeq (sIf (dTru (dI (dCB fIsi (aCons (dV 1) (aCons (dI (dC (.ty "bool"))) aNil))))) (sRet (dAndV (dI (dCB fIsi (aCons (dV 0) (aCons (dI (dC (.ty "bool"))) aNil)))) (dI (dB (dCmp cEq (dV 0) (dV 1)))))) sNext) (sm5 n))
def sm3 (n : Nat) : DS := (sSeq (sIf (dIsN (dV 1)) (sRet (dI (dB (dIsN (dV 0))))) sNext) (sm4 n))
def smA (n : Nat) : DS := (sRet (dI (dCB fAll (aCons (dI (dLc (iRg1 (dCB fLen (aCons (dV 1) aNil))) (gN 2) dYes (dD (dCall (pf_same n) (aCons (dI (dIx (dV 0) (dD (dV 2)))) (aCons (dI (dIx (dV 1) (dD (dV 2)))) aNil)))) ([("_law_k", 2)].map (·.2)))) aNil))))
def sm2 (n : Nat) : DS := (sSeq (sIf (dTru (dI (dCB fIsi (aCons (dV 1) (aCons (dI (dC (.ty "list"))) aNil))))) (sSeq (sIf (dOr (dNot (dTru (dI (dCB fIsi (aCons (dV 0) (aCons (dI (dC (.ty "list"))) aNil)))))) (dCmp cNe (dI (dCB fLen (aCons (dV 0) aNil))) (dI (dCB fLen (aCons (dV 1) aNil))))) (sRet (dI (dC (.bl false)))) sNext)
 (smA n)) sNext) (sm3 n))
def t_same (n : Nat) : DS :=
 (sSeq (sIf (dTru (dI (dCB fIsi (aCons (dV 1) (aCons (dI (dC (.ty "tuple"))) aNil))))) (sSeq (sIf (dOr (dNot (dTru (dI (dCB fIsi (aCons (dV 0) (aCons (dI (dC (.ty "tuple"))) aNil)))))) (dCmp cNe (dI (dCB fLen (aCons (dV 0) aNil))) (dI (dCB fLen (aCons (dV 1) aNil))))) (sRet (dI (dC (.bl false)))) sNext)
 (smA n)) sNext) (sm2 n))
theorem atD_rg {T : List D → D} (hT : T = D.tup ∨ T = D.lst) {ds : List D} {i : Nat} {d : D} (h : ds[i]? = some d) {k : D → Prop} (hk : k d) : atD (T ds) (.int (i : Int)) k := by
  rcases hT with rfl | rfl
  · show (match atI ds (i : Int) with | some d => k d | none => False)
    rw [atI_nat h]
    exact hk
  · show (match atI ds (i : Int) with | some d => k d | none => False)
    rw [atI_nat h]
    exact hk
theorem all_true : ∀ n : Nat, (List.replicate n true).all id = true
  | 0 => rfl
  | n + 1 => by rw [List.replicate_succ, List.all_cons, all_true n]; rfl
theorem smA_ok {n : Nat} {T : List D → D} (hT : T = D.tup ∨ T = D.lst) {ds : List D} {k : W → Sto → Prop} {ex : DX} (hl : ds.length ≤ 1000000) (hs : 0 < n ∧ ∀ d ∈ ds, smD (n - 1) d = true) (hk : k (.im (.bl true)) []) :
    smA n (EnD false 0 k ex) [some (.im (T ds)), some (.im (T ds)), none] [] := by
  have key : lcB (rgD 0 ((ds.length : Nat) : Int).toNat) (gN 2) dYes (dD (dCall (pf_same n) (aCons (dI (dIx (dV 0) (dD (dV 2)))) (aCons (dI (dIx (dV 1) (dD (dV 2)))) aNil)))) [2] [some (.im (T ds)), some (.im (T ds)), none] [] fun acc st' => fAll [.lst acc] fun d => k (.im d) [] := by
    rw [Int.toNat_natCast]
    refine lc_map (fun _ _ => .bl true) (by rw [rgD_len]; exact hl) rfl (fun i d hd Q q => ?_) fun ys h1 h2 => ?_
    · obtain ⟨hi, rfl⟩ := rgD_get hd
      rw [Int.zero_add]
      have hg : ds[i]? = some ds[i] := List.getElem?_eq_getElem hi
      have hm := List.mem_of_getElem? hg
      refine dIx_of (dV_at rfl (dD_at rfl ?_))
      show atD (T ds) (.int (i : Int)) _
      refine atD_rg hT hg ?_
      refine aCons_of (dI_of (dIx_of (dV_at rfl (dD_at rfl ?_))))
      show atD (T ds) (.int (i : Int)) _
      refine atD_rg hT hg ?_
      exact ⟨rfl, rfl, hs.1, hs.2 _ hm, q⟩
    · have e : ys = (List.replicate ds.length true).map D.bl := by
        rw [rgD_len] at h1
        apply List.ext_getElem?
        intro i
        by_cases hi : i < ds.length
        · have : (rgD 0 ds.length)[i]? = some (.int (0 + (i : Int))) := by unfold rgD; rw [List.getElem?_map, List.getElem?_range hi]; rfl
          rw [h2 i _ this, List.getElem?_map, List.getElem?_replicate, if_pos hi]
          rfl
        · rw [List.getElem?_eq_none (by omega), List.getElem?_map, List.getElem?_replicate, if_neg hi]
          rfl
      refine ⟨List.replicate ds.length true, e, ?_⟩
      rw [all_true]
      exact hk
  rcases hT with rfl | rfl
  · exact ⟨by omega, by omega, key⟩
  · exact ⟨by omega, by omega, key⟩
theorem r_same {n : Nat} : ∀ ws st k ex, pf_same (n + 1) ws st k ex → (t_same n) (EnD false st.length k ex) (startD N_same ws) st := by
  intro ws st k ex h
  unfold pf_same at h
  split at h
  · rename_i d e
    obtain ⟨rfl, _, hs, hk⟩ := h
    have hs : smD n d = true := hs
    cases d with
    | non => exact twoF (twoF (twoT hk))
    | bl b => exact twoF (twoF (twoF (twoT (twoT (by rw [← decide_eq_true (rfl : b = b)] at hk; exact hk)))))
    | int i => exact twoF (twoF (twoF (twoF (twoF ⟨rfl, twoT (by rw [← decide_eq_true (rfl : i = i)] at hk; exact hk)⟩))))
    | str x => exact twoF (twoF (twoF (twoF (twoT (twoT (by rw [← decide_eq_true (rfl : x = x)] at hk; exact hk))))))
    | tup ds =>
      cases n with
      | zero => cases hs
      | succ m =>
        rw [smD, Bool.and_eq_true, decide_eq_true_iff, List.all_eq_true] at hs
        refine twoT (twoF (notY rfl ?_))
        exact smA_ok (T := D.tup) (.inl rfl) hs.1 ⟨Nat.succ_pos m, hs.2⟩ hk
    | lst ds =>
      cases n with
      | zero => cases hs
      | succ m =>
        rw [smD, Bool.and_eq_true, decide_eq_true_iff, List.all_eq_true] at hs
        refine twoF (twoT (twoF (notY rfl ?_)))
        exact smA_ok (T := D.lst) (.inr rfl) hs.1 ⟨Nat.succ_pos m, hs.2⟩ hk
    | _ => cases n <;> cases hs
  · exact h.elim
theorem call_same {n : Nat} {d : D} {st : Sto} {k : W → Sto → Prop} {ex : DX} (hn : 0 < n) (h : smD (n - 1) d = true) (hk : k (.im (.bl true)) st) : callD (pf_same n) [] [.im d, .im d] st k ex := ⟨rfl, rfl, hn, h, hk⟩
end Dl.Sm
end

section
set_option maxHeartbeats 4000000
namespace Dl.Ka
open PySem PySem.Spec PyProof.Rows L2 Co PySem.StrLaws Dl.Ut
open Co.Tx (Pc WfC mark aft)
abbrev pf_Lis_integer := Sm.pf_isint
abbrev pf_Lsame := Sm.pf_same
def SmT (t : List Nat) : Prop := ∀ c ∈ t, c < 200
structure Wp where
  s : Int
  e : Int
  put : List Nat
def eW (p : Wp) : D := .tup [.int p.s, .int p.e, .str (S p.put)]
def toW (c : Pc) : Wp := ⟨c.s, c.e, c.put⟩
structure CA (n : Nat) (cs : List Pc) : Prop where
  w : WfC n 0 cs
  l : cs.length ≤ 6
  p : ∀ c ∈ cs, c.put.length ≤ 3 ∧ SmT c.put
structure WA (ps : List Wp) : Prop where
  l : ps.length ≤ 6
  p : ∀ c ∈ ps, c.put.length ≤ 3 ∧ SmT c.put ∧ c.s.natAbs < 10 ^ 12 ∧ c.e.natAbs < 10 ^ 12
def wrongF (n : Nat) : Int → Nat → List Wp → Option (Nat × Str)
  | _, _, [] => none
  | last, i, p :: ps => if ¬ (0 ≤ p.s ∧ p.s ≤ p.e ∧ p.e ≤ (n : Int)) then some (i, "range") else if p.s ≤ last then some (i, "order") else if p.s = p.e ∧ p.put = [] then some (i, "nothing") else wrongF n p.e (i + 1) ps
def wrongD : Option (Nat × Str) → D
  | none => .non
  | some (i, r) => .tup [.int (i : Nat), .str r]
def isL (d : D) (ds : List D) : Prop := d = .lst ds ∨ d = .tup ds
def pf_check_change : Pf := fun ws st k ex => match ws, st with
  | [.im (.str z), .im d], [] => ∃ t ps, z = S t ∧ isL d (ps.map eW) ∧ t.length ≤ 600 ∧ ps.length ≤ 6 ∧ (match wrongF t.length (-1) 0 ps with
    | none => k (.im .non) []
    | some (i, r) => ex "BadChange" [("reason", .str r), ("number", .int (i : Nat))] [])
  | _, _ => False
def pf_Ltold : Pf := fun ws st k _ => match ws, st with
  | [.im (.str z), .im d], [] => ∃ t ps, z = S t ∧ isL d (ps.map eW) ∧ t.length ≤ 600 ∧ ps.length ≤ 6 ∧ k (.im (wrongD (wrongF t.length (-1) 0 ps))) []
  | _, _ => False
def pf_Lwrong : Pf := fun ws st k _ => match ws, st with
  | [.im (.int n), .im (.lst ds)], [] => ∃ (m : Nat) (ps : List Wp), n = (m : Int) ∧ ds = ps.map eW ∧ m ≤ 600 ∧ ps.length ≤ 6 ∧ k (.im (wrongD (wrongF m (-1) 0 ps))) []
  | _, _ => False
def pf_Lchar : Pf := fun ws st k _ => match ws, st with
  | [.im (.int i)], [] => 0 ≤ i ∧ i < 95 ∧ ∀ c : Nat, c < 200 → k (.im (.str (S [c]))) []
  | _, _ => False
def pf_Ltext : Pf := fun ws st k _ => match ws, st with
  | [.loc 0, .im (.int n)], [.pool] => ∃ m : Nat, n = (m : Int) ∧ m ≤ 600 ∧ ∀ t : List Nat, t.length = m → SmT t → k (.im (.str (S t))) [.pool]
  | _, _ => False
def pf_Lsize : Pf := fun ws st k _ => match ws, st with
  | [.loc 0], [.pool] => ∀ n : Nat, n < 600 → k (.im (.int (n : Int))) [.pool]
  | _, _ => False
def pf_Lchange : Pf := fun ws st k _ => match ws, st with
  | [.loc 0, .im (.str z)], [.pool] => ∃ t, z = S t ∧ t.length ≤ 600 ∧ ∀ cs, CA t.length cs → k (.im (.lst ((cs.map toW).map eW))) [.pool]
  | _, _ => False
def pf_Lwild : Pf := fun ws st k _ => match ws, st with
  | [.loc 0, .im (.int n)], [.pool] => ∃ m : Nat, n = (m : Int) ∧ m ≤ 600 ∧ ∀ ps, WA ps → k (.im (.lst (ps.map eW))) [.pool]
  | _, _ => False
def oN : Option Nat → D
  | none => .non
  | some i => .int (i : Nat)
def rowD (r : Nat × Option Nat) : D := .tup [.str (S [r.1]), oN r.2]
def pf_Lmarked : Pf := fun ws st k _ => match ws, st with
  | [.im (.str z), .im (.lst ds)], [] => ∃ t cs, z = S t ∧ ds = (cs.map toW).map eW ∧ CA t.length cs ∧ t.length ≤ 600 ∧ k (.im (.lst ((mark t 0 cs).map rowD))) []
  | _, _ => False
def pf_Lafter : Pf := fun ws st k _ => match ws, st with
  | [.im (.str z), .im (.lst ds)], [] => ∃ t cs, z = S t ∧ ds = (cs.map toW).map eW ∧ CA t.length cs ∧ t.length ≤ 600 ∧ k (.im (.str (S (aft t 0 cs)))) []
  | _, _ => False
def pf_apply_change : Pf := fun ws st k _ => match ws, st with
  | [.im (.str z), .im d], [] => ∃ t cs, z = S t ∧ isL d ((cs.map toW).map eW) ∧ CA t.length cs ∧ t.length ≤ 600 ∧ k (.im (.str (S (aft t 0 cs)))) []
  | _, _ => False
end Dl.Ka
end

section
set_option maxHeartbeats 4000000
namespace Dl.Ka
open PySem PySem.Spec PyProof.Rows L2 Co
abbrev N_BadChange_init : List Str := ["self", "number", "reason"]
abbrev N_Lis_integer : List Str := ["_law_actual"]
def t_Lis_integer : DS :=
 (sRet (dAndV (dI (dCB fIsi (aCons (dV 0) (aCons (dI (dC (.ty "int"))) aNil)))) (dI (dB (dNot (dTru (dI (dCB fIsi (aCons (dV 0) (aCons (dI (dC (.ty "bool"))) aNil))))))))))
abbrev N_Lsame : List Str := ["_law_actual", "_law_due", "_law_k"]
def t_Lsame (n : Nat) : DS :=
 (sSeq (sIf (dTru (dI (dCB fIsi (aCons (dV 1) (aCons (dI (dC (.ty "tuple"))) aNil))))) (sSeq (sIf (dOr (dNot (dTru (dI (dCB fIsi (aCons (dV 0) (aCons (dI (dC (.ty "tuple"))) aNil)))))) (dCmp cNe (dI (dCB fLen (aCons (dV 0) aNil))) (dI (dCB fLen (aCons (dV 1) aNil))))) (sRet (dI (dC (.bl false)))) sNext)
 (sRet (dI (dCB fAll (aCons (dI (dLc (iRg1 (dCB fLen (aCons (dV 1) aNil))) (gN 2) dYes (dD (dCall (Sm.pf_same n) (aCons (dI (dIx (dV 0) (dD (dV 2)))) (aCons (dI (dIx (dV 1) (dD (dV 2)))) aNil)))) ([("_law_k", 2)].map (·.2)))) aNil))))) sNext)
 (sSeq (sIf (dTru (dI (dCB fIsi (aCons (dV 1) (aCons (dI (dC (.ty "list"))) aNil))))) (sSeq (sIf (dOr (dNot (dTru (dI (dCB fIsi (aCons (dV 0) (aCons (dI (dC (.ty "list"))) aNil)))))) (dCmp cNe (dI (dCB fLen (aCons (dV 0) aNil))) (dI (dCB fLen (aCons (dV 1) aNil))))) (sRet (dI (dC (.bl false)))) sNext)
 (sRet (dI (dCB fAll (aCons (dI (dLc (iRg1 (dCB fLen (aCons (dV 1) aNil))) (gN 2) dYes (dD (dCall (Sm.pf_same n) (aCons (dI (dIx (dV 0) (dD (dV 2)))) (aCons (dI (dIx (dV 1) (dD (dV 2)))) aNil)))) ([("_law_k", 2)].map (·.2)))) aNil))))) sNext)
 (sSeq (sIf (dIsN (dV 1)) (sRet (dI (dB (dIsN (dV 0))))) sNext)
 (sSeq (sIf (dTru (dI (dCB fIsi (aCons (dV 1) (aCons (dI (dC (.ty "bool"))) aNil))))) (sRet (dAndV (dI (dCB fIsi (aCons (dV 0) (aCons (dI (dC (.ty "bool"))) aNil)))) (dI (dB (dCmp cEq (dV 0) (dV 1)))))) sNext)
 (sSeq (sIf (dTru (dI (dCB fIsi (aCons (dV 1) (aCons (dI (dC (.ty "str"))) aNil))))) (sRet (dAndV (dI (dCB fIsi (aCons (dV 0) (aCons (dI (dC (.ty "str"))) aNil)))) (dI (dB (dCmp cEq (dV 0) (dV 1)))))) sNext)
 (sRet (dAndV (dCall Sm.pf_isint (aCons (dV 0) aNil)) (dI (dB (dCmp cEq (dV 0) (dV 1)))))))))))
abbrev N_check_change : List Str := ["text", "change", "last", "number", "piece", "start", "stop", "put"]
def t_check_change : DS :=
 (sSeq (sAsg 2 (dI (dUn fNeg (dC (.int 1)))))
 (sFor (iEn (dD (dV 1))) (gT [(gN 3), (gN 4)])
 (sSeq (sAsgG (dD (dV 4)) (gT [(gN 5), (gN 6), (gN 7)]))
 (sSeq (sIf (dNot (dChain3 cLe cLe cLe (dI (dC (.int 0))) (dV 5) (dV 6) (dI (dCB fLen (aCons (dV 0) aNil))))) (sRaise2 "BadChange" "number" "reason" (dD (dV 3)) (dC (.str "range"))) sNext)
 (sSeq (sIf (dCmp cLe (dV 5) (dV 2)) (sRaise2 "BadChange" "number" "reason" (dD (dV 3)) (dC (.str "order"))) sNext)
 (sSeq (sIf (dAnd (dCmp cEq (dV 5) (dV 6)) (dCmp cEq (dV 7) (dI (dC (.str ""))))) (sRaise2 "BadChange" "number" "reason" (dD (dV 3)) (dC (.str "nothing"))) sNext)
 (sAsg 2 (dV 6))))))))
abbrev N_apply_change : List Str := ["text", "change", "found", "at", "start", "stop", "put"]
def t_apply_change : DS :=
 (sSeq (sAsg 2 (dLstM adNil))
 (sSeq (sAsg 3 (dI (dC (.int 0))))
 (sSeq (sFor (iSq (dD (dV 1))) (gT [(gN 4), (gN 5), (gN 6)])
 (sSeq (sApp (dV 2) (dSl (dV 0) (dPart (dD (dV 3))) (dPart (dD (dV 4)))))
 (sSeq (sApp (dV 2) (dD (dV 6)))
 (sAsg 3 (dV 5)))))
 (sSeq (sApp (dV 2) (dSl (dV 0) (dPart (dD (dV 3))) dNoPart))
 (sRet (dI (dBM "str" mJoin (dI (dC (.str ""))) (aCons (dV 2) aNil))))))))
abbrev N_Lchar : List Str := ["_law_cell", "_law_signs"]
def t_Lchar : DS :=
 (sSeq (sAsg 1 (dI (dC (.str "\x0a !\"#$&'()*+,-./0123456789:;<=>?@ABCDEFGHIJKLMNOPQRSTUVWXYZ[\\]^_`abcdefghijklmnopqrstuvwxyz{|}~"))))
 (sRet (dI (dIx (dV 1) (dOp fMod (dD (dV 0)) (dC (.int 95)))))))
abbrev N_Ltext : List Str := ["_law_pool_here", "_law_size_here", "_law_kind", "_law_base", "_law_row", "_law_k"]
def t_Ltext : DS :=
 (sSeq (sAsg 2 (dCall pf_take (aCons (dV 0) (aCons (dI (dC (.int 3))) aNil))))
 (sSeq (sAsg 3 (dCall pf_take (aCons (dV 0) (aCons (dI (dC (.int 95))) aNil))))
 (sSeq (sAsg 4 (dLstM adNil))
 (sSeq (sFor (iRg1 (dD (dV 1))) (gN 5)
 (sIf (dCmp cEq (dV 2) (dI (dC (.int 0)))) (sApp (dV 4) (dD (dCall pf_Lchar (aCons (dCall pf_take (aCons (dV 0) (aCons (dI (dC (.int 95))) aNil))) aNil)))) (sIf (dCmp cEq (dV 2) (dI (dC (.int 1)))) (sApp (dV 4) (dIx (dI (dC (.str "ab\x0a"))) (dD (dCall pf_take (aCons (dV 0) (aCons (dI (dC (.int 3))) aNil)))))) (sApp (dV 4) (dD (dCall pf_Lchar (aCons (dV 3) aNil)))))))
 (sRet (dI (dBM "str" mJoin (dI (dC (.str ""))) (aCons (dV 4) aNil))))))))
abbrev N_Lsize : List Str := ["_law_pool_here"]
def t_Lsize : DS :=
 (sSeq (sIf (dCmp cEq (dCall pf_take (aCons (dV 0) (aCons (dI (dC (.int 8))) aNil))) (dI (dC (.int 1)))) (sRet (dCall pf_take (aCons (dV 0) (aCons (dI (dC (.int 600))) aNil)))) sNext)
 (sRet (dCall pf_take (aCons (dV 0) (aCons (dI (dC (.int 24))) aNil)))))
abbrev N_Lchange : List Str := ["_law_pool_here", "_law_text_here", "_law_pieces", "_law_at", "_law_k", "_law_start", "_law_stop", "_law_put"]
def t_Lchange : DS :=
 (sSeq (sAsg 2 (dLstM adNil))
 (sSeq (sAsg 3 (dI (dC (.int 0))))
 (sSeq (sFor (iRg1 (dD (dCall pf_take (aCons (dV 0) (aCons (dI (dC (.int 7))) aNil))))) (gN 4)
 (sSeq (sAsg 5 (dI (dOp fAdd (dD (dV 3)) (dIx (dI (dTup (adCons (dD (dCall pf_take (aCons (dV 0) (aCons (dI (dC (.int 4))) aNil)))) (adCons (dD (dCall pf_take (aCons (dV 0) (aCons (dI (dC (.int 60))) aNil)))) adNil)))) (dOp fDiv (dD (dCall pf_take (aCons (dV 0) (aCons (dI (dC (.int 4))) aNil)))) (dC (.int 3)))))))
 (sIf (dCmp cLe (dV 5) (dI (dCB fLen (aCons (dV 1) aNil)))) (sSeq (sAsg 6 (dI (dCB fMin (aCons (dI (dCB fLen (aCons (dV 1) aNil))) (aCons (dI (dOp fAdd (dD (dV 5)) (dIx (dI (dTup (adCons (dD (dCall pf_take (aCons (dV 0) (aCons (dI (dC (.int 3))) aNil)))) (adCons (dD (dCall pf_take (aCons (dV 0) (aCons (dI (dC (.int 30))) aNil)))) adNil)))) (dOp fDiv (dD (dCall pf_take (aCons (dV 0) (aCons (dI (dC (.int 5))) aNil)))) (dC (.int 4)))))) aNil)))))
 (sSeq (sAsg 7 (dCall pf_Ltext (aCons (dV 0) (aCons (dCall pf_take (aCons (dV 0) (aCons (dI (dC (.int 4))) aNil))) aNil))))
 (sSeq (sIf (dAnd (dCmp cEq (dV 5) (dV 6)) (dCmp cEq (dV 7) (dI (dC (.str ""))))) (sAsg 7 (dI (dC (.str "x")))) sNext)
 (sSeq (sApp (dV 2) (dTup (adCons (dD (dV 5)) (adCons (dD (dV 6)) (adCons (dD (dV 7)) adNil)))))
 (sAsg 3 (dI (dOp fAdd (dD (dV 6)) (dC (.int 1))))))))) sNext)))
 (sRet (dV 2)))))
abbrev N_Lmarked : List Str := ["_law_text_here", "_law_change_here", "_law_rows", "_law_at", "_law_start", "_law_stop", "_law_put", "_law_k", "_law_sign"]
def t_Lmarked : DS :=
 (sSeq (sAsg 2 (dI (dLst adNil)))
 (sSeq (sAsg 3 (dI (dC (.int 0))))
 (sSeq (sFor (iSq (dD (dV 1))) (gT [(gN 4), (gN 5), (gN 6)])
 (sSeq (sAsg 2 (dI (dOp fAdd (dOp fAdd (dD (dV 2)) (dLc (iRg2 (dD (dV 3)) (dD (dV 4))) (gN 7) dYes (dTup (adCons (dIx (dV 0) (dD (dV 7))) (adCons (dD (dV 7)) adNil))) ([("_law_k", 7)].map (·.2)))) (dLc (iSt (dD (dV 6))) (gN 8) dYes (dTup (adCons (dD (dV 8)) (adCons (dC .non) adNil))) ([("_law_sign", 8)].map (·.2))))))
 (sAsg 3 (dV 5))))
 (sRet (dI (dOp fAdd (dD (dV 2)) (dLc (iRg2 (dD (dV 3)) (dCB fLen (aCons (dV 0) aNil))) (gN 7) dYes (dTup (adCons (dIx (dV 0) (dD (dV 7))) (adCons (dD (dV 7)) adNil))) ([("_law_k", 7)].map (·.2)))))))))
abbrev N_Lafter : List Str := ["_law_text_here", "_law_change_here", "_law_row"]
def t_Lafter : DS :=
 (sRet (dI (dBM "str" mJoin (dI (dC (.str ""))) (aCons (dI (dLc (iSq (dD (dCall pf_Lmarked (aCons (dV 0) (aCons (dV 1) aNil))))) (gN 2) dYes (dIx (dV 2) (dC (.int 0))) ([("_law_row", 2)].map (·.2)))) aNil))))
abbrev N_Lwild : List Str := ["_law_pool_here", "_law_size_here", "_law_pieces", "_law_at", "_law_k", "_law_start", "_law_stop"]
def t_Lwild : DS :=
 (sSeq (sAsg 2 (dLstM adNil))
 (sSeq (sAsg 3 (dI (dC (.int 0))))
 (sSeq (sFor (iRg1 (dD (dCall pf_take (aCons (dV 0) (aCons (dI (dC (.int 7))) aNil))))) (gN 4)
 (sSeq (sAsg 5 (dI (dOp fSub (dOp fAdd (dD (dV 3)) (dD (dCall pf_take (aCons (dV 0) (aCons (dI (dC (.int 4))) aNil))))) (dOp fMul (dD (dCall pf_take (aCons (dV 0) (aCons (dI (dC (.int 2))) aNil)))) (dD (dCall pf_take (aCons (dV 0) (aCons (dI (dC (.int 4))) aNil))))))))
 (sSeq (sAsg 6 (dI (dOp fSub (dOp fAdd (dD (dV 5)) (dD (dCall pf_take (aCons (dV 0) (aCons (dI (dC (.int 4))) aNil))))) (dOp fMul (dD (dCall pf_take (aCons (dV 0) (aCons (dI (dC (.int 2))) aNil)))) (dD (dCall pf_take (aCons (dV 0) (aCons (dI (dC (.int 2))) aNil))))))))
 (sSeq (sIf (dCmp cEq (dCall pf_take (aCons (dV 0) (aCons (dI (dC (.int 9))) aNil))) (dI (dC (.int 1)))) (sAsg 6 (dI (dOp fSub (dOp fAdd (dD (dV 1)) (dD (dCall pf_take (aCons (dV 0) (aCons (dI (dC (.int 3))) aNil))))) (dC (.int 1))))) sNext)
 (sSeq (sApp (dV 2) (dTup (adCons (dD (dV 5)) (adCons (dD (dV 6)) (adCons (dIx (dI (dTup (adCons (dC (.str "")) (adCons (dC (.str "y")) (adCons (dC (.str "")) adNil))))) (dD (dCall pf_take (aCons (dV 0) (aCons (dI (dC (.int 3))) aNil))))) adNil)))))
 (sAsg 3 (dI (dOp fAdd (dD (dV 6)) (dD (dCall pf_take (aCons (dV 0) (aCons (dI (dC (.int 2))) aNil))))))))))))
 (sRet (dV 2)))))
abbrev N_Lwrong : List Str := ["_law_size_here", "_law_pieces", "_law_last", "_law_k", "_law_start", "_law_stop", "_law_put"]
def t_Lwrong : DS :=
 (sSeq (sAsg 2 (dI (dUn fNeg (dC (.int 1)))))
 (sSeq (sFor (iRg1 (dCB fLen (aCons (dV 1) aNil))) (gN 3)
 (sSeq (sAsgG (dIx (dV 1) (dD (dV 3))) (gT [(gN 4), (gN 5), (gN 6)]))
 (sSeq (sIf (dOr (dCmp cLt (dV 4) (dI (dC (.int 0)))) (dOr (dCmp cLt (dV 5) (dV 4)) (dCmp cGt (dV 5) (dV 0)))) (sRet (dI (dTup (adCons (dD (dV 3)) (adCons (dC (.str "range")) adNil))))) sNext)
 (sSeq (sIf (dCmp cLe (dV 4) (dV 2)) (sRet (dI (dTup (adCons (dD (dV 3)) (adCons (dC (.str "order")) adNil))))) sNext)
 (sSeq (sIf (dAnd (dCmp cEq (dV 4) (dV 5)) (dCmp cEq (dV 6) (dI (dC (.str ""))))) (sRet (dI (dTup (adCons (dD (dV 3)) (adCons (dC (.str "nothing")) adNil))))) sNext)
 (sAsg 2 (dV 5)))))))
 (sRet (dI (dC .non)))))
abbrev N_Ltold : List Str := ["_law_text_here", "_law_pieces", "_law_back", "e"]
def t_Ltold : DS :=
 (sSeq (sTryAs 3 [("BadChange", true)] (fun a dd c => (sSeq (sIf (dOr (dNot (dTru (dI (dIsX a dd c "BadChange" true (dV 3))))) (dNot (dTru (dI (dIsX a dd c "BadChange" true (dV 3)))))) (sRet (dI (dC (.str "other")))) sNext)
 (sRet (dI (dTup (adCons (dXf a dd c "BadChange" "number" (dV 3)) (adCons (dXf a dd c "BadChange" "reason" (dV 3)) adNil))))))) (sAsg 2 (dCall pf_check_change (aCons (dV 0) (aCons (dV 1) aNil)))))
 (sSeq (sIf (dNot (dIsN (dV 2))) (sRet (dI (dC (.str "other")))) sNext)
 (sRet (dI (dC .non)))))
abbrev N_law : List Str := ["_law_script", "_law_pool_here", "_law_text_here", "_law_change_here", "_law_wild_here", "_law_kept", "_law_due"]
def t_law : DS :=
 (sSeq (sAsg 1 (dCall pf_pool (aCons (dV 0) aNil)))
 (sSeq (sAsg 2 (dCall pf_Ltext (aCons (dV 1) (aCons (dCall pf_Lsize (aCons (dV 1) aNil)) aNil))))
 (sSeq (sAsg 3 (dCall pf_Lchange (aCons (dV 1) (aCons (dV 2) aNil))))
 (sSeq (sAsg 4 (dCall pf_Lwild (aCons (dV 1) (aCons (dI (dCB fLen (aCons (dV 2) aNil))) aNil))))
 (sSeq (sAsg 5 (dI (dCB fRepr (aCons (dI (dTup (adCons (dD (dV 2)) (adCons (dD (dV 3)) (adCons (dD (dV 4)) adNil))))) aNil))))
 (sSeq (sAsg 6 (dCall pf_Lafter (aCons (dV 2) (aCons (dV 3) aNil))))
 (sSeq (sIf (dOr (dNot (dIsN (dCall pf_Ltold (aCons (dV 2) (aCons (dV 3) aNil))))) (dNot (dIsN (dCall pf_Ltold (aCons (dV 2) (aCons (dI (dCB fTuple (aCons (dV 3) aNil))) aNil)))))) (sRet (dI (dC (.bl false)))) sNext)
 (sSeq (sIf (dOr (dNot (dTru (dCall (Sm.pf_same 12) (aCons (dCall pf_apply_change (aCons (dV 2) (aCons (dV 3) aNil))) (aCons (dV 6) aNil))))) (dNot (dTru (dCall (Sm.pf_same 12) (aCons (dCall pf_apply_change (aCons (dV 2) (aCons (dI (dCB fTuple (aCons (dV 3) aNil))) aNil))) (aCons (dV 6) aNil)))))) (sRet (dI (dC (.bl false)))) sNext)
 (sSeq (sIf (dNot (dTru (dCall (Sm.pf_same 12) (aCons (dCall pf_Ltold (aCons (dV 2) (aCons (dV 4) aNil))) (aCons (dCall pf_Lwrong (aCons (dI (dCB fLen (aCons (dV 2) aNil))) (aCons (dV 4) aNil))) aNil))))) (sRet (dI (dC (.bl false)))) sNext)
 (sRet (dI (dB (dCmp cEq (dI (dCB fRepr (aCons (dI (dTup (adCons (dD (dV 2)) (adCons (dD (dV 3)) (adCons (dD (dV 4)) adNil))))) aNil))) (dV 5))))))))))))))
end Dl.Ka
end

section
set_option maxHeartbeats 4000000
namespace Dl.Ka
open PySem PySem.Spec PyProof.Rows L2 Co PySem.StrLaws Dl.Ut
open Co.Tx (Pc WfC mark aft)
theorem r_Lis_integer : ∀ ws st k ex, pf_Lis_integer ws st k ex → t_Lis_integer (EnD false st.length k ex) (startD N_Lis_integer ws) st := Sm.r_isint
theorem r_Lsame {n : Nat} : ∀ ws st k ex, pf_Lsame (n + 1) ws st k ex → (t_Lsame n) (EnD false st.length k ex) (startD N_Lsame ws) st := Sm.r_same
theorem wrongF_cons {n : Nat} {last : Int} {i : Nat} {p : Wp} {ps : List Wp} : wrongF n last i (p :: ps) = (if ¬ (0 ≤ p.s ∧ p.s ≤ p.e ∧ p.e ≤ (n : Int)) then some (i, "range") else if p.s ≤ last then some (i, "order") else if p.s = p.e ∧ p.put = [] then some (i, "nothing") else wrongF n p.e (i + 1) ps : Option (Nat × Str)) := rfl
def ckB : DS := (sSeq (sAsgG (dD (dV 4)) (gT [(gN 5), (gN 6), (gN 7)]))
 (sSeq (sIf (dNot (dChain3 cLe cLe cLe (dI (dC (.int 0))) (dV 5) (dV 6) (dI (dCB fLen (aCons (dV 0) aNil))))) (sRaise2 "BadChange" "number" "reason" (dD (dV 3)) (dC (.str "range"))) sNext)
 (sSeq (sIf (dCmp cLe (dV 5) (dV 2)) (sRaise2 "BadChange" "number" "reason" (dD (dV 3)) (dC (.str "order"))) sNext)
 (sSeq (sIf (dAnd (dCmp cEq (dV 5) (dV 6)) (dCmp cEq (dV 7) (dI (dC (.str ""))))) (sRaise2 "BadChange" "number" "reason" (dD (dV 3)) (dC (.str "nothing"))) sNext)
 (sAsg 2 (dV 6))))))
def ckS (t : List Nat) (d : D) (last : Int) (x3 x4 x5 x6 x7 : Option D) : Sl := [some (.im (.str (S t))), some (.im d), some (.im (.int last)), x3.map .im, x4.map .im, x5.map .im, x6.map .im, x7.map .im]
def ans (k : W → Sto → Prop) (ex : DX) : Option (Nat × Str) → Prop
  | none => k (.im .non) []
  | some (i, r) => ex "BadChange" [("reason", .str r), ("number", .int (i : Nat))] []
theorem Semp {l : List Nat} : (S l = "") ↔ l = [] := by
  constructor
  · intro h
    have h := congrArg (fun z : Str => z.length) h
    simp only [S_len] at h
    exact List.length_eq_zero_iff.mp h
  · rintro rfl; rfl
theorem ckB_ok {E : En} {t : List Nat} {d : D} {last : Int} {i : Nat} {p : Wp} {ps : List Wp} {x5 x6 x7 : Option D} {k : W → Sto → Prop} {ex : DX} (ht : t.length ≤ 600)
    (hex : ∀ σ, E.ex "BadChange" [("reason", .str "range"), ("number", .int (i : Nat))] σ [] = ex "BadChange" [("reason", .str "range"), ("number", .int (i : Nat))] [])
    (hex2 : ∀ σ, E.ex "BadChange" [("reason", .str "order"), ("number", .int (i : Nat))] σ [] = ex "BadChange" [("reason", .str "order"), ("number", .int (i : Nat))] [])
    (hex3 : ∀ σ, E.ex "BadChange" [("reason", .str "nothing"), ("number", .int (i : Nat))] σ [] = ex "BadChange" [("reason", .str "nothing"), ("number", .int (i : Nat))] [])
    (hk : ans k ex (wrongF t.length last i (p :: ps)))
    (hn : ans k ex (wrongF t.length p.e (i + 1) ps) → E.nx (ckS t d p.e (some (.int (i : Nat))) (some (eW p)) (some (.int p.s)) (some (.int p.e)) (some (.str (S p.put)))) []) :
    ckB E (ckS t d last (some (.int (i : Nat))) (some (eW p)) x5 x6 x7) [] := by
  have hz : (S t).length ≤ sizeLine := by rw [S_len, sizeLine_eq]; omega
  unfold ckB
  refine sSeq_of (sAsgG_of (dD_at (d := eW p) rfl ?_))
  refine ⟨rfl, ?_⟩
  simp only [gAll, gN]
  unfold wrongF at hk
  have go2 : (0 ≤ p.s ∧ p.s ≤ p.e ∧ p.e ≤ ((t.length : Nat) : Int)) → ∀ E2 : En, E2.ex = E.ex → E2.nx = E.nx → (sSeq (sIf (dCmp cLe (dV 5) (dV 2)) (sRaise2 "BadChange" "number" "reason" (dD (dV 3)) (dC (.str "order"))) sNext)
 (sSeq (sIf (dAnd (dCmp cEq (dV 5) (dV 6)) (dCmp cEq (dV 7) (dI (dC (.str ""))))) (sRaise2 "BadChange" "number" "reason" (dD (dV 3)) (dC (.str "nothing"))) sNext)
 (sAsg 2 (dV 6)))) E2 (ckS t d last (some (.int (i : Nat))) (some (eW p)) (some (.int p.s)) (some (.int p.e)) (some (.str (S p.put)))) [] := fun hr E2 e1 e2 => by
    rw [if_neg (fun z => z hr)] at hk
    refine sSeq_of (sIf_of ?_)
    show two (decide (p.s ≤ last)) _ _
    refine oneD (fun h => ?_) fun h => ?_
    · rw [if_pos h] at hk
      show E2.ex "BadChange" _ _ _
      rw [e1, hex2]
      exact hk
    · rw [if_neg h] at hk
      refine sNext_seq (sSeq_of (sIf_of (dAnd_of ?_)))
      show two (decide (p.s = p.e)) _ _
      have fin : ¬ (p.s = p.e ∧ p.put = []) → E2.nx (ckS t d p.e (some (.int (i : Nat))) (some (eW p)) (some (.int p.s)) (some (.int p.e)) (some (.str (S p.put)))) [] := fun z => by
        rw [if_neg z] at hk
        rw [e2]
        exact hn hk
      refine oneD (fun h1 => ?_) fun h1 => ?_
      · show two (decide (S p.put = "")) _ _
        refine oneD (fun h2 => ?_) fun h2 => ?_
        · rw [if_pos ⟨h1, Semp.mp h2⟩] at hk
          show E2.ex "BadChange" _ _ _
          rw [e1, hex3]
          exact hk
        · exact fin fun z => h2 (Semp.mpr z.2)
      · exact twoF (fin fun z => h1 z.1)
  refine sSeq_of (sIf_of (dNot_of ?_))
  show two (decide ((0 : Int) ≤ p.s)) _ _
  have bad : ¬ (0 ≤ p.s ∧ p.s ≤ p.e ∧ p.e ≤ ((t.length : Nat) : Int)) → ∀ σ, E.ex "BadChange" [("reason", .str "range"), ("number", .int (i : Nat))] σ [] := fun z σ => by
    rw [if_pos z] at hk
    rw [hex]
    exact hk
  refine oneD (fun h1 => ?_) fun h1 => ?_
  · show two (decide (p.s ≤ p.e)) _ _
    refine oneD (fun h2 => ?_) fun h2 => ?_
    · refine ⟨hz, ?_⟩
      show two (!decide (p.e ≤ ((S t).length : Nat))) _ _
      rw [S_len]
      refine notD (fun h3 => ?_) fun h3 => ?_
      · exact bad (fun z => h3 z.2.2) _
      · exact go2 ⟨h1, h2, h3⟩ _ rfl rfl
    · exact twoT (bad (fun z => h2 z.2.1) _)
  · exact twoT (bad (fun z => h1 z.1) _)
theorem r_check_change : ∀ ws st k ex, pf_check_change ws st k ex → t_check_change (EnD false st.length k ex) (startD N_check_change ws) st := by
  intro ws st k ex h
  unfold pf_check_change at h
  split at h
  · rename_i z d
    obtain ⟨t, ps, rfl, hd, ht, hl, hk⟩ := h
    have hk : ans k ex (wrongF t.length (-1) 0 ps) := by
      cases e : wrongF t.length (-1) 0 ps with
      | none => rw [e] at hk; exact hk
      | some r => rw [e] at hk; exact hk
    unfold t_check_change
    refine sSeq_of (sAsg_of (dI_of (dUn_of (dC_of ?_))))
    dsimp only [fNeg]
    show sFor (iEn (dD (dV 1))) (gT [(gN 3), (gN 4)]) ckB _ (ckS t d (-1) none none none none none) []
    have main : ∀ E : En, E.nx = (EnD false 0 k ex).nx → E.ex = (EnD false 0 k ex).ex → ∀ K : List D → Sto → Prop, (∀ ds st1, ds = enD 0 (ps.map eW) → st1 = [] → (∃ I : Nat → Sl → Sto → Prop, I 0 (ckS t d (-1) none none none none none) st1 ∧
  (∀ (i : Nat) d σ' st', ds[i]? = some d → I i σ' st' → st'.length = st1.length → (gT [(gN 3), (gN 4)]) d σ' fun σ2 => ckB { E with nx := fun σ3 st3 => I (i + 1) (trSl st1.length σ3) (trS st1.length st3), ct := fun σ3 st3 => I (i + 1) (trSl st1.length σ3) (trS st1.length st3), bk := fun σ3 st3 => E.nx (trSl st1.length σ3) (trS st1.length st3) } σ2 st') ∧
  ∀ σ' st', I ds.length σ' st' → st'.length = st1.length → E.nx σ' st')) := by
      rintro E e1 e2 K ds st1 rfl rfl
      refine ⟨fun i σ' st' => st' = [] ∧ ∃ (last : Int) (x3 x4 x5 x6 x7 : Option D), σ' = ckS t d last x3 x4 x5 x6 x7 ∧ ans k ex (wrongF t.length last i (ps.drop i)), ⟨rfl, -1, none, none, none, none, none, rfl, hk⟩, ?_, ?_⟩
      · rintro i dd σ' st' hi ⟨rfl, last, x3, x4, x5, x6, x7, rfl, ha⟩ -
        rw [enD_get, List.getElem?_map] at hi
        cases hx : ps[i]? with
        | none => rw [hx] at hi; cases hi
        | some p =>
          rw [hx] at hi
          cases hi
          obtain ⟨_, t2, _⟩ := takeGet hx
          rw [t2] at ha
          refine ⟨rfl, ?_⟩
          simp only [gAll, gN, Nat.zero_add]
          refine ckB_ok (t := t) (d := d) (last := last) (i := i) (p := p) (ps := ps.drop (i + 1)) (x5 := x5) (x6 := x6) (x7 := x7) (k := k) (ex := ex) ht (fun σ => by show E.ex _ _ _ _ = _; rw [e2]; rfl) (fun σ => by show E.ex _ _ _ _ = _; rw [e2]; rfl) (fun σ => by show E.ex _ _ _ _ = _; rw [e2]; rfl) ha fun hn => ?_
          exact ⟨rfl, p.e, some (.int (i : Nat)), some (eW p), some (.int p.s), some (.int p.e), some (.str (S p.put)), rfl, hn⟩
      · rintro σ' st' ⟨rfl, last, x3, x4, x5, x6, x7, rfl, ha⟩ -
        rw [enD_len, List.length_map, List.drop_length] at ha
        rw [e1]
        exact ha
    rcases hd with rfl | rfl
    · exact main _ rfl rfl (fun _ _ => True) _ _ rfl rfl
    · exact main _ rfl rfl (fun _ _ => True) _ _ rfl rfl
  · exact h.elim
theorem r_Lwrong : ∀ ws st k ex, pf_Lwrong ws st k ex → t_Lwrong (EnD false st.length k ex) (startD N_Lwrong ws) st := by
  intro ws st k ex h
  unfold pf_Lwrong at h
  split at h
  · obtain ⟨m, ps, rfl, rfl, hm, hl, hk⟩ := h
    unfold t_Lwrong
    refine sSeq_of (sAsg_of (dI_of (dUn_of (dC_of ?_))))
    dsimp only [fNeg]
    refine sSeq_of ?_
    unfold sFor iRg1
    refine dCB_of (aCons_of (dV_at rfl (aNil_of ?_)))
    show (-(2 ^ 62) ≤ (((ps.map eW).length : Nat) : Int)) ∧ _
    rw [List.length_map]
    refine ⟨by omega, by omega, ?_⟩
    rw [Int.toNat_natCast]
    refine ⟨fun i σ' st' => st' = [] ∧ ∃ (last : Int) (x3 x4 x5 x6 : Option D), σ' = [some (.im (.int (m : Nat))), some (.im (.lst (ps.map eW))), some (.im (.int last)), x3.map .im, x4.map .im, x5.map .im, x6.map .im] ∧ wrongF m last i (ps.drop i) = wrongF m (-1) 0 ps, ⟨rfl, -1, none, none, none, none, rfl, rfl⟩, ?_, ?_⟩
    · rintro i dd σ' st' hi ⟨rfl, last, x3, x4, x5, x6, rfl, ha⟩ -
      obtain ⟨hlt, rfl⟩ := rgD_get hi
      rw [Int.zero_add]
      have hx : ps[i]? = some (ps[i]'hlt) := List.getElem?_eq_getElem hlt
      generalize ps[i]'hlt = p at hx
      obtain ⟨_, t2, _⟩ := takeGet hx
      rw [t2] at ha
      refine sSeq_of (sAsgG_of (dIx_of (dV_at (w := .im (.lst (ps.map eW))) rfl (dD_at (d := .int (i : Nat)) rfl ?_))))
      refine lstAt (d := eW p) (by rw [List.getElem?_map, hx]; rfl) ?_
      refine ⟨rfl, ?_⟩
      simp only [gAll, gN]
      rw [wrongF_cons] at ha
      have fin : ∀ r : Str, some (i, r) = wrongF m (-1) 0 ps → k (.im (.tup [.int (i : Nat), .str r])) [] := fun r e => by
        rw [← e] at hk
        exact hk
      refine sSeq_of (sIf_of (dOr_of ?_))
      show two (decide (p.s < 0)) _ _
      refine oneD (fun h1 => ?_) fun h1 => ?_
      · rw [if_pos (fun z => absurd z.1 (by omega))] at ha
        exact twoT ⟨by show 2 ≤ 1000000; decide, fin _ ha⟩
      · refine dOr_of ?_
        show two (decide (p.e < p.s)) _ _
        refine oneD (fun h2 => ?_) fun h2 => ?_
        · rw [if_pos (fun z => absurd z.2.1 (by omega))] at ha
          exact twoT ⟨by show 2 ≤ 1000000; decide, fin _ ha⟩
        · show two (decide (((m : Nat) : Int) < p.e)) _ _
          refine oneD (fun h3 => ?_) fun h3 => ?_
          · rw [if_pos (fun z => absurd z.2.2 (by omega))] at ha
            exact ⟨by show 2 ≤ 1000000; decide, fin _ ha⟩
          · rw [if_neg (fun z => z ⟨by omega, by omega, by omega⟩)] at ha
            refine sNext_seq (sSeq_of (sIf_of ?_))
            show two (decide (p.s ≤ last)) _ _
            refine oneD (fun h4 => ?_) fun h4 => ?_
            · rw [if_pos h4] at ha
              exact ⟨by show 2 ≤ 1000000; decide, fin _ ha⟩
            · rw [if_neg h4] at ha
              refine sNext_seq (sSeq_of (sIf_of (dAnd_of ?_)))
              show two (decide (p.s = p.e)) _ _
              have nx : ¬ (p.s = p.e ∧ p.put = []) → ∃ (last : Int) (x3 x4 x5 x6 : Option D), [some (W.im (.int (m : Nat))), some (.im (.lst (ps.map eW))), some (.im (.int p.e)), some (.im (.int (i : Nat))), some (.im (.int p.s)), some (.im (.int p.e)), some (.im (.str (S p.put)))] = [some (.im (.int (m : Nat))), some (.im (.lst (ps.map eW))), some (.im (.int last)), x3.map .im, x4.map .im, x5.map .im, x6.map .im] ∧ wrongF m last (i + 1) (ps.drop (i + 1)) = wrongF m (-1) 0 ps := fun z => by
                rw [if_neg z] at ha
                exact ⟨p.e, some (.int (i : Nat)), some (.int p.s), some (.int p.e), some (.str (S p.put)), rfl, ha⟩
              refine oneD (fun h5 => ?_) fun h5 => ?_
              · show two (decide (S p.put = "")) _ _
                refine oneD (fun h6 => ?_) fun h6 => ?_
                · rw [if_pos ⟨h5, Semp.mp h6⟩] at ha
                  exact ⟨by show 2 ≤ 1000000; decide, fin _ ha⟩
                · exact ⟨rfl, nx fun z => h6 (Semp.mpr z.2)⟩
              · exact twoF ⟨rfl, nx fun z => h5 z.1⟩
    · rintro σ' st' ⟨rfl, last, x3, x4, x5, x6, rfl, ha⟩ -
      rw [rgD_len, List.drop_length] at ha
      have ha : none = wrongF m (-1) 0 ps := ha
      rw [← ha] at hk
      exact hk
  · exact h.elim
theorem r_Ltold : ∀ ws st k ex, pf_Ltold ws st k ex → t_Ltold (EnD false st.length k ex) (startD N_Ltold ws) st := by
  intro ws st k ex h
  unfold pf_Ltold at h
  split at h
  · rename_i z d
    obtain ⟨t, ps, rfl, hd, ht, hl, hk⟩ := h
    unfold t_Ltold
    refine sSeq_of ?_
    refine sAsg_of (dCall_of (aCons_of (dV_at (w := .im (.str (S t))) rfl (aCons_of (dV_at (w := .im d) rfl (aNil_of ?_))))))
    refine ⟨rfl, t, ps, rfl, hd, ht, hl, ?_⟩
    cases e : wrongF t.length (-1) 0 ps with
    | none =>
      rw [e] at hk
      exact twoF hk
    | some r =>
      obtain ⟨i, r⟩ := r
      rw [e] at hk
      refine ⟨fun z => (nomatch z), fun a dd => ?_⟩
      refine ⟨rfl, rfl, rfl, twoF ?_⟩
      refine ⟨rfl, rfl, rfl, twoF ?_⟩
      exact ⟨rfl, rfl, rfl, rfl, rfl, rfl, by show 2 ≤ 1000000; decide, hk⟩
  · exact h.elim
end Dl.Ka
end

section
set_option maxHeartbeats 4000000
namespace Dl.Ka
open PySem PySem.Spec PyProof.Rows L2 Co PySem.StrLaws Dl.Ut
open Co.Tx (Pc WfC mark aft slc aft_nil aft_cons seg ins)
def alf : List Nat := 10 :: ((List.range 95).map (· + 32)).filter fun c => c != 37
theorem alf_eq : (("\x0a !\"#$&'()*+,-./0123456789:;<=>?@ABCDEFGHIJKLMNOPQRSTUVWXYZ[\\]^_`abcdefghijklmnopqrstuvwxyz{|}~" : Str)) = S alf := by decide +kernel
theorem alf_len : alf.length = 95 := by decide +kernel
theorem alf_lt : ∀ c ∈ alf, c < 200 := by decide +kernel
theorem r_Lchar : ∀ ws st k ex, pf_Lchar ws st k ex → t_Lchar (EnD false st.length k ex) (startD N_Lchar ws) st := by
  intro ws st k ex h
  unfold pf_Lchar at h
  split at h
  · rename_i i
    obtain ⟨h0, h1, hk⟩ := h
    unfold t_Lchar
    refine sSeq_of (sAsg_of (dI_of (dC_of ?_)))
    dsimp only
    refine sRet_of (dI_of (dIx_of (dV_at rfl (dOp_of (dV_at (w := .im (.int i)) rfl (dC_of ?_))))))
    refine ⟨by decide, ?_⟩
    rw [Int.emod_eq_of_lt h0 h1]
    obtain ⟨n, rfl⟩ : ∃ n : Nat, i = (n : Int) := ⟨i.toNat, by omega⟩
    have hn : n < alf.length := by rw [alf_len]; omega
    refine strAt (l := alf) (c := alf[n]) alf_eq (by rw [alf_len]; decide) (List.getElem?_eq_getElem hn) ?_
    exact hk _ (alf_lt _ (List.getElem_mem hn))
  · exact h.elim
theorem call_char {i : Int} {r : Sto} {k : W → Sto → Prop} {ex : DX} (h0 : 0 ≤ i) (h1 : i < 95) (hk : ∀ c : Nat, c < 200 → k (.im (.str (S [c]))) r) : callD pf_Lchar [] [.im (.int i)] r k ex := ⟨rfl, h0, h1, hk⟩
theorem r_Lsize : ∀ ws st k ex, pf_Lsize ws st k ex → t_Lsize (EnD false st.length k ex) (startD N_Lsize ws) st := by
  intro ws st k ex h
  unfold pf_Lsize at h
  split at h
  · unfold t_Lsize
    refine sSeq_of (sIf_of (dCmp_of ?_))
    refine takeU (r := []) (by decide) (by decide) fun n hn => ?_
    show two (decide ((n : Int) = 1)) _ _
    refine oneD (fun _ => ?_) fun _ => ?_
    · refine sRet_of ?_
      refine takeU (r := []) (by decide) (by decide) fun n hn => ?_
      exact h n (by omega)
    · refine sNext_seq (sRet_of ?_)
      refine takeU (r := []) (by decide) (by decide) fun n hn => ?_
      exact h n (by omega)
  · exact h.elim
theorem ab_eq : (("ab\x0a" : Str)) = S [97, 98, 10] := by decide +kernel
def txB : DS := (sIf (dCmp cEq (dV 2) (dI (dC (.int 0)))) (sApp (dV 4) (dD (dCall pf_Lchar (aCons (dCall pf_take (aCons (dV 0) (aCons (dI (dC (.int 95))) aNil))) aNil)))) (sIf (dCmp cEq (dV 2) (dI (dC (.int 1)))) (sApp (dV 4) (dIx (dI (dC (.str "ab\x0a"))) (dD (dCall pf_take (aCons (dV 0) (aCons (dI (dC (.int 3))) aNil)))))) (sApp (dV 4) (dD (dCall pf_Lchar (aCons (dV 3) aNil))))))
def txS (m a b : Nat) (x5 : Option D) : Sl := [some (.loc 0), some (.im (.int (m : Nat))), some (.im (.int (a : Nat))), some (.im (.int (b : Nat))), some (.loc 1), x5.map .im]
theorem one_snoc (t : List Nat) (c : Nat) : lsD (t.map fun c => [c]) ++ [.str (S [c])] = lsD ((t ++ [c]).map fun c => [c]) := by
  rw [lsD_snoc, List.map_append]
  rfl
theorem txB_ok {E : En} {m a b : Nat} {x5 : Option D} {t : List Nat} (hb : b < 95) (hl : t.length ≤ 1000) (hk : ∀ c, c < 200 → E.nx (txS m a b x5) [.pool, .lst (lsD ((t ++ [c]).map fun c => [c]))]) : txB E (txS m a b x5) [.pool, .lst (lsD (t.map fun c => [c]))] := by
  have hll : (lsD (t.map fun c => [c])).length ≤ 1000000 := by rw [lsD_len, List.length_map]; omega
  have fin : ∀ c, c < 200 → (lsD (t.map fun c => [c])).length ≤ 1000000 ∧ E.nx (txS m a b x5) [.pool, .lst (lsD (t.map fun c => [c]) ++ [.str (S [c])])] := fun c hc => by
    refine ⟨hll, ?_⟩
    rw [one_snoc]
    exact hk c hc
  unfold txB
  refine sIf_of ?_
  show two (decide (((a : Nat) : Int) = 0)) _ _
  refine oneD (fun _ => ?_) fun _ => ?_
  · refine sApp_of (dV_at (w := .loc 1) rfl ⟨⟨_, rfl⟩, ?_⟩)
    refine dCall_of (aCons_of ?_)
    refine takeU (r := [.lst (lsD (t.map fun c => [c]))]) (by decide) (by decide) fun n hn => ?_
    refine aNil_of ?_
    refine call_char (by omega) (by omega) fun c hc => ?_
    exact fin c hc
  · refine sIf_of ?_
    show two (decide (((a : Nat) : Int) = 1)) _ _
    refine oneD (fun _ => ?_) fun _ => ?_
    · refine sApp_of (dV_at (w := .loc 1) rfl ⟨⟨_, rfl⟩, ?_⟩)
      refine dIx_of (dI_of (dC_of ?_))
      refine takeU (r := [.lst (lsD (t.map fun c => [c]))]) (by decide) (by decide) fun n hn => ?_
      obtain ⟨c, hc, hc2⟩ : ∃ c, [97, 98, 10][n]? = some c ∧ c < 200 := by
        match n, hn with
        | 0, _ => exact ⟨97, rfl, by decide⟩
        | 1, _ => exact ⟨98, rfl, by decide⟩
        | 2, _ => exact ⟨10, rfl, by decide⟩
        | n + 3, hn => omega
      refine strAt (l := [97, 98, 10]) (c := c) ab_eq (by decide) hc ?_
      exact fin c hc2
    · refine sApp_of (dV_at (w := .loc 1) rfl ⟨⟨_, rfl⟩, ?_⟩)
      refine dCall_of (aCons_of (dV_at (w := .im (.int (b : Nat))) rfl (aNil_of ?_)))
      refine call_char (by omega) (by omega) fun c hc => ?_
      exact fin c hc
theorem flatOne : ∀ l : List Nat, (l.map fun c => [c]).flatten = l
  | [] => rfl
  | c :: l => by
    rw [List.map_cons, List.flatten_cons, flatOne l]
    rfl
theorem r_Ltext : ∀ ws st k ex, pf_Ltext ws st k ex → t_Ltext (EnD false st.length k ex) (startD N_Ltext ws) st := by
  intro ws st k ex h
  unfold pf_Ltext at h
  split at h
  · obtain ⟨m, rfl, hm, hk⟩ := h
    unfold t_Ltext
    refine sSeq_of (sAsg_of ?_)
    refine takeU (r := []) (by decide) (by decide) fun a ha => ?_
    dsimp only
    refine sSeq_of (sAsg_of ?_)
    refine takeU (r := []) (by decide) (by decide) fun b hb => ?_
    dsimp only
    refine sSeq_of (sAsg_of (dLstM_of (adNil_of ⟨Nat.zero_le _, ?_⟩)))
    dsimp only
    refine sSeq_of ?_
    unfold sFor iRg1
    refine dD_at rfl ?_
    refine ⟨by omega, by omega, ?_⟩
    rw [Int.toNat_natCast]
    refine ⟨fun i σ' st' => ∃ (t : List Nat) (x5 : Option D), σ' = txS m a b x5 ∧ st' = [.pool, .lst (lsD (t.map fun c => [c]))] ∧ t.length = i ∧ i ≤ m ∧ SmT t, ⟨[], none, rfl, rfl, rfl, Nat.zero_le _, fun c h => (by cases h)⟩, ?_, ?_⟩
    · rintro i dd σ' st' hi ⟨t, x5, rfl, rfl, h1, h2, h3⟩ -
      obtain ⟨hlt, rfl⟩ := rgD_get hi
      show txB _ (txS m a b (some (.int (0 + (i : Int))))) _
      refine txB_ok (by omega) (by omega) fun c hc => ?_
      refine ⟨t ++ [c], some (.int (0 + (i : Int))), rfl, rfl, by rw [List.length_append, h1]; rfl, by omega, fun z hz => ?_⟩
      rcases List.mem_append.mp hz with hz | hz
      · exact h3 z hz
      · rw [List.mem_singleton.mp hz]; exact hc
    · rintro σ' st' ⟨t, x5, rfl, rfl, h1, h2, h3⟩ -
      rw [rgD_len] at h1
      dsimp only
      refine sRet_of (dI_of ?_)
      refine ⟨rfl, ?_⟩
      refine aCons_of (dV_at (w := .loc 1) rfl (aNil_of ?_))
      show mJoin (.str "") [.lst (lsD (t.map fun c => [c]))] _
      refine joinE (by rw [List.length_map]; omega) (by rw [flatOne]; omega) ?_
      rw [flatOne]
      exact hk t h1 h3
  · exact h.elim
theorem call_text {m : Nat} {r : Sto} {k : W → Sto → Prop} {ex : DX} (h1 : m ≤ 600) (hk : ∀ t : List Nat, t.length = m → SmT t → k (.im (.str (S t))) (.pool :: r)) : callD pf_Ltext [0] [.loc 0, .im (.int (m : Nat))] (.pool :: r) k ex := by
  refine ⟨rfl, m, rfl, h1, fun t ht hs => ?_⟩
  show k _ (back [0] (.pool :: r) [.pool])
  rw [backP]
  exact hk t ht hs
theorem toW_get {cs : List Pc} {i : Nat} {d : D} (h : ((cs.map toW).map eW)[i]? = some d) : ∃ c, cs[i]? = some c ∧ d = eW (toW c) := by
  rw [List.getElem?_map, List.getElem?_map] at h
  cases hx : cs[i]? with
  | none => rw [hx] at h; cases h
  | some c => rw [hx] at h; cases h; exact ⟨c, rfl, rfl⟩
def apB : DS := (sSeq (sApp (dV 2) (dSl (dV 0) (dPart (dD (dV 3))) (dPart (dD (dV 4)))))
 (sSeq (sApp (dV 2) (dD (dV 6)))
 (sAsg 3 (dV 5))))
def apS (t : List Nat) (d : D) (a : Nat) (x4 x5 x6 : Option D) : Sl := [some (.im (.str (S t))), some (.im d), some (.loc 0), some (.im (.int (a : Nat))), x4.map .im, x5.map .im, x6.map .im]
theorem apply_for {t : List Nat} {d : D} {cs : List Pc} {E : En} {k : W → Sto → Prop} (ok : CA t.length cs) (ht : t.length ≤ 600) (hE : ∀ (ls : List (List Nat)) (a : Nat) (x4 x5 x6 : Option D), a ≤ t.length → ls.length ≤ 12 → ls.flatten.length ≤ 4000 → ls.flatten ++ t.drop a = aft t 0 cs → E.nx (apS t d a x4 x5 x6) [.lst (lsD ls)]) :
    ∃ I : Nat → Sl → Sto → Prop, I 0 (apS t d 0 none none none) [.lst []] ∧
  (∀ (i : Nat) d' σ' st', ((cs.map toW).map eW)[i]? = some d' → I i σ' st' → st'.length = 1 → (gT [(gN 4), (gN 5), (gN 6)]) d' σ' fun σ2 => apB { E with nx := fun σ3 st3 => I (i + 1) (trSl 1 σ3) (trS 1 st3), ct := fun σ3 st3 => I (i + 1) (trSl 1 σ3) (trS 1 st3), bk := fun σ3 st3 => E.nx (trSl 1 σ3) (trS 1 st3) } σ2 st') ∧
  ∀ σ' st', I ((cs.map toW).map eW).length σ' st' → st'.length = 1 → E.nx σ' st' := by
  have hz : (S t).length ≤ sizeLine := by rw [S_len, sizeLine_eq]; omega
  have hcl := ok.l
  have sl : ∀ a b : Nat, (slc t a b).length ≤ t.length := fun a b => by
    unfold Co.Tx.slc
    rw [List.length_take, List.length_drop]
    omega
  refine ⟨fun i σ' st' => ∃ (a lo : Nat) (ls : List (List Nat)) (x4 x5 x6 : Option D), σ' = apS t d a x4 x5 x6 ∧ st' = [.lst (lsD ls)] ∧ WfC t.length lo (cs.drop i) ∧ a ≤ lo ∧ a ≤ t.length ∧ ls.length ≤ 2 * i ∧ ls.flatten ++ aft t a (cs.drop i) = aft t 0 cs ∧ ls.flatten.length ≤ 610 * i,
      ⟨0, 0, [], none, none, none, rfl, rfl, ok.w, Nat.le_refl _, Nat.zero_le _, Nat.zero_le _, rfl, Nat.zero_le _⟩, ?_, ?_⟩
  · rintro i d' σ' st' hd ⟨a, lo, ls, x4, x5, x6, rfl, rfl, w, h1, h2, h3, h4, h5⟩ -
    obtain ⟨c, hx, rfl⟩ := toW_get hd
    obtain ⟨t1, t2, t3⟩ := takeGet hx
    have hi := ltAt hx
    have hp := (ok.p c (List.mem_of_getElem? hx)).1
    rw [t2] at w h4
    obtain ⟨w1, w2, w3, w4, w5⟩ := w
    rw [aft_cons (by omega)] at h4
    have hll := lsD_len ls
    refine ⟨rfl, ?_⟩
    simp only [gAll, gN]
    unfold apB
    refine sSeq_of ?_
    refine ⟨⟨_, rfl⟩, ?_⟩
    refine ⟨hz, ?_⟩
    have ec : cutS (S t) (some (a : Int)) (some ((toW c).s)) = S (slc t a c.s) := cutS_nat (by omega) h2
    rw [ec]
    refine ⟨by omega, ?_⟩
    dsimp only
    refine sSeq_of ?_
    refine ⟨⟨_, rfl⟩, ?_⟩
    refine ⟨by rw [List.length_append, hll]; show ls.length + 1 ≤ 1000000; omega, ?_⟩
    dsimp only
    refine sAsg_of (dV_at (w := .im (.int (c.e : Nat))) rfl ?_)
    refine ⟨c.e, c.e + 1, ls ++ [slc t a c.s] ++ [c.put], some (.int (c.s : Nat)), some (.int (c.e : Nat)), some (.str (S c.put)), rfl, ?_, w5, by omega, w3, ?_, ?_, ?_⟩
    · rw [← lsD_snoc, ← lsD_snoc]
      rfl
    · rw [List.length_append, List.length_append]
      show ls.length + 1 + 1 ≤ _
      omega
    · rw [← h4]
      simp
    · have := sl a c.s
      simp only [List.flatten_append, List.length_append, List.flatten_cons, List.flatten_nil, List.append_nil]
      omega
  · rintro σ' st' ⟨a, lo, ls, x4, x5, x6, rfl, rfl, w, h1, h2, h3, h4, h5⟩ -
    rw [List.length_map, List.length_map] at h3 h4 h5
    rw [List.drop_length, aft_nil] at h4
    exact hE ls a x4 x5 x6 h2 (by omega) (by omega) h4
theorem r_apply_change : ∀ ws st k ex, pf_apply_change ws st k ex → t_apply_change (EnD false st.length k ex) (startD N_apply_change ws) st := by
  intro ws st k ex h
  unfold pf_apply_change at h
  split at h
  · rename_i z d
    obtain ⟨t, cs, rfl, hd, ok, hl, hk⟩ := h
    have hz : (S t).length ≤ sizeLine := by rw [S_len, sizeLine_eq]; omega
    unfold t_apply_change
    refine sSeq_of (sAsg_of (dLstM_of (adNil_of ⟨Nat.zero_le _, ?_⟩)))
    dsimp only
    refine sSeq_of (sAsg_of (dI_of (dC_of ?_)))
    dsimp only
    refine sSeq_of ?_
    have fin : ∀ (ls : List (List Nat)) (a : Nat) (x4 x5 x6 : Option D), a ≤ t.length → ls.length ≤ 12 → ls.flatten.length ≤ 4000 → ls.flatten ++ t.drop a = aft t 0 cs → (sSeq (sApp (dV 2) (dSl (dV 0) (dPart (dD (dV 3))) dNoPart))
 (sRet (dI (dBM "str" mJoin (dI (dC (.str ""))) (aCons (dV 2) aNil))))) (EnD false 0 k ex) (apS t d a x4 x5 x6) [.lst (lsD ls)] := fun ls a x4 x5 x6 h1 h2 h3 h4 => by
      have hll := lsD_len ls
      refine sSeq_of ?_
      refine ⟨⟨_, rfl⟩, ?_⟩
      refine ⟨hz, ?_⟩
      rw [cutS_from h1]
      refine ⟨by omega, ?_⟩
      dsimp only
      refine sRet_of (dI_of ?_)
      refine ⟨rfl, ?_⟩
      refine aCons_of (dV_at (w := .loc 0) rfl (aNil_of ?_))
      have hfl : (ls ++ [t.drop a]).flatten = aft t 0 cs := by rw [← h4]; simp
      show mJoin (.str "") [.lst (lsD ls ++ [D.str (S (t.drop a))])] _
      rw [lsD_snoc]
      refine joinE (by rw [List.length_append]; show ls.length + 1 ≤ 100000; omega) ?_ ?_
      · rw [List.flatten_append, List.length_append]
        simp only [List.flatten_cons, List.flatten_nil, List.append_nil, List.length_drop]
        omega
      · rw [hfl]
        exact hk
    rcases hd with rfl | rfl
    · exact apply_for (d := .lst ((cs.map toW).map eW)) (k := k) ok hl fin
    · exact apply_for (d := .tup ((cs.map toW).map eW)) (k := k) ok hl fin
  · exact h.elim
end Dl.Ka
end

section
set_option maxHeartbeats 4000000
namespace Dl.Ka
open PySem PySem.Spec PyProof.Rows L2 Co PySem.StrLaws Dl.Ut
open Co.Tx (Pc WfC mark aft slc aft_nil aft_cons seg ins)
def OpenC (n : Nat) (cs : List Pc) (a : Nat) : Prop := ∀ rest, WfC n a rest → WfC n 0 (cs ++ rest)
theorem OpenC.next {n : Nat} {cs : List Pc} {a : Nat} {c : Pc} (h : OpenC n cs a) (h1 : a ≤ c.s) (h2 : c.s ≤ c.e) (h3 : c.e ≤ n) (h4 : c.s = c.e → c.put ≠ []) : OpenC n (cs ++ [c]) (c.e + 1) := fun rest hr => by
  rw [List.append_assoc]
  exact h (c :: rest) ⟨h1, h2, h3, h4, hr⟩
def pick2 (m1 m2 m c : Int) : DD := (dIx (dI (dTup (adCons (dD (dCall pf_take (aCons (dV 0) (aCons (dI (dC (.int m1))) aNil)))) (adCons (dD (dCall pf_take (aCons (dV 0) (aCons (dI (dC (.int m2))) aNil)))) adNil)))) (dOp fDiv (dD (dCall pf_take (aCons (dV 0) (aCons (dI (dC (.int m))) aNil)))) (dC (.int c))))
theorem pick2_ok {m1 m2 m c : Int} {σ : Sl} {r : Sto} {k : D → Sto → Prop} {ex : DX} (h0 : σ[0]? = some (some (.loc 0))) (a1 : 0 < m1 ∧ m1 < 100) (a2 : 0 < m2 ∧ m2 < 100) (a3 : 0 < m ∧ m ≤ 2 * c) (a4 : 0 < c ∧ c < 100) (hk : ∀ n : Nat, n < 100 → k (.int (n : Nat)) (.pool :: r)) : pick2 m1 m2 m c σ (.pool :: r) k ex := by
  unfold pick2
  have big : ∀ z : Int, z < 1000 → z < 2 ^ 250 := fun z hz => Int.lt_trans hz (by decide +kernel)
  refine dIx_of (dI_of (dTup_of (adCons_of ?_)))
  refine dCall_of (aCons_of (dV_at h0 (aCons_of (dI_of (dC_of (aNil_of ?_))))))
  refine takeU (r := r) a1.1 (big _ (by omega)) fun n1 hn1 => ?_
  refine adCons_of ?_
  refine dCall_of (aCons_of (dV_at h0 (aCons_of (dI_of (dC_of (aNil_of ?_))))))
  refine takeU (r := r) a2.1 (big _ (by omega)) fun n2 hn2 => ?_
  refine adNil_of ⟨by show 2 ≤ 1000000; decide, ?_⟩
  refine dOp_of ?_
  refine dCall_of (aCons_of (dV_at h0 (aCons_of (dI_of (dC_of (aNil_of ?_))))))
  refine takeU (r := r) a3.1 (big _ (by omega)) fun n hn => ?_
  refine dC_of ⟨⟨a4.1, big _ (by omega)⟩, ?_⟩
  have hq : (n : Int) / c = 0 ∨ (n : Int) / c = 1 := by
    have h1 : 0 ≤ (n : Int) / c := Int.ediv_nonneg (by omega) (by omega)
    have h2 : (n : Int) / c < 2 := Int.ediv_lt_of_lt_mul a4.1 (by omega)
    omega
  rcases hq with e | e
  · rw [e]
    refine tupAt (i := 0) rfl ?_
    exact hk n1 (by omega)
  · rw [e]
    refine tupAt (i := 1) rfl ?_
    exact hk n2 (by omega)
def chC : DS := (sSeq (sIf (dAnd (dCmp cEq (dV 5) (dV 6)) (dCmp cEq (dV 7) (dI (dC (.str ""))))) (sAsg 7 (dI (dC (.str "x")))) sNext)
 (sSeq (sApp (dV 2) (dTup (adCons (dD (dV 5)) (adCons (dD (dV 6)) (adCons (dD (dV 7)) adNil)))))
 (sAsg 3 (dI (dOp fAdd (dD (dV 6)) (dC (.int 1)))))))
def chB : DS := (sSeq (sAsg 5 (dI (dOp fAdd (dD (dV 3)) (pick2 4 60 4 3))))
 (sIf (dCmp cLe (dV 5) (dI (dCB fLen (aCons (dV 1) aNil)))) (sSeq (sAsg 6 (dI (dCB fMin (aCons (dI (dCB fLen (aCons (dV 1) aNil))) (aCons (dI (dOp fAdd (dD (dV 5)) (pick2 3 30 5 4))) aNil)))))
 (sSeq (sAsg 7 (dCall pf_Ltext (aCons (dV 0) (aCons (dCall pf_take (aCons (dV 0) (aCons (dI (dC (.int 4))) aNil))) aNil))))
 chC)) sNext))
def chS (t : List Nat) (a : Nat) (x4 x5 x6 x7 : Option D) : Sl := [some (.loc 0), some (.im (.str (S t))), some (.loc 1), some (.im (.int (a : Nat))), x4.map .im, x5.map .im, x6.map .im, x7.map .im]
abbrev pcs (cs : List Pc) : List D := (cs.map toW).map eW
theorem pcs_len (cs : List Pc) : (pcs cs).length = cs.length := by
  rw [List.length_map, List.length_map]
theorem chC_ok {E : En} {t : List Nat} {a s e : Nat} {x4 : Option D} {w : List Nat} {cs : List Pc} (hl : cs.length ≤ 1000) (hw : w.length ≤ 3) (hs : SmT w)
    (hk : ∀ put : List Nat, put.length ≤ 3 → SmT put → (s = e → put ≠ []) → E.nx (chS t (e + 1) x4 (some (.int (s : Nat))) (some (.int (e : Nat))) (some (.str (S put)))) [.pool, .lst (pcs (cs ++ [(⟨s, e, put⟩ : Pc)]))]) :
    chC E (chS t a x4 (some (.int (s : Nat))) (some (.int (e : Nat))) (some (.str (S w)))) [.pool, .lst (pcs cs)] := by
  have fin : ∀ put : List Nat, put.length ≤ 3 → SmT put → (s = e → put ≠ []) → (sSeq (sApp (dV 2) (dTup (adCons (dD (dV 5)) (adCons (dD (dV 6)) (adCons (dD (dV 7)) adNil)))))
 (sAsg 3 (dI (dOp fAdd (dD (dV 6)) (dC (.int 1)))))) E (chS t a x4 (some (.int (s : Nat))) (some (.int (e : Nat))) (some (.str (S put)))) [.pool, .lst (pcs cs)] := fun put hp hps hn => by
    refine sSeq_of ?_
    refine ⟨⟨_, rfl⟩, by show 3 ≤ 1000000; decide, by rw [pcs_len]; omega, ?_⟩
    have := hk put hp hps hn
    unfold pcs at this
    rw [List.map_append, List.map_append] at this
    exact this
  unfold chC
  refine sSeq_of (sIf_of (dAnd_of ?_))
  show two (decide (((s : Nat) : Int) = (e : Nat))) _ _
  refine oneD (fun h => ?_) fun h => ?_
  · show two (decide (S w = "")) _ _
    refine oneD (fun hw0 => ?_) fun hw0 => ?_
    · refine sAsg_of (dI_of (dC_of ?_))
      exact fin [120] (by decide) (fun c hc => by rw [List.mem_singleton.mp hc]; decide) fun _ => by simp
    · exact fin w hw hs fun _ z => hw0 (by rw [z]; rfl)
  · exact twoF (fin w hw hs fun z => absurd (show ((s : Nat) : Int) = (e : Nat) by rw [z]) h)
theorem chB_ok {E : En} {t : List Nat} {a : Nat} {x4 x5 x6 x7 : Option D} {cs : List Pc} (ht : t.length ≤ 600) (ha : a ≤ 1000) (hl : cs.length ≤ 1000)
    (hs : ∀ x5, E.nx (chS t a x4 (some x5) x6 x7) [.pool, .lst (pcs cs)])
    (hk : ∀ (s e : Nat) (put : List Nat) x5 x6 x7, a ≤ s → s ≤ e → e ≤ t.length → put.length ≤ 3 → SmT put → (s = e → put ≠ []) → E.nx (chS t (e + 1) x4 (some x5) (some x6) (some x7)) [.pool, .lst (pcs (cs ++ [(⟨s, e, put⟩ : Pc)]))]) :
    chB E (chS t a x4 x5 x6 x7) [.pool, .lst (pcs cs)] := by
  have hz : (S t).length ≤ sizeLine := by rw [S_len, sizeLine_eq]; omega
  unfold chB
  refine sSeq_of (sAsg_of (dI_of (dOp_of (dD_at rfl ?_))))
  refine pick2_ok (r := [.lst (pcs cs)]) rfl (by decide) (by decide) (by decide) (by decide) fun d _ => ?_
  refine addI ?_
  rw [show ((a : Nat) : Int) + (d : Int) = ((a + d : Nat) : Int) by omega]
  dsimp only
  refine sIf_of ?_
  refine ⟨hz, ?_⟩
  show two (decide (((a + d : Nat) : Int) ≤ ((S t).length : Nat))) _ _
  rw [S_len]
  refine oneD (fun h => ?_) fun h => hs _
  have h : a + d ≤ t.length := by omega
  refine sSeq_of (sAsg_of (dI_of (dCB_of (aCons_of (dI_of (dCB_of (aCons_of (dV_at (w := .im (.str (S t))) rfl (aNil_of ?_)))))))))
  refine ⟨hz, ?_⟩
  refine aCons_of (dI_of (dOp_of (dV_at (w := .im (.int ((a + d : Nat) : Int))) rfl ?_)))
  refine pick2_ok (r := [.lst (pcs cs)]) rfl (by decide) (by decide) (by decide) (by decide) fun f _ => ?_
  refine addI (aNil_of ?_)
  show fMin [.int ((S t).length : Nat), .int (((a + d : Nat) : Int) + (f : Int))] _
  rw [S_len]
  have he : min ((t.length : Nat) : Int) (((a + d : Nat) : Int) + (f : Int)) = ((min t.length (a + d + f) : Nat) : Int) := by omega
  unfold fMin
  dsimp only
  rw [he]
  generalize heq : min t.length (a + d + f) = e at he ⊢
  have e1 : a + d ≤ e := by omega
  have e2 : e ≤ t.length := by omega
  generalize hsv : a + d = s at h e1 ⊢
  refine sSeq_of (sAsg_of (dCall_of (aCons_of (dV_at (w := .loc 0) rfl (aCons_of ?_)))))
  refine takeU (r := [.lst (pcs cs)]) (by decide) (by decide) fun n hn => ?_
  refine aNil_of ?_
  refine call_text (r := [.lst (pcs cs)]) (by omega) fun w hw hws => ?_
  dsimp only
  refine chC_ok (t := t) (a := a) (x4 := x4) (s := s) (e := e) (w := w) hl (by omega) hws fun put hp hps hn => ?_
  exact hk s e put _ _ _ (by omega) e1 e2 hp hps hn
theorem r_Lchange : ∀ ws st k ex, pf_Lchange ws st k ex → t_Lchange (EnD false st.length k ex) (startD N_Lchange ws) st := by
  intro ws st k ex h
  unfold pf_Lchange at h
  split at h
  · obtain ⟨t, rfl, ht, hk⟩ := h
    unfold t_Lchange
    refine sSeq_of (sAsg_of (dLstM_of (adNil_of ⟨Nat.zero_le _, ?_⟩)))
    dsimp only
    refine sSeq_of (sAsg_of (dI_of (dC_of ?_)))
    dsimp only
    refine sSeq_of ?_
    unfold sFor iRg1
    refine takeU (r := [.lst []]) (by decide) (by decide) fun n hn => ?_
    refine ⟨by omega, by omega, ?_⟩
    rw [Int.toNat_natCast]
    refine ⟨fun i σ' st' => ∃ (a : Nat) (cs : List Pc) (x4 x5 x6 x7 : Option D), σ' = chS t a x4 x5 x6 x7 ∧ st' = [.pool, .lst (pcs cs)] ∧ a ≤ 601 ∧ cs.length ≤ i ∧ (∀ c ∈ cs, c.put.length ≤ 3 ∧ SmT c.put) ∧ OpenC t.length cs a,
      ⟨0, [], none, none, none, none, rfl, rfl, by decide, Nat.le_refl _, fun c h => (by cases h), fun rest h => h⟩, ?_, ?_⟩
    · rintro i d σ' st' hd ⟨a, cs, x4, x5, x6, x7, rfl, rfl, h1, h2, h3, h4⟩ -
      obtain ⟨hi, rfl⟩ := rgD_get hd
      show chB _ (chS t a (some (.int (0 + (i : Int)))) x5 x6 x7) [.pool, .lst (pcs cs)]
      refine chB_ok ht (by omega) (by omega) (fun y5 => ?_) fun s e put y5 y6 y7 g1 g2 g3 g4 g4' g5 => ?_
      · refine ⟨a, cs, some (.int (0 + (i : Int))), some y5, x6, x7, ?_, rfl, h1, by omega, h3, h4⟩
        cases x6 <;> cases x7 <;> rfl
      · refine ⟨e + 1, cs ++ [⟨s, e, put⟩], some (.int (0 + (i : Int))), some y5, some y6, some y7, rfl, rfl, by omega, by rw [List.length_append]; show cs.length + 1 ≤ _; omega, fun c hc => ?_, h4.next g1 g2 g3 g5⟩
        rcases List.mem_append.mp hc with hc | hc
        · exact h3 c hc
        · rw [List.mem_singleton.mp hc]
          exact ⟨g4, g4'⟩
    · rintro σ' st' ⟨a, cs, x4, x5, x6, x7, rfl, rfl, h1, h2, h3, h4⟩ -
      rw [rgD_len] at h2
      have w := h4 [] trivial
      rw [List.append_nil] at w
      exact hk cs ⟨w, by omega, h3⟩
  · exact h.elim
def wlB : DS := (sSeq (sAsg 5 (dI (dOp fSub (dOp fAdd (dD (dV 3)) (dD (dCall pf_take (aCons (dV 0) (aCons (dI (dC (.int 4))) aNil))))) (dOp fMul (dD (dCall pf_take (aCons (dV 0) (aCons (dI (dC (.int 2))) aNil)))) (dD (dCall pf_take (aCons (dV 0) (aCons (dI (dC (.int 4))) aNil))))))))
 (sSeq (sAsg 6 (dI (dOp fSub (dOp fAdd (dD (dV 5)) (dD (dCall pf_take (aCons (dV 0) (aCons (dI (dC (.int 4))) aNil))))) (dOp fMul (dD (dCall pf_take (aCons (dV 0) (aCons (dI (dC (.int 2))) aNil)))) (dD (dCall pf_take (aCons (dV 0) (aCons (dI (dC (.int 2))) aNil))))))))
 (sSeq (sIf (dCmp cEq (dCall pf_take (aCons (dV 0) (aCons (dI (dC (.int 9))) aNil))) (dI (dC (.int 1)))) (sAsg 6 (dI (dOp fSub (dOp fAdd (dD (dV 1)) (dD (dCall pf_take (aCons (dV 0) (aCons (dI (dC (.int 3))) aNil))))) (dC (.int 1))))) sNext)
 (sSeq (sApp (dV 2) (dTup (adCons (dD (dV 5)) (adCons (dD (dV 6)) (adCons (dIx (dI (dTup (adCons (dC (.str "")) (adCons (dC (.str "y")) (adCons (dC (.str "")) adNil))))) (dD (dCall pf_take (aCons (dV 0) (aCons (dI (dC (.int 3))) aNil))))) adNil)))))
 (sAsg 3 (dI (dOp fAdd (dD (dV 6)) (dD (dCall pf_take (aCons (dV 0) (aCons (dI (dC (.int 2))) aNil)))))))))))
def wlS (m : Nat) (a : Int) (x4 x5 x6 : Option D) : Sl := [some (.loc 0), some (.im (.int (m : Nat))), some (.loc 1), some (.im (.int a)), x4.map .im, x5.map .im, x6.map .im]
theorem prod_ok {x m1 m2 : Int} {σ : Sl} {r : Sto} {k : D → Sto → Prop} {ex : DX} {m : Int} {t : DD} (h0 : σ[0]? = some (some (.loc 0))) (ht : ∀ K : D → Sto → Prop, K (.int x) (.pool :: r) → t σ (.pool :: r) K ex) (a0 : 0 < m ∧ m < 100) (a1 : 0 < m1 ∧ m1 < 100) (a2 : 0 < m2 ∧ m2 < 100) (hk : ∀ y : Int, x - 10000 ≤ y → y ≤ x + 100 → k (.int y) (.pool :: r)) :
    (dOp fSub (dOp fAdd t (dD (dCall pf_take (aCons (dV 0) (aCons (dI (dC (.int m))) aNil))))) (dOp fMul (dD (dCall pf_take (aCons (dV 0) (aCons (dI (dC (.int m1))) aNil)))) (dD (dCall pf_take (aCons (dV 0) (aCons (dI (dC (.int m2))) aNil)))))) σ (.pool :: r) k ex := by
  have big : ∀ z : Int, z < 1000 → z < 2 ^ 250 := fun z hz => Int.lt_trans hz (by decide +kernel)
  refine dOp_of (dOp_of (ht _ ?_))
  refine dCall_of (aCons_of (dV_at h0 (aCons_of (dI_of (dC_of (aNil_of ?_))))))
  refine takeU (r := r) a0.1 (big _ (by omega)) fun n hn => ?_
  refine addI (dOp_of ?_)
  refine dCall_of (aCons_of (dV_at h0 (aCons_of (dI_of (dC_of (aNil_of ?_))))))
  refine takeU (r := r) a1.1 (big _ (by omega)) fun n1 hn1 => ?_
  refine dCall_of (aCons_of (dV_at h0 (aCons_of (dI_of (dC_of (aNil_of ?_))))))
  refine takeU (r := r) a2.1 (big _ (by omega)) fun n2 hn2 => ?_
  refine ⟨.inl ⟨by omega, by omega⟩, ?_⟩
  refine subI ?_
  have h1 : n1 * n2 ≤ 99 * 99 := Nat.mul_le_mul (by omega) (by omega)
  have h2 : (n1 : Int) * (n2 : Int) = ((n1 * n2 : Nat) : Int) := by simp
  rw [h2]
  exact hk _ (by omega) (by omega)
theorem y_of (n : Nat) (h : n < 3) : ∃ w : List Nat, [D.str "", D.str "y", D.str ""][n]? = some (.str (S w)) ∧ w.length ≤ 3 ∧ SmT w := by
  match n, h with
  | 0, _ => exact ⟨[], rfl, by decide, fun c h => by cases h⟩
  | 1, _ => exact ⟨[121], congrArg (fun z => some (D.str z)) (show ("y" : Str) = S [121] by decide +kernel), by decide, fun c h => by rw [List.mem_singleton.mp h]; decide⟩
  | 2, _ => exact ⟨[], rfl, by decide, fun c h => by cases h⟩
  | n + 3, h => omega
theorem wlB_ok {E : En} {m : Nat} {a : Int} {x4 x5 x6 : Option D} {ps : List Wp} (hm : m ≤ 600) (ha : a.natAbs ≤ 1000000) (hl : ps.length ≤ 1000)
    (hk : ∀ (s e b : Int) (put : List Nat) y5 y6, s.natAbs ≤ a.natAbs + 10100 → e.natAbs ≤ a.natAbs + 30000 → b.natAbs ≤ a.natAbs + 31000 → put.length ≤ 3 → SmT put → E.nx (wlS m b x4 (some y5) (some y6)) [.pool, .lst ((ps ++ [(⟨s, e, put⟩ : Wp)]).map eW)]) :
    wlB E (wlS m a x4 x5 x6) [.pool, .lst (ps.map eW)] := by
  unfold wlB
  refine sSeq_of (sAsg_of (dI_of ?_))
  refine prod_ok (r := [.lst (ps.map eW)]) (x := a) rfl (fun K hK => dD_at rfl hK) (by decide) (by decide) (by decide) fun s s1 s2 => ?_
  dsimp only
  refine sSeq_of (sAsg_of (dI_of ?_))
  refine prod_ok (r := [.lst (ps.map eW)]) (x := s) rfl (fun K hK => dD_at rfl hK) (by decide) (by decide) (by decide) fun e e1 e2 => ?_
  dsimp only
  have fin : ∀ e : Int, e.natAbs ≤ a.natAbs + 30000 → (sSeq (sApp (dV 2) (dTup (adCons (dD (dV 5)) (adCons (dD (dV 6)) (adCons (dIx (dI (dTup (adCons (dC (.str "")) (adCons (dC (.str "y")) (adCons (dC (.str "")) adNil))))) (dD (dCall pf_take (aCons (dV 0) (aCons (dI (dC (.int 3))) aNil))))) adNil)))))
 (sAsg 3 (dI (dOp fAdd (dD (dV 6)) (dD (dCall pf_take (aCons (dV 0) (aCons (dI (dC (.int 2))) aNil)))))))) E (wlS m a x4 (some (.int s)) (some (.int e))) [.pool, .lst (ps.map eW)] := fun e he => by
    refine sSeq_of (sApp_of (dV_at (w := .loc 1) rfl ⟨⟨_, rfl⟩, ?_⟩))
    refine dTup_of (adCons_of (dD_at (d := .int s) rfl (adCons_of (dD_at (d := .int e) rfl (adCons_of ?_)))))
    refine dIx_of (dI_of (dTup_of (adCons_of (dC_of (adCons_of (dC_of (adCons_of (dC_of (adNil_of ?_)))))))))
    refine ⟨by show 3 ≤ 1000000; decide, ?_⟩
    refine takeU (r := [.lst (ps.map eW)]) (by decide) (by decide) fun n hn => ?_
    obtain ⟨w, hw, hwl, hws⟩ := y_of n (by omega)
    refine tupAt (d := .str (S w)) hw ?_
    refine adNil_of ⟨by show 3 ≤ 1000000; decide, ?_⟩
    refine ⟨by rw [List.length_map]; omega, ?_⟩
    dsimp only
    refine sAsg_of (dI_of (dOp_of (dD_at (d := .int e) rfl ?_)))
    refine takeU (r := [.lst (ps.map eW ++ [D.tup [.int s, .int e, .str (S w)]])]) (by decide) (by decide) fun n hn => ?_
    refine addI ?_
    have := hk s e (e + (n : Int)) w (.int s) (.int e) (by omega) he (by omega) hwl hws
    rw [List.map_append] at this
    exact this
  refine sSeq_of (sIf_of (dCmp_of ?_))
  refine takeU (r := [.lst (ps.map eW)]) (by decide) (by decide) fun n hn => ?_
  show two (decide ((n : Int) = 1)) _ _
  refine oneD (fun _ => ?_) fun _ => ?_
  · refine sAsg_of (dI_of (dOp_of (dOp_of (dD_at (d := .int (m : Nat)) rfl ?_))))
    refine takeU (r := [.lst (ps.map eW)]) (by decide) (by decide) fun n hn => ?_
    refine addI (dC_of (subI ?_))
    exact fin _ (by omega)
  · exact fin e (by omega)
theorem r_Lwild : ∀ ws st k ex, pf_Lwild ws st k ex → t_Lwild (EnD false st.length k ex) (startD N_Lwild ws) st := by
  intro ws st k ex h
  unfold pf_Lwild at h
  split at h
  · obtain ⟨m, rfl, hm, hk⟩ := h
    unfold t_Lwild
    refine sSeq_of (sAsg_of (dLstM_of (adNil_of ⟨Nat.zero_le _, ?_⟩)))
    dsimp only
    refine sSeq_of (sAsg_of (dI_of (dC_of ?_)))
    dsimp only
    refine sSeq_of ?_
    unfold sFor iRg1
    refine takeU (r := [.lst []]) (by decide) (by decide) fun n hn => ?_
    refine ⟨by omega, by omega, ?_⟩
    rw [Int.toNat_natCast]
    refine ⟨fun i σ' st' => ∃ (a : Int) (ps : List Wp) (x4 x5 x6 : Option D), σ' = wlS m a x4 x5 x6 ∧ st' = [.pool, .lst (ps.map eW)] ∧ a.natAbs ≤ 31000 * i ∧ i ≤ n ∧ ps.length ≤ i ∧ (∀ c ∈ ps, c.put.length ≤ 3 ∧ SmT c.put ∧ c.s.natAbs < 10 ^ 12 ∧ c.e.natAbs < 10 ^ 12),
      ⟨0, [], none, none, none, rfl, rfl, by decide, Nat.zero_le _, Nat.le_refl _, fun c h => (by cases h)⟩, ?_, ?_⟩
    · rintro i d σ' st' hd ⟨a, ps, x4, x5, x6, rfl, rfl, h1, hin, h2, h3⟩ -
      obtain ⟨hi, rfl⟩ := rgD_get hd
      show wlB _ (wlS m a (some (.int (0 + (i : Int)))) x5 x6) [.pool, .lst (ps.map eW)]
      refine wlB_ok hm (by omega) (by omega) fun s e b put y5 y6 g1 g2 g3 g4 g5 => ?_
      refine ⟨b, ps ++ [⟨s, e, put⟩], some (.int (0 + (i : Int))), some y5, some y6, rfl, rfl, by omega, by omega, by rw [List.length_append]; show ps.length + 1 ≤ _; omega, fun c hc => ?_⟩
      rcases List.mem_append.mp hc with hc | hc
      · exact h3 c hc
      · rw [List.mem_singleton.mp hc]
        exact ⟨g4, g5, by show s.natAbs < 10 ^ 12; omega, by show e.natAbs < 10 ^ 12; omega⟩
    · rintro σ' st' ⟨a, ps, x4, x5, x6, rfl, rfl, h1, hin, h2, h3⟩ -
      rw [rgD_len] at h2
      exact hk ps ⟨by omega, h3⟩
  · exact h.elim
end Dl.Ka
end

section
set_option maxHeartbeats 4000000
namespace Dl.Ka
open PySem PySem.Spec PyProof.Rows L2 Co PySem.StrLaws Dl.Ut
open Co.Tx (Pc WfC mark aft slc aft_nil aft_cons seg ins)
def segT (tb : DD) : DD := (dLc (iRg2 (dD (dV 3)) tb) (gN 7) dYes (dTup (adCons (dIx (dV 0) (dD (dV 7))) (adCons (dD (dV 7)) adNil))) ([("_law_k", 7)].map (·.2)))
def mkS (t : List Nat) (cs : List Pc) (rows : List (Nat × Option Nat)) (a : Nat) (x4 x5 x6 : Option D) : Sl := [some (.im (.str (S t))), some (.im (.lst (pcs cs))), some (.im (.lst (rows.map rowD))), some (.im (.int (a : Nat))), x4.map .im, x5.map .im, x6.map .im, none, none]
theorem segT_ok {t : List Nat} {cs : List Pc} {rows : List (Nat × Option Nat)} {a b : Nat} {x4 x5 x6 : Option D} {tb : DD} {k : D → Sto → Prop} {ex : DX} (hl : t.length ≤ 600) (ha : a ≤ 1000) (hb : b ≤ t.length) (htb : ∀ K : D → Sto → Prop, K (.int (b : Nat)) [] → tb (mkS t cs rows a x4 x5 x6) [] K ex) (hk : k (.lst ((seg t a b).map rowD)) []) : segT tb (mkS t cs rows a x4 x5 x6) [] k ex := by
  unfold segT dLc iRg2
  refine dD_at rfl (htb _ ?_)
  refine ⟨⟨by omega, by omega, by omega, by omega⟩, ?_⟩
  have hn : (((b : Nat) : Int) - ((a : Nat) : Int)).toNat = b - a := by omega
  rw [hn]
  show lcB ((List.range (b - a)).map fun i : Nat => D.int (((a : Nat) : Int) + (i : Int))) _ _ _ _ _ _ _
  refine lc_fn (as := List.range (b - a)) (a := fun i : Nat => D.int (((a : Nat) : Int) + (i : Int))) (b := rowD) (fun i => (t.getD (a + i) 0, some (a + i))) (by rw [List.length_range]; omega) rfl (fun i hi Q hQ => ?_) ?_
  · have hi := List.mem_range.mp hi
    have hlt : a + i < t.length := by omega
    have e : D.int (((a : Nat) : Int) + (i : Int)) = D.int ((a + i : Nat) : Int) := by congr 1
    rw [e]
    refine dTup_of (adCons_of (dIx_of (dV_at (w := .im (.str (S t))) rfl (dD_at (d := .int ((a + i : Nat) : Int)) rfl ?_))))
    refine strAt (l := t) (c := t.getD (a + i) 0) rfl (by omega) ?_ ?_
    · rw [List.getElem?_eq_getElem hlt, List.getD_eq_getElem?_getD, List.getElem?_eq_getElem hlt]
      rfl
    · exact ⟨by show 2 ≤ 1000000; decide, hQ⟩
  · exact hk
theorem r_Lmarked : ∀ ws st k ex, pf_Lmarked ws st k ex → t_Lmarked (EnD false st.length k ex) (startD N_Lmarked ws) st := by
  intro ws st k ex h
  unfold pf_Lmarked at h
  split at h
  · obtain ⟨t, cs, rfl, rfl, ok, hl, hk⟩ := h
    have hcl := ok.l
    unfold t_Lmarked
    refine sSeq_of (sAsg_of (dI_of (dLst_of (adNil_of ⟨Nat.zero_le _, ?_⟩))))
    dsimp only
    refine sSeq_of (sAsg_of (dI_of (dC_of ?_)))
    dsimp only
    refine sSeq_of ?_
    refine ⟨fun i σ' st' => st' = [] ∧ ∃ (rows : List (Nat × Option Nat)) (a lo : Nat) (x4 x5 x6 : Option D), σ' = mkS t cs rows a x4 x5 x6 ∧ WfC t.length lo (cs.drop i) ∧ a ≤ lo ∧ a ≤ t.length ∧ rows ++ mark t a (cs.drop i) = mark t 0 cs ∧ rows.length ≤ 610 * i,
      ⟨rfl, [], 0, 0, none, none, none, rfl, ok.w, Nat.le_refl _, Nat.zero_le _, rfl, Nat.zero_le _⟩, ?_, ?_⟩
    · rintro i d σ' st' hd ⟨rfl, rows, a, lo, x4, x5, x6, rfl, w, h1, h2, h3, h4⟩ -
      obtain ⟨c, hx, rfl⟩ := toW_get hd
      obtain ⟨t1, t2, t3⟩ := takeGet hx
      have hi := ltAt hx
      have hp := (ok.p c (List.mem_of_getElem? hx)).1
      rw [t2] at w h3
      obtain ⟨w1, w2, w3, w4, w5⟩ := w
      have h3 : rows ++ (seg t a c.s ++ ins c.put ++ mark t c.e (cs.drop (i + 1))) = mark t 0 cs := h3
      have sl : (seg t a c.s).length ≤ t.length := by
        rw [Co.Tx.seg_len]
        omega
      have il : (ins c.put).length = c.put.length := Co.Tx.ins_len
      refine ⟨rfl, ?_⟩
      simp only [gAll, gN]
      refine sSeq_of (sAsg_of (dI_of (dOp_of (dOp_of (dD_at rfl ?_)))))
      show segT (dD (dV 4)) (mkS t cs rows a (some (.int (c.s : Nat))) (some (.int (c.e : Nat))) (some (.str (S c.put)))) [] _ _
      refine segT_ok hl (by omega) (by omega) (fun K hK => hK) ?_
      refine ⟨by rw [List.length_map, List.length_map]; omega, ?_⟩
      rw [← List.map_append]
      show lcB (chD (S c.put)) _ _ _ _ _ _ _
      have ech : chD (S c.put) = c.put.map fun x => D.str (S [x]) := by
        unfold chD
        simp [S]
      rw [ech]
      refine lc_fn (as := c.put) (a := fun x : Nat => D.str (S [x])) (b := rowD) (fun x => (x, none)) (by omega) rfl (fun x _ Q hQ => ⟨by show 2 ≤ 1000000; decide, hQ⟩) ?_
      show (_ : Nat) ≤ 1000000 ∧ _
      have eins : c.put.map (fun x => ((x, none) : Nat × Option Nat)) = ins c.put := rfl
      rw [eins]
      refine ⟨by simp only [List.length_map, List.length_append]; omega, ?_⟩
      rw [← List.map_append]
      refine ⟨rfl, rows ++ seg t a c.s ++ ins c.put, c.e, c.e + 1, some (.int (c.s : Nat)), some (.int (c.e : Nat)), some (.str (S c.put)), rfl, w5, by omega, w3, ?_, ?_⟩
      · rw [← h3]
        simp
      · simp only [List.length_append]
        omega
    · rintro σ' st' ⟨rfl, rows, a, lo, x4, x5, x6, rfl, w, h1, h2, h3, h4⟩ -
      rw [List.length_map, List.length_map] at h3 h4
      rw [List.drop_length] at h3
      have h3 : rows ++ seg t a t.length = mark t 0 cs := h3
      have sl : (seg t a t.length).length ≤ t.length := by
        rw [Co.Tx.seg_len]
        omega
      dsimp only
      refine sRet_of (dI_of (dOp_of (dD_at rfl ?_)))
      show segT (dCB fLen (aCons (dV 0) aNil)) (mkS t cs rows a x4 x5 x6) [] _ _
      refine segT_ok hl (by omega) (Nat.le_refl _) (fun K hK => ?_) ?_
      · refine ⟨by rw [S_len, sizeLine_eq]; omega, ?_⟩
        rw [S_len]
        exact hK
      refine ⟨by rw [List.length_map, List.length_map]; omega, ?_⟩
      rw [← List.map_append, h3]
      exact hk
  · exact h.elim
theorem mark_len {t : List Nat} : ∀ {cs : List Pc} {lo a : Nat}, WfC t.length lo cs → a ≤ lo → (∀ c ∈ cs, c.put.length ≤ 3) → (mark t a cs).length ≤ t.length + 3 * cs.length - a ∨ t.length < a
  | [], lo, a, _, _, _ => by
    have : (seg t a t.length).length = t.length - a := Co.Tx.seg_len
    show (seg t a t.length).length ≤ _ ∨ _
    simp only [List.length_nil]
    omega
  | c :: cs, lo, a, ⟨w1, w2, w3, w4, w5⟩, ha, hp => by
    have h1 : (seg t a c.s).length = c.s - a := Co.Tx.seg_len
    have h2 : (ins c.put).length = c.put.length := Co.Tx.ins_len
    have h3 := hp c List.mem_cons_self
    have ih := mark_len (a := c.e) w5 (by omega) fun d hd => hp d (List.mem_cons_of_mem _ hd)
    show (seg t a c.s ++ ins c.put ++ mark t c.e cs).length ≤ _ ∨ _
    rw [List.length_append, List.length_append, h1, h2, List.length_cons]
    omega
theorem mark_le {t : List Nat} {cs : List Pc} (ok : CA t.length cs) (ht : t.length ≤ 600) : (mark t 0 cs).length ≤ 700 := by
  have := mark_len (a := 0) ok.w (Nat.zero_le _) fun c hc => (ok.p c hc).1
  have := ok.l
  omega
theorem call_marked {t : List Nat} {cs : List Pc} {r : Sto} {k : W → Sto → Prop} {ex : DX} (ok : CA t.length cs) (ht : t.length ≤ 600) (hk : k (.im (.lst ((mark t 0 cs).map rowD))) r) : callD pf_Lmarked [] [.im (.str (S t)), .im (.lst (pcs cs))] r k ex := ⟨rfl, t, cs, rfl, rfl, ok, ht, hk⟩
theorem r_Lafter : ∀ ws st k ex, pf_Lafter ws st k ex → t_Lafter (EnD false st.length k ex) (startD N_Lafter ws) st := by
  intro ws st k ex h
  unfold pf_Lafter at h
  split at h
  · obtain ⟨t, cs, rfl, rfl, ok, hl, hk⟩ := h
    have hm := mark_le ok hl
    unfold t_Lafter
    refine sRet_of (dI_of ?_)
    refine ⟨rfl, ?_⟩
    refine aCons_of (dI_of ?_)
    unfold dLc iSq
    refine dCall_of (aCons_of (dV_at (w := .im (.str (S t))) rfl (aCons_of (dV_at (w := .im (.lst (pcs cs))) rfl (aNil_of ?_)))))
    refine call_marked ok hl ?_
    show lcB ((mark t 0 cs).map rowD) _ _ _ _ _ _ _
    refine lc_fn (as := mark t 0 cs) (a := rowD) (b := fun l : List Nat => D.str (S l)) (fun r => [r.1]) (by omega) rfl (fun x _ Q hQ => ?_) ?_
    · refine dIx_of (dV_at (w := .im (rowD x)) rfl (dC_of ?_))
      exact atT0 hQ
    · have e : (mark t 0 cs).map (fun r => [r.1]) = (aft t 0 cs).map fun c => [c] := by
        show _ = ((mark t 0 cs).map (·.1)).map _
        rw [List.map_map]
        rfl
      have hal : (aft t 0 cs).length = (mark t 0 cs).length := List.length_map _
      rw [e]
      dsimp only
      refine aNil_of ?_
      show mJoin (.str "") [.lst (lsD ((aft t 0 cs).map fun c => [c]))] _
      refine joinE (by rw [List.length_map]; omega) (by rw [flatOne]; omega) ?_
      rw [flatOne]
      exact hk
  · exact h.elim
end Dl.Ka
end

section
set_option maxHeartbeats 4000000
namespace Dl.Ka
open PySem PySem.Spec PyProof.Rows L2 Co PySem.StrLaws Dl.Ut
open Co.Tx (Pc WfC mark aft slc aft_nil aft_cons seg ins)
theorem wrong_none {n : Nat} : ∀ {cs : List Pc} {lo i : Nat} {last : Int}, WfC n lo cs → last < (lo : Int) → wrongF n last i (cs.map toW) = none
  | [], _, _, _, _, _ => rfl
  | c :: cs, lo, i, last, ⟨w1, w2, w3, w4, w5⟩, hl => by
    have e1 : (toW c).s = (c.s : Int) := rfl
    have e2 : (toW c).e = (c.e : Int) := rfl
    rw [List.map_cons, wrongF_cons, if_neg (by rw [e1, e2]; intro z; exact z ⟨by omega, by omega, by omega⟩), if_neg (by rw [e1]; omega), if_neg (by rw [e1, e2]; exact fun z => w4 (by omega) z.2)]
    exact wrong_none w5 (by rw [e2]; omega)
theorem call_told {t : List Nat} {d : D} {ps : List Wp} {r : Sto} {k : W → Sto → Prop} {ex : DX} (hd : isL d (ps.map eW)) (ht : t.length ≤ 600) (hl : ps.length ≤ 6) (hk : k (.im (wrongD (wrongF t.length (-1) 0 ps))) r) : callD pf_Ltold [] [.im (.str (S t)), .im d] r k ex := ⟨rfl, t, ps, rfl, hd, ht, hl, hk⟩
theorem call_wrong {m : Nat} {ps : List Wp} {r : Sto} {k : W → Sto → Prop} {ex : DX} (ht : m ≤ 600) (hl : ps.length ≤ 6) (hk : k (.im (wrongD (wrongF m (-1) 0 ps))) r) : callD pf_Lwrong [] [.im (.int (m : Nat)), .im (.lst (ps.map eW))] r k ex := ⟨rfl, m, ps, rfl, rfl, ht, hl, hk⟩
theorem call_after {t : List Nat} {cs : List Pc} {r : Sto} {k : W → Sto → Prop} {ex : DX} (ok : CA t.length cs) (ht : t.length ≤ 600) (hk : k (.im (.str (S (aft t 0 cs)))) r) : callD pf_Lafter [] [.im (.str (S t)), .im (.lst (pcs cs))] r k ex := ⟨rfl, t, cs, rfl, rfl, ok, ht, hk⟩
theorem call_apply {t : List Nat} {d : D} {cs : List Pc} {r : Sto} {k : W → Sto → Prop} {ex : DX} (hd : isL d (pcs cs)) (ok : CA t.length cs) (ht : t.length ≤ 600) (hk : k (.im (.str (S (aft t 0 cs)))) r) : callD pf_apply_change [] [.im (.str (S t)), .im d] r k ex := ⟨rfl, t, cs, rfl, hd, ok, ht, hk⟩
theorem call_size {r : Sto} {k : W → Sto → Prop} {ex : DX} (h : ∀ n : Nat, n < 600 → k (.im (.int (n : Int))) (.pool :: r)) : callD pf_Lsize [0] [.loc 0] (.pool :: r) k ex := by
  refine ⟨rfl, fun n hn => ?_⟩
  show k _ (back [0] (.pool :: r) [.pool])
  rw [backP]
  exact h n hn
theorem call_change {t : List Nat} {r : Sto} {k : W → Sto → Prop} {ex : DX} (ht : t.length ≤ 600) (h : ∀ cs, CA t.length cs → k (.im (.lst (pcs cs))) (.pool :: r)) : callD pf_Lchange [0] [.loc 0, .im (.str (S t))] (.pool :: r) k ex := by
  refine ⟨rfl, t, rfl, ht, fun cs hc => ?_⟩
  show k _ (back [0] (.pool :: r) [.pool])
  rw [backP]
  exact h cs hc
theorem call_wild {m : Nat} {r : Sto} {k : W → Sto → Prop} {ex : DX} (ht : m ≤ 600) (h : ∀ ps, WA ps → k (.im (.lst (ps.map eW))) (.pool :: r)) : callD pf_Lwild [0] [.loc 0, .im (.int (m : Nat))] (.pool :: r) k ex := by
  refine ⟨rfl, m, rfl, ht, fun cs hc => ?_⟩
  show k _ (back [0] (.pool :: r) [.pool])
  rw [backP]
  exact h cs hc
theorem sm_wrong {n : Nat} (o : Option (Nat × Str)) : Sm.smD (n + 1) (wrongD o) = true := by
  cases o with
  | none => cases n <;> rfl
  | some r => cases n <;> rfl
theorem wp_ok {p : Wp} (h : p.put.length ≤ 3 ∧ SmT p.put ∧ p.s.natAbs < 10 ^ 12 ∧ p.e.natAbs < 10 ^ 12) : rpOk (eW p) = true ∧ rpW (eW p) + 1 ≤ 100 ∧ rpD (eW p) ≤ 2 := by
  obtain ⟨h1, h2, h3, h4⟩ := h
  refine ⟨?_, ?_, ?_⟩
  · show (rpOk (.int p.s) && (rpOk (.int p.e) && (rpOk (.str (S p.put)) && true))) = true
    rw [rpOk_i h3, rpOk_i h4, rpOk_S fun c hc => Nat.lt_trans (h2 c hc) (by decide)]
    rfl
  · have e : rpW (eW p) = 41 + 1 + (41 + 1 + ((S p.put).cps.size + 1 + 0)) := rfl
    have : (S p.put).cps.size = p.put.length := S_len p.put
    omega
  · show max 1 (max 1 (max 1 0)) + 1 ≤ 2
    decide
theorem repr_ok {t : List Nat} {cs : List Pc} {ps : List Wp} {k : D → Prop} (ht : t.length ≤ 600) (hs : SmT t) (ok : CA t.length cs) (wa : WA ps) (hk : k (.str (pdD (.tup [.str (S t), .lst (pcs cs), .lst (ps.map eW)])).shown)) : fRepr [.tup [.str (S t), .lst (pcs cs), .lst (ps.map eW)]] k := by
  have hc : ∀ p ∈ cs.map toW, p.put.length ≤ 3 ∧ SmT p.put ∧ p.s.natAbs < 10 ^ 12 ∧ p.e.natAbs < 10 ^ 12 := fun p hp => by
    obtain ⟨c, h1, rfl⟩ := List.mem_map.mp hp
    obtain ⟨h2, h3, h4⟩ := Co.Tx.wf_mem ok.w h1
    have h5 := ok.p c h1
    refine ⟨h5.1, h5.2, ?_, ?_⟩
    · show ((c.s : Nat) : Int).natAbs < _
      omega
    · show ((c.e : Nat) : Int).natAbs < _
      have := h4.1
      omega
  refine fRepr_ok rfl ?_ ?_ ?_ hk
  · show (rpOk (.str (S t)) && (rpOks (pcs cs) && (rpOks (ps.map eW) && true))) = true
    rw [rpOk_S fun c hc => Nat.lt_trans (hs c hc) (by decide), rpOks_map fun p hp => (wp_ok (hc p hp)).1, rpOks_map fun p hp => (wp_ok (wa.p p hp)).1]
    rfl
  · have e : rpW (.tup [.str (S t), .lst (pcs cs), .lst (ps.map eW)]) = (S t).cps.size + 1 + (rpWs (pcs cs) + 1 + (rpWs (ps.map eW) + 1 + 0)) := rfl
    have e1 : (S t).cps.size = t.length := S_len t
    have e2 : rpWs (pcs cs) ≤ _ := rpWs_map (f := eW) (B := 100) (xs := cs.map toW) fun p hp => (wp_ok (hc p hp)).2.1
    have e3 := rpWs_map (f := eW) (B := 100) (xs := ps) fun p hp => (wp_ok (wa.p p hp)).2.1
    have e4 := ok.l
    have e5 := wa.l
    rw [List.length_map] at e2
    have : 100 * cs.length ≤ 600 := by omega
    have : 100 * ps.length ≤ 600 := by omega
    rw [e]
    omega
  · have e : rpD (.tup [.str (S t), .lst (pcs cs), .lst (ps.map eW)]) = max 1 (max (rpDs (pcs cs) + 1) (max (rpDs (ps.map eW) + 1) 0)) + 1 := rfl
    have e2 : rpDs (pcs cs) ≤ 2 := rpDs_map (f := eW) (B := 2) (xs := cs.map toW) fun p hp => (wp_ok (hc p hp)).2.2
    have e3 := rpDs_map (f := eW) (B := 2) (xs := ps) fun p hp => (wp_ok (wa.p p hp)).2.2
    rw [e]
    omega
end Dl.Ka
end

section
set_option maxHeartbeats 4000000
namespace Dl.Ka
open PySem PySem.Spec PyProof.Rows L2 Co PySem.StrLaws Dl.Ut
open Co.Tx (Pc WfC mark aft slc aft_nil aft_cons seg ins)
def kz0 : DS := (sAsg 1 (dCall pf_pool (aCons (dV 0) aNil)))
def kz1 : DS := (sAsg 2 (dCall pf_Ltext (aCons (dV 1) (aCons (dCall pf_Lsize (aCons (dV 1) aNil)) aNil))))
def kz2 : DS := (sAsg 3 (dCall pf_Lchange (aCons (dV 1) (aCons (dV 2) aNil))))
def kz3 : DS := (sAsg 4 (dCall pf_Lwild (aCons (dV 1) (aCons (dI (dCB fLen (aCons (dV 2) aNil))) aNil))))
def kz4 : DS := (sAsg 5 (dI (dCB fRepr (aCons (dI (dTup (adCons (dD (dV 2)) (adCons (dD (dV 3)) (adCons (dD (dV 4)) adNil))))) aNil))))
def kz5 : DS := (sAsg 6 (dCall pf_Lafter (aCons (dV 2) (aCons (dV 3) aNil))))
def kz6 : DS := (sIf (dOr (dNot (dIsN (dCall pf_Ltold (aCons (dV 2) (aCons (dV 3) aNil))))) (dNot (dIsN (dCall pf_Ltold (aCons (dV 2) (aCons (dI (dCB fTuple (aCons (dV 3) aNil))) aNil)))))) (sRet (dI (dC (.bl false)))) sNext)
def kz7 : DS := (sIf (dOr (dNot (dTru (dCall (Sm.pf_same 12) (aCons (dCall pf_apply_change (aCons (dV 2) (aCons (dV 3) aNil))) (aCons (dV 6) aNil))))) (dNot (dTru (dCall (Sm.pf_same 12) (aCons (dCall pf_apply_change (aCons (dV 2) (aCons (dI (dCB fTuple (aCons (dV 3) aNil))) aNil))) (aCons (dV 6) aNil)))))) (sRet (dI (dC (.bl false)))) sNext)
def kz8 : DS := (sIf (dNot (dTru (dCall (Sm.pf_same 12) (aCons (dCall pf_Ltold (aCons (dV 2) (aCons (dV 4) aNil))) (aCons (dCall pf_Lwrong (aCons (dI (dCB fLen (aCons (dV 2) aNil))) (aCons (dV 4) aNil))) aNil))))) (sRet (dI (dC (.bl false)))) sNext)
def kz9 : DS := (sRet (dI (dB (dCmp cEq (dI (dCB fRepr (aCons (dI (dTup (adCons (dD (dV 2)) (adCons (dD (dV 3)) (adCons (dD (dV 4)) adNil))))) aNil))) (dV 5)))))
def kzr9 : DS := kz9
def kzr8 : DS := (sSeq kz8 kzr9)
def kzr7 : DS := (sSeq kz7 kzr8)
def kzr6 : DS := (sSeq kz6 kzr7)
def kzr5 : DS := (sSeq kz5 kzr6)
def kzr4 : DS := (sSeq kz4 kzr5)
def kzr3 : DS := (sSeq kz3 kzr4)
def kzr2 : DS := (sSeq kz2 kzr3)
def kzr1 : DS := (sSeq kz1 kzr2)
def kzr0 : DS := (sSeq kz0 kzr1)
def kS (ns : List Int) (x1 x2 x3 x4 x5 x6 : Option W) : Sl := [some (.im (.scr ns)), x1, x2, x3, x4, x5, x6]
theorem r_law : ∀ ws st k ex, pf_law ws st k ex → t_law (EnD false st.length k ex) (startD N_law ws) st := by
  intro ws st k ex h
  unfold pf_law at h
  split at h
  · rename_i ns
    obtain ⟨hn, hk⟩ := h
    show kzr0 (EnD false 0 k ex) (kS ns none none none none none none) []
    refine sSeq_of (sAsg_of (dCall_of (aCons_of (dV_at rfl (aNil_of ⟨rfl, hn, ?_⟩)))))
    show kzr1 (EnD false 0 k ex) (kS ns (some (.loc 0)) none none none none none) [.pool]
    refine sSeq_of (sAsg_of (dCall_of (aCons_of (dV_at (w := .loc 0) rfl (aCons_of (dCall_of (aCons_of (dV_at (w := .loc 0) rfl (aNil_of ?_)))))))))
    refine call_size (r := []) fun n hn => ?_
    refine aNil_of ?_
    refine call_text (r := []) (by omega) fun t ht hs => ?_
    have hl : t.length ≤ 600 := by omega
    have hz : (S t).length ≤ sizeLine := by rw [S_len, sizeLine_eq]; omega
    show kzr2 (EnD false 0 k ex) (kS ns (some (.loc 0)) (some (.im (.str (S t)))) none none none none) [.pool]
    refine sSeq_of (sAsg_of (dCall_of (aCons_of (dV_at (w := .loc 0) rfl (aCons_of (dV_at (w := .im (.str (S t))) rfl (aNil_of ?_)))))))
    refine call_change (r := []) hl fun cs ok => ?_
    show kzr3 (EnD false 0 k ex) (kS ns (some (.loc 0)) (some (.im (.str (S t)))) (some (.im (.lst (pcs cs)))) none none none) [.pool]
    refine sSeq_of (sAsg_of (dCall_of (aCons_of (dV_at (w := .loc 0) rfl (aCons_of (dI_of (dCB_of (aCons_of (dV_at (w := .im (.str (S t))) rfl (aNil_of ?_))))))))))
    refine ⟨hz, ?_⟩
    rw [S_len]
    refine aNil_of ?_
    refine call_wild (r := []) hl fun ps wa => ?_
    show kzr4 (EnD false 0 k ex) (kS ns (some (.loc 0)) (some (.im (.str (S t)))) (some (.im (.lst (pcs cs)))) (some (.im (.lst (ps.map eW)))) none none) [.pool]
    refine sSeq_of (sAsg_of (dI_of (dCB_of (aCons_of (dI_of (dTup_of (adCons_of (dD_at (d := .str (S t)) rfl (adCons_of (dD_at (d := .lst (pcs cs)) rfl (adCons_of (dD_at (d := .lst (ps.map eW)) rfl (adNil_of ⟨(by show 3 ≤ 1000000; decide), aNil_of ?_⟩)))))))))))))
    refine repr_ok hl hs ok wa ?_
    generalize hrp : (pdD (.tup [.str (S t), .lst (pcs cs), .lst (ps.map eW)])).shown = rp
    show kzr5 (EnD false 0 k ex) (kS ns (some (.loc 0)) (some (.im (.str (S t)))) (some (.im (.lst (pcs cs)))) (some (.im (.lst (ps.map eW)))) (some (.im (.str rp))) none) [.pool]
    refine sSeq_of (sAsg_of (dCall_of (aCons_of (dV_at (w := .im (.str (S t))) rfl (aCons_of (dV_at (w := .im (.lst (pcs cs))) rfl (aNil_of ?_)))))))
    refine call_after ok hl ?_
    show kzr6 (EnD false 0 k ex) (kS ns (some (.loc 0)) (some (.im (.str (S t)))) (some (.im (.lst (pcs cs)))) (some (.im (.lst (ps.map eW)))) (some (.im (.str rp))) (some (.im (.str (S (aft t 0 cs)))))) [.pool]
    have hw : wrongF t.length (-1) 0 (cs.map toW) = none := wrong_none ok.w (by omega)
    have hcl : (cs.map toW).length ≤ 6 := by rw [List.length_map]; exact ok.l
    refine sSeq_of (sIf_of (dOr_of (dNot_of ?_)))
    refine dCall_of (aCons_of (dV_at (w := .im (.str (S t))) rfl (aCons_of (dV_at (w := .im (.lst (pcs cs))) rfl (aNil_of ?_)))))
    refine call_told (.inl rfl) hl hcl ?_
    rw [hw]
    refine twoF (dNot_of ?_)
    refine dCall_of (aCons_of (dV_at (w := .im (.str (S t))) rfl (aCons_of (dI_of (dCB_of (aCons_of (dV_at (w := .im (.lst (pcs cs))) rfl (aNil_of ?_))))))))
    refine call_told (.inr rfl) hl hcl ?_
    rw [hw]
    refine twoF (sNext_seq ?_)
    show kzr7 (EnD false 0 k ex) (kS ns (some (.loc 0)) (some (.im (.str (S t)))) (some (.im (.lst (pcs cs)))) (some (.im (.lst (ps.map eW)))) (some (.im (.str rp))) (some (.im (.str (S (aft t 0 cs)))))) [.pool]
    refine sSeq_of (sIf_of (dOr_of (dNot_of (dTru_of (dCall_of (aCons_of (dCall_of (aCons_of (dV_at (w := .im (.str (S t))) rfl (aCons_of (dV_at (w := .im (.lst (pcs cs))) rfl (aNil_of ?_))))))))))))
    refine call_apply (.inl rfl) ok hl ?_
    refine aCons_of (dV_at (w := .im (.str (S (aft t 0 cs)))) rfl (aNil_of ?_))
    refine Sm.call_same (by decide) rfl ?_
    refine twoF (dNot_of (dTru_of (dCall_of (aCons_of (dCall_of (aCons_of (dV_at (w := .im (.str (S t))) rfl (aCons_of (dI_of (dCB_of (aCons_of (dV_at (w := .im (.lst (pcs cs))) rfl (aNil_of ?_)))))))))))))
    refine call_apply (.inr rfl) ok hl ?_
    refine aCons_of (dV_at (w := .im (.str (S (aft t 0 cs)))) rfl (aNil_of ?_))
    refine Sm.call_same (by decide) rfl ?_
    refine twoF (sNext_seq ?_)
    show kzr8 (EnD false 0 k ex) (kS ns (some (.loc 0)) (some (.im (.str (S t)))) (some (.im (.lst (pcs cs)))) (some (.im (.lst (ps.map eW)))) (some (.im (.str rp))) (some (.im (.str (S (aft t 0 cs)))))) [.pool]
    refine sSeq_of (sIf_of (dNot_of (dTru_of (dCall_of (aCons_of (dCall_of (aCons_of (dV_at (w := .im (.str (S t))) rfl (aCons_of (dV_at (w := .im (.lst (ps.map eW))) rfl (aNil_of ?_)))))))))))
    refine call_told (.inl rfl) hl wa.l ?_
    refine aCons_of (dCall_of (aCons_of (dI_of (dCB_of (aCons_of (dV_at (w := .im (.str (S t))) rfl (aNil_of ?_)))))))
    refine ⟨hz, ?_⟩
    rw [S_len]
    refine aCons_of (dV_at (w := .im (.lst (ps.map eW))) rfl (aNil_of ?_))
    refine call_wrong hl wa.l ?_
    refine aNil_of ?_
    refine Sm.call_same (by decide) (sm_wrong _) ?_
    refine twoF (sNext_seq ?_)
    show kzr9 (EnD false 0 k ex) (kS ns (some (.loc 0)) (some (.im (.str (S t)))) (some (.im (.lst (pcs cs)))) (some (.im (.lst (ps.map eW)))) (some (.im (.str rp))) (some (.im (.str (S (aft t 0 cs)))))) [.pool]
    refine sRet_of (dI_of (dB_of (dCmp_of (dI_of (dCB_of (aCons_of (dI_of (dTup_of (adCons_of (dD_at (d := .str (S t)) rfl (adCons_of (dD_at (d := .lst (pcs cs)) rfl (adCons_of (dD_at (d := .lst (ps.map eW)) rfl (adNil_of ⟨(by show 3 ≤ 1000000; decide), aNil_of ?_⟩)))))))))))))))
    refine repr_ok hl hs ok wa ?_
    rw [hrp]
    refine dV_at (w := .im (.str rp)) rfl ?_
    show (EnD false 0 k ex).rt (.im (.bl (decide (rp = rp)))) [.pool]
    rw [decide_eq_true rfl]
    exact hk
  · exact h.elim
end Dl.Ka
end

section
set_option maxHeartbeats 4000000
namespace Dl.Grd
open PySem PySem.Spec PyProof.Rows L2 Co Dl
structure FnG (P : Program) (w : World) (K : PySem.W.Frag) (mg : Str → Option Value) (base : Heap) (CX : CXT) (k : Nat) (f : Addr) (fd : FuncData) (ps : List Str) (sp : Sp) : Prop where
  ln : ∀ vs H Q E, sp vs H Q E → vs.length = ps.length
  go : ∀ (A : Around) (outer : List Env) (s : Shared) (H : Hp) (args : Args) (us : List Value) (vs : List V) (Q : VK) (E : XK), A.guards = some [] → Room k A → Env0 P w K mg base A outer s H → BindsTo s fd args (ps.zip us) → Vals vs us → sp vs H Q E → codeAny (model P w) A (.call (.ref f) args) (CR CX outer P w H s Q E) s
section
variable {P : Program} {w : World} {K : PySem.W.Frag} {mg : Str → Option Value} {base : Heap} {k : Nat} {f : Addr} {ps : List Str} {sp : Sp}
theorem fn_byG {x qual : Str} {params : Arguments} {body : List Stmt} {scope : Scope} {fd : FuncData} {N : List Str} (F : FunD K x qual params body scope [] [] f fd) (S : FnScope N ps scope)
    (ln : ∀ vs H Q E, sp vs H Q E → vs.length = ps.length)
    (hbody : ∀ (cdv : Value) (A : Around) (outer : List Env) (s : Shared) (H : Hp) (vs : List V) (Q : VK) (E : XK), A.guards = some [] → Room k (A.deeper (envOfC qual scope s.heap.objs.size f cdv)) → sp vs H Q E →
      ∃ t, PSs (cxOf (L2.CX P w) P w K mg base N qual scope f cdv A outer s H E) body t ∧ t { nx := fun _ H' => Q .non H', rt := Q } (start N vs) H) : FnG P w K mg base (L2.CX P w) (k + 1) f fd ps sp := by
  obtain ⟨oc, od, dV, kV, doc, pm, an, cdv, ct, osl, rfl, lk, hcd, _, _⟩ := F.ex
  constructor
  · exact ln
  · intro A outer s H args us vs Q E hA hr e0 hb r hsp
    have kept : ∀ b o, base.get? b = some o → s.heap.get? b = some o := fun b o e => (e0.bs b o e).1
    have KX := e0.mod.kin.keeps kept
    have lim := e0.mod.nolimit.keeps kept
    have hkind : ∀ y ∈ ps.zip us, scope.names.lookup y.1 = some .local ∨ (scope.names.lookup y.1 = some .cell ∧ ((cellsFrom (s.heap.objs.size + 1) scope.names []).lookup y.1).isSome = true) := by
      rintro ⟨n, v⟩ hy
      have hm := (List.of_mem_zip hy).1
      cases S.par n hm with
      | inl q => exact .inl q
      | inr q => exact .inr ⟨q, PySem.W.cellsFrom_some _ _ _ (.inl q)⟩
    apply codeAny_call_function hr.depth (KX _ _ lk) rfl S.co S.gen rfl (PySem.W.codeRec_of KX hcd) (hb _ _ _ _ _)
    apply wpAny_newFunctionEnv_cells S.kind hkind
    rintro env he s1 z
    cases he
    refine ⟨lim.keeps z.toInCall.keep, codeAny_func ?_⟩
    obtain ⟨t, ht, hq⟩ := hbody cdv A outer s H vs Q E hA (hr.deeper _) hsp
    have I := inv_start (N := N) (CX := L2.CX P w) (E := E) S hr.hd e0 (ln _ _ _ _ hsp) r z
    refine wpAny_mono (ht.run [] s1 (start N vs) H _ I hq) ?_ ?_
    · intro fl s' hs
      cases fl with
      | ret u => obtain ⟨v, σ', H', J, rv, q⟩ := hs; exact ⟨v, H', J.os, J.bare, J.base, J.hok, rv, q⟩
      | next => obtain ⟨σ', H', J, q⟩ := hs; exact ⟨V.non, H', J.os, J.bare, J.base, J.hok, rfl, q⟩
      | brk => obtain ⟨_, _, _, q⟩ := hs; cases q
      | cont => obtain ⟨_, _, _, q⟩ := hs; cases q
    · exact fun e s' hs => hs
theorem fn_to0G {fd : FuncData} (F : FnG P w K mg base (L2.CX P w) k f fd ps sp) (hE : ∀ vs H Q E, sp vs H Q E → sp vs H Q E0) : FnG P w K mg base CX0 k f fd ps sp :=
  ⟨F.ln, fun A outer s H args us vs Q E hA hr he hb hv hs => codeAny_mono (F.go A outer s H args us vs Q E0 hA hr he hb hv (hE _ _ _ _ hs)) fun r s' hq => by
    cases r with
    | error e =>
      obtain ⟨_, _, _, _, _, _, _, _, _, _, _, _, z⟩ := (show L2.CX P w outer H s E0 e s' from hq)
      exact z.elim
    | ok fl => cases fl <;> exact hq⟩
end
theorem callG {P : Program} {w : World} {K : PySem.W.Frag} {mg mb : Str → Option Value} {CX : CXT} {k : Nat} {fa a : Addr} {fd : FuncData} {x : Str} {sp : Sp} {s₁ : Shared} {vs : List Value} {ns : List Int}
    (KX : K.In s₁.heap) (hns : s₁.heap.Ns mainGlobals mg) (hb : s₁.heap.Ns builtinsNs mb) (hbb : ∀ x : Str, x ≠ "__name__" → mb x = bootBuiltins x) (hlim : s₁.heap.NoLimit) (hg : s₁.gens = #[])
    (ha : s₁.heap.get? a = some { cls := .type "list", data := .seq vs.toArray }) (hi : IntsAre vs ns) (hl : ns.length ≤ sizeLine) (hr : Room k callerA)
    (F : ∀ base : Heap, K.In base → base.Ns mainGlobals mg → FnG P w K mg base CX k fa fd [x] sp) (hbind : ∀ (s : Shared) (u : Value), BindsTo s fd ⟨[u], []⟩ [(x, u)])
    (hsp : ∀ H : Hp, Only H → SqL K H a (ns.map V.int) → sp [.ref a] H (fun v _ => v = .bl true) fun _ _ _ => False)
    (hCX : ∀ H e s', CX [] H s₁ (fun _ _ _ => False) e s' → False) :
    codeAny (model P w) callerA (.call (.ref fa) ⟨[.ref a], []⟩) (fun r s' => r = .ok (.ret (.bool true)) ∧ OldK s₁.heap s'.heap ∧ s'.os = s₁.os ∧ AllBare s'.gens) s₁ := by
  have lenV := hi.length
  have key : ∀ H : Hp, Only H → SqL K H a (ns.map V.int) → HOk P w H s₁.heap → (∀ b, b ≠ a → H b = none) → (K.lookup a ≠ none → H a = none) →
      codeAny (model P w) callerA (.call (.ref fa) ⟨[.ref a], []⟩) (fun r s' => r = .ok (.ret (.bool true)) ∧ OldK s₁.heap s'.heap ∧ s'.os = s₁.os ∧ AllBare s'.gens) s₁ := by
    intro H hO hS hok hA hK
    have nsK : ∀ {b : Addr} {m : Str → Option Value}, s₁.heap.Ns b m → (hidT s₁.heap H).Ns b m := by
      rintro b m ⟨o, es, ep, e, d, r⟩
      have hne : b ≠ a := by
        rintro rfl
        rw [ha] at e
        cases e
        cases (show Data.seq vs.toArray _ = Data.dict es ep from d)
      exact ⟨o, es, ep, hidT_get e (hA b hne), d, r⟩
    have hKb : K.In (hidT s₁.heap H) := by
      intro b o e
      refine hidT_get (KX b o e) ?_
      by_cases hba : b = a
      · subst hba
        exact hK (by rw [e]; exact fun z => nomatch z)
      · exact hA b hba
    obtain ⟨mc, l1, l2⟩ := hlim
    have hM : Mod K mg (hidT s₁.heap H) := ⟨hKb, nsK hns, ⟨mb, nsK hb, hbb⟩, ⟨mc, nsK l1, l2⟩⟩
    have none0 : ∀ b : Addr, b ∉ frs ([] : List Env) := fun b z => by cases z
    have e0 : Env0 P w K mg (hidT s₁.heap H) callerA [] s₁ H := ⟨rfl, hM, fun b o e => of_hidT e, Nat.le_of_eq (hidT_size _ _), trivial, fun b z => absurd z (none0 b), hok, .of_eq hg⟩
    have run := (F _ hKb (nsK hns)).go callerA [] s₁ H ⟨[.ref a], []⟩ [.ref a] [.ref a] _ _ rfl hr e0 (hbind s₁ (.ref a)) (.cons rfl .nil) (hsp H hO hS)
    refine codeAny_mono run ?_
    intro r s' h
    cases r with
    | error e => exact absurd h fun z => hCX H e s' z
    | ok fl =>
      cases fl with
      | ret u =>
        obtain ⟨v, H', os, bare, un, hok', rv, q⟩ := h
        cases (show v = .bl true from q)
        cases (show u = Value.bool true from rv)
        refine ⟨rfl, OldK.of_keep ?_, os, bare⟩
        intro b o e
        rcases hO b with z | ⟨ob, xs, z⟩
        · exact un.keep b o e z (none0 b) (fun z => by cases z)
        · obtain ⟨e1, _⟩ := hok b _ z
          rw [e1] at e
          cases e
          exact (hok' b _ (un.frzs b _ _ z)).1
      | next => exact False.elim h
      | brk => exact False.elim h
      | cont => exact False.elim h
  have rv := vals_ints hi
  cases hk : K.lookup a with
  | some o =>
    have e := KX a o hk
    rw [ha] at e
    cases e
    refine key (fun _ => none) (fun _ => .inl rfl) (.inr ⟨_, vs.toArray, _, hk, rfl, rfl, rfl, ?_, ?_⟩) (fun b u z => by cases z) (fun _ _ => rfl) fun _ => rfl
    · rw [List.size_toArray, lenV]
      exact hl
    · simpa using rv
  | none =>
    have h0 : ∀ b, b ≠ a → (fun b : Addr => if b = a then some (HO.frz { cls := .type "list", data := .seq vs.toArray } (.lst (ns.map V.int))) else none) b = none := fun b z => if_neg z
    have h1 : (fun b : Addr => if b = a then some (HO.frz { cls := .type "list", data := .seq vs.toArray } (.lst (ns.map V.int))) else none) a = some (HO.frz { cls := .type "list", data := .seq vs.toArray } (.lst (ns.map V.int))) := if_pos rfl
    generalize (fun b : Addr => if b = a then some (HO.frz { cls := .type "list", data := .seq vs.toArray } (.lst (ns.map V.int))) else none) = H at h0 h1
    have cs : ∀ b u, H b = some u → b = a ∧ u = HO.frz { cls := .type "list", data := .seq vs.toArray } (.lst (ns.map V.int)) := fun b u z => by
      by_cases hb : b = a
      · subst hb
        rw [h1] at z
        exact ⟨rfl, (Option.some.inj z).symm⟩
      · rw [h0 b hb] at z
        cases z
    refine key H (fun b => ?_) (.inl (.inr ⟨_, h1⟩)) (fun b u z => ?_) h0 fun z => absurd hk z
    · cases z : H b with
      | none => exact .inl rfl
      | some u =>
        obtain ⟨_, rfl⟩ := cs b u z
        exact .inr ⟨_, _, rfl⟩
    · obtain ⟨rfl, rfl⟩ := cs b u z
      exact ⟨ha, by rw [List.length_map]; exact hl, vs, _, rv, ha⟩
theorem walkG {l : PySem.W.OpenLaw} {n k : Nat} {q : Program} {loose : List Str} {XP : (Str → Option Value) → Heap → Prop} {YP : World → Heap → Prop} {d : DefRec} {CX : CXT} {x : Str}
    (hn : l.most = some n) (hn2 : n ≤ sizeLine) (hdf : d.params.defaults = []) (hr : Room k callerA)
    (F : ∀ (w : World) (mg : Str → Option Value) (fa : Addr) (h : Heap), YP w h → h.Ns mainGlobals mg → mg d.name = some (.ref fa) →
      ∃ (K : PySem.W.Frag) (fd : FuncData) (sp : Sp), K.In h ∧ (∀ (s : Shared) (u : Value), BindsTo s fd ⟨[u], []⟩ [(x, u)]) ∧
        (∀ (H : Hp) (a : Addr) (ns : List Int), ns.length ≤ n → Only H → SqL K H a (ns.map V.int) → sp [.ref a] H (fun v _ => v = .bl true) fun _ _ _ => False) ∧
        ∀ base : Heap, K.In base → base.Ns mainGlobals mg → FnG l.prog w K mg base CX k fa fd [x] sp)
    (hCX : ∀ (H : Hp) (s : Shared) (e : Value) (s' : Shared), CX [] H s (fun _ _ _ => False) e s' → False) :
    PySem.W.WalkO q loose XP YP l.row.toRowW d [] (fun f vs => PySem.call f vs) := by
  apply Att.attach_call hn hdf
  intro w s₀ s₁ mg mb fa o pm cd doc a vs ns G Y ho hd hcd hmg hobj hints hlen hg
  obtain ⟨K, fd, sp, KX, hb, hsp, hF⟩ := F w mg fa _ Y G.T.g hmg
  exact callG KX G.T.g G.T.b G.T.builtins G.T.nolimit hg hobj hints (Nat.le_trans hlen hn2) hr hF hb (fun H hO hS => hsp H a ns hlen hO hS) fun H e s' => hCX H s₁ e s'
end Dl.Grd
end

section
set_option maxHeartbeats 0
namespace Co.KaF
open PySem PySem.Spec PyProof.Rows L2 Co
section
variable {P : Program} {w : World} {K : PySem.W.Frag} {mg : Str → Option Value} {base : Heap}
theorem ok_Lpool (T : Dl.Fz fa fn xs kds w K mg) : Def P w K mg base 1 (He.ga K "_law_pool") ["_law_script"] (sp_pool K) := by
  obtain ⟨fd, F⟩ := T.c.def_ 3 (d := df_Lpool) rfl
  refine Def.of (k := 0) (N := N_Lpool) F sc_Lpool (fun _ _ _ _ _ _ us hl => match us, hl with | [_], _ => rfl) (fun vs H Q E h => by unfold sp_pool at h; split at h <;> first | rfl | exact h.elim) (fun cdv A outer s H vs Q E hr h => ⟨_, ?_, r_Lpool h⟩)
  exact (pss_one (ps_ret (pe_lst (pa_cons (e_lc (own := [("_law_cell", 1)]) (g := (gName 1)) rfl sc_Lpool.nd (pi_list (va 0)) (blkOk_by (own := [("_law_cell", 1)]) (N := N_Lpool) (sc := defScope s_Lpool) (by decide +kernel)) (fun _ _ _ _ _ => (pg_name (i := 1) sc_Lpool.nd rfl (Or.inl rfl))) (fun _ _ _ _ _ => pts_nil) (fun _ _ _ _ _ => (e_if (t_cmp o_ge (va 1) pe_int (nomark _)) (pe_op o_mul pe_int (va 1)) (pe_op o_sub (pe_op o_mul (pe_un u_neg pe_int) (va 1)) pe_int)))) (pa_cons pe_int (pa_cons pe_int (pa_cons pe_int pa_nil)))))))
theorem ok_Ltake (n : Nat) (T : Dl.Fz fa fn xs kds w K mg) (D_Ltake : Def P w K mg base n (He.ga K "_law_take") ["_law_pool_here", "_law_many"] (sp_take n)) : Def P w K mg base (n + 1) (He.ga K "_law_take") ["_law_pool_here", "_law_many"] (sp_take (n + 1)) := by
  obtain ⟨fd, F⟩ := T.c.def_ 4 (d := df_Ltake) rfl
  refine Def.of (k := n) (N := N_Ltake) F sc_Ltake (fun _ _ _ _ _ _ us hl => match us, hl with | [_, _], _ => rfl) (fun vs H Q E h => by unfold sp_take at h; split at h <;> first | rfl | exact h.elim) (fun cdv A outer s H vs Q E hr h => ⟨_, ?_, r_Ltake (K := K) h⟩)
  exact (pss_cons (s_if (t_cmp o_gt (pe_ix ix_list (va 0) pe_int (fun _ _ => rfl)) pe_int (nomark _)) (pss_cons (ps_set (i := 2) sc_Ltake.nd rfl (Or.inl rfl) (pe_op o_mod (pe_callTy c_int (by rfl) (T.free 3) (by decide +kernel) (pa_cons (pe_ix ix_list (va 0) pe_int (fun _ _ => rfl)) pa_nil)) (va 1)))
 (pss_cons (ps_asg (pe_op o_div (pe_ix ix_list (va 0) pe_int (fun _ _ => rfl)) (va 1)) (pg_sub (va 0) pe_int set_list))
 (pss_one (ps_ret (va 2))))) pss_nil)
 (pss_cons (ps_set (i := 3) sc_Ltake.nd rfl (Or.inl rfl) pe_int)
 (pss_cons (s_if (t_cmp o_lt (pe_ix ix_list (va 0) pe_int (fun _ _ => rfl)) (pe_callB c_lenA (by rfl) (T.free 1) PySem.boot_len (pa_cons (pe_ix ix_list (va 0) pe_int (fun _ _ => rfl)) pa_nil)) (nomark _)) (pss_one (ps_set (i := 3) sc_Ltake.nd rfl (Or.inl rfl) (pe_ix ix_seq (pe_ix ix_list (va 0) pe_int (fun _ _ => rfl)) (pe_ix ix_list (va 0) pe_int (fun _ _ => rfl)) (fun _ _ => rfl)))) pss_nil)
 (pss_cons (ps_asg (pe_op o_add (pe_ix ix_list (va 0) pe_int (fun _ _ => rfl)) pe_int) (pg_sub (va 0) pe_int set_list))
 (pss_cons (s_if (t_cmp o_ge (va 3) (pe_op o_pow pe_int pe_int) (nomark _)) (pss_cons (ps_asg (pe_op o_div (va 3) pe_int) (pg_sub (va 0) pe_int set_list))
 (pss_one (ps_ret (e_call D_Ltake hr rfl (T.glo 4) passL (pa_cons (va 0) (pa_cons (va 1) pa_nil)))))) pss_nil)
 (pss_cons (ps_asg (pe_op o_mod (pe_callTy c_int (by rfl) (T.free 3) (by decide +kernel) (pa_cons (pe_op o_add (pe_op o_add (pe_op o_mul (pe_ix ix_list (va 0) pe_int (fun _ _ => rfl)) pe_int) (pe_op o_mul (va 3) pe_int)) (pe_op o_mul (pe_ix ix_list (va 0) pe_int (fun _ _ => rfl)) pe_int)) pa_nil)) pe_int) (pg_sub (va 0) pe_int set_list))
 (pss_cons (ps_set (i := 4) sc_Ltake.nd rfl (Or.inl rfl) (pe_op o_mod (pe_callTy c_int (by rfl) (T.free 3) (by decide +kernel) (pa_cons (pe_op o_add (pe_op o_add (pe_op o_mul (pe_ix ix_list (va 0) pe_int (fun _ _ => rfl)) (pe_ix ix_list (va 0) pe_int (fun _ _ => rfl))) (pe_op o_mul (pe_ix ix_list (va 0) pe_int (fun _ _ => rfl)) pe_int)) pe_int) pa_nil)) pe_int))
 (pss_one (ps_ret (pe_op o_mod (pe_callTy c_int (by rfl) (T.free 3) (by decide +kernel) (pa_cons (pe_op o_div (va 4) pe_int) pa_nil)) (va 1)))))))))))
theorem no_Ltake (T : Dl.Fz fa fn xs kds w K mg) : Def P w K mg base 0 (He.ga K "_law_take") ["_law_pool_here", "_law_many"] (fun _ _ _ _ => False) := by
  obtain ⟨fd, F⟩ := T.c.def_ 4 (d := df_Ltake) rfl
  exact Def.zero F (fun _ _ _ _ _ _ us hl => match us, hl with | [_, _], _ => rfl)
end
end Co.KaF
namespace Dl.Ka
open PySem PySem.Spec PyProof.Rows L2 Co Co.KaF
section
variable {P : Program} {w : World} {K : PySem.W.Frag} {mg : Str → Option Value} {base : Heap}
theorem sc_BadChange_init : FnScope N_BadChange_init ["self", "number", "reason"] (defScope s_BadChange_init) := ⟨rfl, rfl, rfl, by decide +kernel, rfl, by decide +kernel, by decide +kernel⟩
theorem ok_BadChange_init (T : Dl.Fz fa fn xs kds w K mg) : Def P w K mg base 1 (He.ma K (He.ga K "BadChange") "__init__") ["self", "number", "reason"] (sp_xinit2 K "number" "reason") := by
  obtain ⟨fd, F⟩ := T.c.def_ 0 (d := df_BadChange_init) rfl
  refine Def.of (k := 0) (N := N_BadChange_init) F sc_BadChange_init (fun _ _ _ _ _ _ us hl => match us, hl with | [_, _, _], _ => rfl) (fun vs H Q E h => by unfold sp_xinit2 at h; split at h <;> first | rfl | exact h.elim) (fun cdv A outer s H vs Q E hr h => ⟨_, ?_, r_xinit2 h⟩)
  exact (pss_cons (ps_ost (va 0) (va 1)) (pss_one (ps_ost (va 0) (va 2))))
theorem sc_check_change : FnScope N_check_change ["text", "change"] (defScope s_check_change) := ⟨rfl, rfl, rfl, by decide +kernel, rfl, by decide +kernel, by decide +kernel⟩
theorem ok_check_change (T : Dl.Fz fa fn xs kds w K mg) (D_BadChange_init : Def P w K mg base 1 (He.ma K (He.ga K "BadChange") "__init__") ["self", "number", "reason"] (sp_xinit2 K "number" "reason")) : Def P w K mg base 3 (He.ga K "check_change") ["text", "change"] (spD ⟨K, true⟩ pf_check_change) := by
  obtain ⟨fd, F⟩ := T.c.def_ 1 (d := df_check_change) rfl
  refine Def.of (k := 2) (N := N_check_change) F sc_check_change (fun _ _ _ _ _ _ us hl => match us, hl with | [_, _], _ => rfl) (spD_len fun ws st k ex h => by unfold pf_check_change at h; split at h <;> first | rfl | exact h.elim) (fun cdv A outer s H vs Q E hr h => ⟨lS (XN (cxOf (L2.CX P w) P w K mg base N_check_change df_check_change.qual df_check_change.scope (He.ga K "check_change") cdv A outer s H E) true) (fun cls d _ H => E cls d H) (t_check_change), ?_, body_ok (kp := false) (Nm := N_check_change) r_check_change h⟩)
  exact (ss_cons (s_asg (ps_set (i := 2) sc_check_change.nd rfl (Or.inl rfl) (e_I (e_un u_neg ok_neg (e_con pe_int (fun _ => rfl))))))
 (ss_one (s_for (vs := [3, 4]) (gV := (gTup K 2 (gCons (gName 3) (gCons (gName 4) gNil)))) (gok_tup (gsok_cons (gok_name (by decide)) (gsok_cons (gok_name (by decide)) gsok_nil))) (passes_of rfl) rfl (i_en (by rfl) (T.free 0) (pa_cons (e_D (e_var 1)) pa_nil)) (pg_tup rfl (pgs_cons (pg_name (i := 3) sc_check_change.nd rfl (Or.inl rfl)) (pgs_cons (pg_name (i := 4) sc_check_change.nd rfl (Or.inl rfl)) pgs_nil)))
 (ss_cons (s_asgG (vs := [5, 6, 7]) (gV := (gTup K 3 (gCons (gName 5) (gCons (gName 6) (gCons (gName 7) gNil))))) (gok_tup (gsok_cons (gok_name (by decide)) (gsok_cons (gok_name (by decide)) (gsok_cons (gok_name (by decide)) gsok_nil)))) (ps_asg (e_D (e_var 4)) (pg_tup rfl (pgs_cons (pg_name (i := 5) sc_check_change.nd rfl (Or.inl rfl)) (pgs_cons (pg_name (i := 6) sc_check_change.nd rfl (Or.inl rfl)) (pgs_cons (pg_name (i := 7) sc_check_change.nd rfl (Or.inl rfl)) pgs_nil))))))
 (ss_cons (s_if (t_not (t_chain3D o_le' o_le' o_le' ok_le ok_le ok_le (e_I (e_con pe_int (fun _ => rfl))) (e_var 5) (e_var 6) (e_I (e_cb c_lenW ok_len (by rfl) (T.free 1) PySem.boot_len (a_cons (e_var 0) a_nil))))) (ss_one (s_raise2 (s_raiseO rfl (takes_of rfl rfl rfl rfl) (ex_oex (T.more 0)) (ex_init (T.more 1)) D_BadChange_init (hr.mono (by decide)) rfl (T.glo 2) (pa_cons (e_D (e_var 3)) (pa_cons (e_con pe_str (fun _ => rfl)) pa_nil))) (ex_oex (T.more 0)) (ex_nofld (T.more 2)) (ex_nofld (T.more 3)))) ss_nil)
 (ss_cons (s_if (t_cmpD o_le' ok_le (e_var 5) (e_var 2) (nomark _)) (ss_one (s_raise2 (s_raiseO rfl (takes_of rfl rfl rfl rfl) (ex_oex (T.more 0)) (ex_init (T.more 1)) D_BadChange_init (hr.mono (by decide)) rfl (T.glo 2) (pa_cons (e_D (e_var 3)) (pa_cons (e_con pe_str (fun _ => rfl)) pa_nil))) (ex_oex (T.more 0)) (ex_nofld (T.more 2)) (ex_nofld (T.more 3)))) ss_nil)
 (ss_cons (s_if (PW.pt (w_and (t_cmpD (o_eq' hr.units) ok_eq (e_var 5) (e_var 6) (nomark _)) (w_and1 (t_cmpD (o_eq' hr.units) ok_eq (e_var 7) (e_I (e_con pe_str (fun _ => rfl))) (nomark _))))) (ss_one (s_raise2 (s_raiseO rfl (takes_of rfl rfl rfl rfl) (ex_oex (T.more 0)) (ex_init (T.more 1)) D_BadChange_init (hr.mono (by decide)) rfl (T.glo 2) (pa_cons (e_D (e_var 3)) (pa_cons (e_con pe_str (fun _ => rfl)) pa_nil))) (ex_oex (T.more 0)) (ex_nofld (T.more 2)) (ex_nofld (T.more 3)))) ss_nil)
 (ss_one (s_asg (ps_set (i := 2) sc_check_change.nd rfl (Or.inl rfl) (e_var 6)))))))))))
theorem sc_apply_change : FnScope N_apply_change ["text", "change"] (defScope s_apply_change) := ⟨rfl, rfl, rfl, by decide +kernel, rfl, by decide +kernel, by decide +kernel⟩
theorem ok_apply_change (T : Dl.Fz fa fn xs kds w K mg) : Def P w K mg base 1 (He.ga K "apply_change") ["text", "change"] (spD ⟨K, true⟩ pf_apply_change) := by
  obtain ⟨fd, F⟩ := T.c.def_ 2 (d := df_apply_change) rfl
  refine Def.of (k := 0) (N := N_apply_change) F sc_apply_change (fun _ _ _ _ _ _ us hl => match us, hl with | [_, _], _ => rfl) (spD_len fun ws st k ex h => by unfold pf_apply_change at h; split at h <;> first | rfl | exact h.elim) (fun cdv A outer s H vs Q E hr h => ⟨lS (XN (cxOf (L2.CX P w) P w K mg base N_apply_change df_apply_change.qual df_apply_change.scope (He.ga K "apply_change") cdv A outer s H E) true) (fun cls d _ H => E cls d H) (t_apply_change), ?_, body_ok (kp := false) (Nm := N_apply_change) r_apply_change h⟩)
  exact (ss_cons (s_asg (ps_set (i := 2) sc_apply_change.nd rfl (Or.inl rfl) (e_lstM ad_nil)))
 (ss_cons (s_asg (ps_set (i := 3) sc_apply_change.nd rfl (Or.inl rfl) (e_I (e_con pe_int (fun _ => rfl)))))
 (ss_cons (s_for (vs := [4, 5, 6]) (gV := (gTup K 3 (gCons (gName 4) (gCons (gName 5) (gCons (gName 6) gNil))))) (gok_tup (gsok_cons (gok_name (by decide)) (gsok_cons (gok_name (by decide)) (gsok_cons (gok_name (by decide)) gsok_nil)))) (passes_of rfl) rfl (i_sq (e_D (e_var 1))) (pg_tup rfl (pgs_cons (pg_name (i := 4) sc_apply_change.nd rfl (Or.inl rfl)) (pgs_cons (pg_name (i := 5) sc_apply_change.nd rfl (Or.inl rfl)) (pgs_cons (pg_name (i := 6) sc_apply_change.nd rfl (Or.inl rfl)) pgs_nil))))
 (ss_cons (s_app (ps_expr (pe_bm PySem.F.plainAttrs_list PySem.F.slot_list_append PySem.F.type_list_append mt_append (e_var 2) (pa_cons (e_sl (e_var 0) (o_some (e_D (e_var 3))) (o_some (e_D (e_var 4)))) pa_nil))))
 (ss_cons (s_app (ps_expr (pe_bm PySem.F.plainAttrs_list PySem.F.slot_list_append PySem.F.type_list_append mt_append (e_var 2) (pa_cons (e_D (e_var 6)) pa_nil))))
 (ss_one (s_asg (ps_set (i := 3) sc_apply_change.nd rfl (Or.inl rfl) (e_var 5)))))))
 (ss_cons (s_app (ps_expr (pe_bm PySem.F.plainAttrs_list PySem.F.slot_list_append PySem.F.type_list_append mt_append (e_var 2) (pa_cons (e_sl (e_var 0) (o_some (e_D (e_var 3))) o_none) pa_nil))))
 (ss_one (s_ret (e_I (e_m1 PySem.F.slot_str_join PySem.F.type_str_join m_join ok_join (e_I (e_con pe_str (fun _ => rfl))) (e_var 2)))))))))
theorem sc_Lchar : FnScope N_Lchar ["_law_cell"] (defScope s_Lchar) := ⟨rfl, rfl, rfl, by decide +kernel, rfl, by decide +kernel, by decide +kernel⟩
theorem ok_Lchar (T : Dl.Fz fa fn xs kds w K mg) : Def P w K mg base 1 (He.ga K "_law_char") ["_law_cell"] (spD ⟨K, true⟩ pf_Lchar) := by
  obtain ⟨fd, F⟩ := T.c.def_ 5 (d := df_Lchar) rfl
  refine Def.of (k := 0) (N := N_Lchar) F sc_Lchar (fun _ _ _ _ _ _ us hl => match us, hl with | [_], _ => rfl) (spD_len fun ws st k ex h => by unfold pf_Lchar at h; split at h <;> first | rfl | exact h.elim) (fun cdv A outer s H vs Q E hr h => ⟨lS (XN (cxOf (L2.CX P w) P w K mg base N_Lchar df_Lchar.qual df_Lchar.scope (He.ga K "_law_char") cdv A outer s H E) true) (fun cls d _ H => E cls d H) (t_Lchar), ?_, body_ok (kp := false) (Nm := N_Lchar) r_Lchar h⟩)
  exact (ss_cons (s_asg (ps_set (i := 1) sc_Lchar.nd rfl (Or.inl rfl) (e_I (e_con pe_str (fun _ => rfl)))))
 (ss_one (s_ret (e_I (e_ix (e_var 1) (e_op o_mod ok_mod (e_D (e_var 0)) (e_con pe_int (fun _ => rfl))))))))
theorem sc_Ltext : FnScope N_Ltext ["_law_pool_here", "_law_size_here"] (defScope s_Ltext) := ⟨rfl, rfl, rfl, by decide +kernel, rfl, by decide +kernel, by decide +kernel⟩
theorem ok_Ltext (T : Dl.Fz fa fn xs kds w K mg) (D_Ltake : Def P w K mg base 2 (He.ga K "_law_take") ["_law_pool_here", "_law_many"] (spD ⟨K, true⟩ pf_take)) (D_Lchar : Def P w K mg base 1 (He.ga K "_law_char") ["_law_cell"] (spD ⟨K, true⟩ pf_Lchar)) : Def P w K mg base 3 (He.ga K "_law_text") ["_law_pool_here", "_law_size_here"] (spD ⟨K, true⟩ pf_Ltext) := by
  obtain ⟨fd, F⟩ := T.c.def_ 6 (d := df_Ltext) rfl
  refine Def.of (k := 2) (N := N_Ltext) F sc_Ltext (fun _ _ _ _ _ _ us hl => match us, hl with | [_, _], _ => rfl) (spD_len fun ws st k ex h => by unfold pf_Ltext at h; split at h <;> first | rfl | exact h.elim) (fun cdv A outer s H vs Q E hr h => ⟨lS (XN (cxOf (L2.CX P w) P w K mg base N_Ltext df_Ltext.qual df_Ltext.scope (He.ga K "_law_text") cdv A outer s H E) true) (fun cls d _ H => E cls d H) (t_Ltext), ?_, body_ok (kp := false) (Nm := N_Ltext) r_Ltext h⟩)
  exact (ss_cons (s_asg (ps_set (i := 2) sc_Ltext.nd rfl (Or.inl rfl) (e_call D_Ltake (hr.mono (by decide)) rfl (T.glo 4) (fun σ => passAt (takes_of rfl rfl rfl rfl) σ) (a_cons (e_var 0) (a_cons (e_I (e_con pe_int (fun _ => rfl))) a_nil)))))
 (ss_cons (s_asg (ps_set (i := 3) sc_Ltext.nd rfl (Or.inl rfl) (e_call D_Ltake (hr.mono (by decide)) rfl (T.glo 4) (fun σ => passAt (takes_of rfl rfl rfl rfl) σ) (a_cons (e_var 0) (a_cons (e_I (e_con pe_int (fun _ => rfl))) a_nil)))))
 (ss_cons (s_asg (ps_set (i := 4) sc_Ltext.nd rfl (Or.inl rfl) (e_lstM ad_nil)))
 (ss_cons (s_for (vs := [5]) (gV := (gName 5)) (gok_name (by decide)) (passes_of rfl) rfl (i_rg1 rfl (T.free 5) (pa_cons (e_D (e_var 1)) pa_nil)) (pg_name (i := 5) sc_Ltext.nd rfl (Or.inl rfl))
 (ss_one (s_if (t_cmpD (o_eq' hr.units) ok_eq (e_var 2) (e_I (e_con pe_int (fun _ => rfl))) (nomark _)) (ss_one (s_app (ps_expr (pe_bm PySem.F.plainAttrs_list PySem.F.slot_list_append PySem.F.type_list_append mt_append (e_var 4) (pa_cons (e_D (e_call D_Lchar (hr.mono (by decide)) rfl (T.glo 6) (fun σ => passAt (takes_of rfl rfl rfl rfl) σ) (a_cons (e_call D_Ltake (hr.mono (by decide)) rfl (T.glo 4) (fun σ => passAt (takes_of rfl rfl rfl rfl) σ) (a_cons (e_var 0) (a_cons (e_I (e_con pe_int (fun _ => rfl))) a_nil))) a_nil))) pa_nil))))) (ss_one (s_if (t_cmpD (o_eq' hr.units) ok_eq (e_var 2) (e_I (e_con pe_int (fun _ => rfl))) (nomark _)) (ss_one (s_app (ps_expr (pe_bm PySem.F.plainAttrs_list PySem.F.slot_list_append PySem.F.type_list_append mt_append (e_var 4) (pa_cons (e_ix (e_I (e_con pe_str (fun _ => rfl))) (e_D (e_call D_Ltake (hr.mono (by decide)) rfl (T.glo 4) (fun σ => passAt (takes_of rfl rfl rfl rfl) σ) (a_cons (e_var 0) (a_cons (e_I (e_con pe_int (fun _ => rfl))) a_nil))))) pa_nil))))) (ss_one (s_app (ps_expr (pe_bm PySem.F.plainAttrs_list PySem.F.slot_list_append PySem.F.type_list_append mt_append (e_var 4) (pa_cons (e_D (e_call D_Lchar (hr.mono (by decide)) rfl (T.glo 6) (fun σ => passAt (takes_of rfl rfl rfl rfl) σ) (a_cons (e_var 3) a_nil))) pa_nil))))))))))
 (ss_one (s_ret (e_I (e_m1 PySem.F.slot_str_join PySem.F.type_str_join m_join ok_join (e_I (e_con pe_str (fun _ => rfl))) (e_var 4)))))))))
theorem sc_Lsize : FnScope N_Lsize ["_law_pool_here"] (defScope s_Lsize) := ⟨rfl, rfl, rfl, by decide +kernel, rfl, by decide +kernel, by decide +kernel⟩
theorem ok_Lsize (T : Dl.Fz fa fn xs kds w K mg) (D_Ltake : Def P w K mg base 2 (He.ga K "_law_take") ["_law_pool_here", "_law_many"] (spD ⟨K, true⟩ pf_take)) : Def P w K mg base 3 (He.ga K "_law_size") ["_law_pool_here"] (spD ⟨K, true⟩ pf_Lsize) := by
  obtain ⟨fd, F⟩ := T.c.def_ 7 (d := df_Lsize) rfl
  refine Def.of (k := 2) (N := N_Lsize) F sc_Lsize (fun _ _ _ _ _ _ us hl => match us, hl with | [_], _ => rfl) (spD_len fun ws st k ex h => by unfold pf_Lsize at h; split at h <;> first | rfl | exact h.elim) (fun cdv A outer s H vs Q E hr h => ⟨lS (XN (cxOf (L2.CX P w) P w K mg base N_Lsize df_Lsize.qual df_Lsize.scope (He.ga K "_law_size") cdv A outer s H E) true) (fun cls d _ H => E cls d H) (t_Lsize), ?_, body_ok (kp := false) (Nm := N_Lsize) r_Lsize h⟩)
  exact (ss_cons (s_if (t_cmpD (o_eq' hr.units) ok_eq (e_call D_Ltake (hr.mono (by decide)) rfl (T.glo 4) (fun σ => passAt (takes_of rfl rfl rfl rfl) σ) (a_cons (e_var 0) (a_cons (e_I (e_con pe_int (fun _ => rfl))) a_nil))) (e_I (e_con pe_int (fun _ => rfl))) (nomark _)) (ss_one (s_ret (e_call D_Ltake (hr.mono (by decide)) rfl (T.glo 4) (fun σ => passAt (takes_of rfl rfl rfl rfl) σ) (a_cons (e_var 0) (a_cons (e_I (e_con pe_int (fun _ => rfl))) a_nil))))) ss_nil)
 (ss_one (s_ret (e_call D_Ltake (hr.mono (by decide)) rfl (T.glo 4) (fun σ => passAt (takes_of rfl rfl rfl rfl) σ) (a_cons (e_var 0) (a_cons (e_I (e_con pe_int (fun _ => rfl))) a_nil))))))
theorem sc_Lchange : FnScope N_Lchange ["_law_pool_here", "_law_text_here"] (defScope s_Lchange) := ⟨rfl, rfl, rfl, by decide +kernel, rfl, by decide +kernel, by decide +kernel⟩
theorem ok_Lchange (T : Dl.Fz fa fn xs kds w K mg) (D_Ltake : Def P w K mg base 2 (He.ga K "_law_take") ["_law_pool_here", "_law_many"] (spD ⟨K, true⟩ pf_take)) (D_Ltext : Def P w K mg base 3 (He.ga K "_law_text") ["_law_pool_here", "_law_size_here"] (spD ⟨K, true⟩ pf_Ltext)) : Def P w K mg base 4 (He.ga K "_law_change") ["_law_pool_here", "_law_text_here"] (spD ⟨K, true⟩ pf_Lchange) := by
  obtain ⟨fd, F⟩ := T.c.def_ 8 (d := df_Lchange) rfl
  refine Def.of (k := 3) (N := N_Lchange) F sc_Lchange (fun _ _ _ _ _ _ us hl => match us, hl with | [_, _], _ => rfl) (spD_len fun ws st k ex h => by unfold pf_Lchange at h; split at h <;> first | rfl | exact h.elim) (fun cdv A outer s H vs Q E hr h => ⟨lS (XN (cxOf (L2.CX P w) P w K mg base N_Lchange df_Lchange.qual df_Lchange.scope (He.ga K "_law_change") cdv A outer s H E) true) (fun cls d _ H => E cls d H) (t_Lchange), ?_, body_ok (kp := false) (Nm := N_Lchange) r_Lchange h⟩)
  exact (ss_cons (s_asg (ps_set (i := 2) sc_Lchange.nd rfl (Or.inl rfl) (e_lstM ad_nil)))
 (ss_cons (s_asg (ps_set (i := 3) sc_Lchange.nd rfl (Or.inl rfl) (e_I (e_con pe_int (fun _ => rfl)))))
 (ss_cons (s_for (vs := [4]) (gV := (gName 4)) (gok_name (by decide)) (passes_of rfl) rfl (i_rg1 rfl (T.free 5) (pa_cons (e_D (e_call D_Ltake (hr.mono (by decide)) rfl (T.glo 4) (fun σ => passAt (takes_of rfl rfl rfl rfl) σ) (a_cons (e_var 0) (a_cons (e_I (e_con pe_int (fun _ => rfl))) a_nil)))) pa_nil)) (pg_name (i := 4) sc_Lchange.nd rfl (Or.inl rfl))
 (ss_cons (s_asg (ps_set (i := 5) sc_Lchange.nd rfl (Or.inl rfl) (e_I (e_op o_add' ok_add (e_D (e_var 3)) (e_ix (e_I (e_tup (ad_cons (e_D (e_call D_Ltake (hr.mono (by decide)) rfl (T.glo 4) (fun σ => passAt (takes_of rfl rfl rfl rfl) σ) (a_cons (e_var 0) (a_cons (e_I (e_con pe_int (fun _ => rfl))) a_nil)))) (ad_cons (e_D (e_call D_Ltake (hr.mono (by decide)) rfl (T.glo 4) (fun σ => passAt (takes_of rfl rfl rfl rfl) σ) (a_cons (e_var 0) (a_cons (e_I (e_con pe_int (fun _ => rfl))) a_nil)))) ad_nil)))) (e_op o_div ok_div (e_D (e_call D_Ltake (hr.mono (by decide)) rfl (T.glo 4) (fun σ => passAt (takes_of rfl rfl rfl rfl) σ) (a_cons (e_var 0) (a_cons (e_I (e_con pe_int (fun _ => rfl))) a_nil)))) (e_con pe_int (fun _ => rfl))))))))
 (ss_one (s_if (t_cmpD o_le' ok_le (e_var 5) (e_I (e_cb c_lenW ok_len (by rfl) (T.free 1) PySem.boot_len (a_cons (e_var 1) a_nil))) (nomark _)) (ss_cons (s_asg (ps_set (i := 6) sc_Lchange.nd rfl (Or.inl rfl) (e_I (e_cb (c_min2 rfl) ok_min (by rfl) (T.free 7) (by decide +kernel) (a_cons (e_I (e_cb c_lenW ok_len (by rfl) (T.free 1) PySem.boot_len (a_cons (e_var 1) a_nil))) (a_cons (e_I (e_op o_add' ok_add (e_D (e_var 5)) (e_ix (e_I (e_tup (ad_cons (e_D (e_call D_Ltake (hr.mono (by decide)) rfl (T.glo 4) (fun σ => passAt (takes_of rfl rfl rfl rfl) σ) (a_cons (e_var 0) (a_cons (e_I (e_con pe_int (fun _ => rfl))) a_nil)))) (ad_cons (e_D (e_call D_Ltake (hr.mono (by decide)) rfl (T.glo 4) (fun σ => passAt (takes_of rfl rfl rfl rfl) σ) (a_cons (e_var 0) (a_cons (e_I (e_con pe_int (fun _ => rfl))) a_nil)))) ad_nil)))) (e_op o_div ok_div (e_D (e_call D_Ltake (hr.mono (by decide)) rfl (T.glo 4) (fun σ => passAt (takes_of rfl rfl rfl rfl) σ) (a_cons (e_var 0) (a_cons (e_I (e_con pe_int (fun _ => rfl))) a_nil)))) (e_con pe_int (fun _ => rfl)))))) a_nil))))))
 (ss_cons (s_asg (ps_set (i := 7) sc_Lchange.nd rfl (Or.inl rfl) (e_call D_Ltext (hr.mono (by decide)) rfl (T.glo 8) (fun σ => passAt (takes_of rfl rfl rfl rfl) σ) (a_cons (e_var 0) (a_cons (e_call D_Ltake (hr.mono (by decide)) rfl (T.glo 4) (fun σ => passAt (takes_of rfl rfl rfl rfl) σ) (a_cons (e_var 0) (a_cons (e_I (e_con pe_int (fun _ => rfl))) a_nil))) a_nil)))))
 (ss_cons (s_if (PW.pt (w_and (t_cmpD (o_eq' hr.units) ok_eq (e_var 5) (e_var 6) (nomark _)) (w_and1 (t_cmpD (o_eq' hr.units) ok_eq (e_var 7) (e_I (e_con pe_str (fun _ => rfl))) (nomark _))))) (ss_one (s_asg (ps_set (i := 7) sc_Lchange.nd rfl (Or.inl rfl) (e_I (e_con pe_str (fun _ => rfl)))))) ss_nil)
 (ss_cons (s_app (ps_expr (pe_bm PySem.F.plainAttrs_list PySem.F.slot_list_append PySem.F.type_list_append mt_append (e_var 2) (pa_cons (e_tup (ad_cons (e_D (e_var 5)) (ad_cons (e_D (e_var 6)) (ad_cons (e_D (e_var 7)) ad_nil)))) pa_nil))))
 (ss_one (s_asg (ps_set (i := 3) sc_Lchange.nd rfl (Or.inl rfl) (e_I (e_op o_add' ok_add (e_D (e_var 6)) (e_con pe_int (fun _ => rfl))))))))))) ss_nil))))
 (ss_one (s_ret (e_var 2))))))
theorem sc_Lmarked : FnScope N_Lmarked ["_law_text_here", "_law_change_here"] (defScope s_Lmarked) := ⟨rfl, rfl, rfl, by decide +kernel, rfl, by decide +kernel, by decide +kernel⟩
theorem ok_Lmarked (T : Dl.Fz fa fn xs kds w K mg) : Def P w K mg base 1 (He.ga K "_law_marked") ["_law_text_here", "_law_change_here"] (spD ⟨K, true⟩ pf_Lmarked) := by
  obtain ⟨fd, F⟩ := T.c.def_ 9 (d := df_Lmarked) rfl
  refine Def.of (k := 0) (N := N_Lmarked) F sc_Lmarked (fun _ _ _ _ _ _ us hl => match us, hl with | [_, _], _ => rfl) (spD_len fun ws st k ex h => by unfold pf_Lmarked at h; split at h <;> first | rfl | exact h.elim) (fun cdv A outer s H vs Q E hr h => ⟨lS (XN (cxOf (L2.CX P w) P w K mg base N_Lmarked df_Lmarked.qual df_Lmarked.scope (He.ga K "_law_marked") cdv A outer s H E) true) (fun cls d _ H => E cls d H) (t_Lmarked), ?_, body_ok (kp := false) (Nm := N_Lmarked) r_Lmarked h⟩)
  exact (ss_cons (s_asg (ps_set (i := 2) sc_Lmarked.nd rfl (Or.inl rfl) (e_I (e_lst ad_nil))))
 (ss_cons (s_asg (ps_set (i := 3) sc_Lmarked.nd rfl (Or.inl rfl) (e_I (e_con pe_int (fun _ => rfl)))))
 (ss_cons (s_for (vs := [4, 5, 6]) (gV := (gTup K 3 (gCons (gName 4) (gCons (gName 5) (gCons (gName 6) gNil))))) (gok_tup (gsok_cons (gok_name (by decide)) (gsok_cons (gok_name (by decide)) (gsok_cons (gok_name (by decide)) gsok_nil)))) (passes_of rfl) rfl (i_sq (e_D (e_var 1))) (pg_tup rfl (pgs_cons (pg_name (i := 4) sc_Lmarked.nd rfl (Or.inl rfl)) (pgs_cons (pg_name (i := 5) sc_Lmarked.nd rfl (Or.inl rfl)) (pgs_cons (pg_name (i := 6) sc_Lmarked.nd rfl (Or.inl rfl)) pgs_nil))))
 (ss_cons (s_asg (ps_set (i := 2) sc_Lmarked.nd rfl (Or.inl rfl) (e_I (e_op o_add' ok_add (e_op o_add' ok_add (e_D (e_var 2)) (e_lcD (own := [("_law_k", 7)]) (g := (gN 7)) (gV := (gName 7)) (gok_name (by decide)) rfl sc_Lmarked.nd (i_rg2 rfl (T.free 5) (pa_cons (e_D (e_var 3)) (pa_cons (e_D (e_var 4)) pa_nil))) (blkOk_by (own := [("_law_k", 7)]) (N := N_Lmarked) (sc := defScope s_Lmarked) (by decide +kernel)) (fun _ _ _ _ _ => (pg_name (i := 7) sc_Lmarked.nd rfl (Or.inl rfl))) (fun _ _ _ _ _ => ts_nil) (fun _ _ _ _ _ => (e_tup (ad_cons (e_ix (e_var 0) (e_D (e_var 7))) (ad_cons (e_D (e_var 7)) ad_nil)))))) (e_lcD (own := [("_law_sign", 8)]) (g := (gN 8)) (gV := (gName 8)) (gok_name (by decide)) rfl sc_Lmarked.nd (i_st (e_D (e_var 6))) (blkOk_by (own := [("_law_sign", 8)]) (N := N_Lmarked) (sc := defScope s_Lmarked) (by decide +kernel)) (fun _ _ _ _ _ => (pg_name (i := 8) sc_Lmarked.nd rfl (Or.inl rfl))) (fun _ _ _ _ _ => ts_nil) (fun _ _ _ _ _ => (e_tup (ad_cons (e_D (e_var 8)) (ad_cons (e_con pe_non (fun _ => rfl)) ad_nil)))))))))
 (ss_one (s_asg (ps_set (i := 3) sc_Lmarked.nd rfl (Or.inl rfl) (e_var 5))))))
 (ss_one (s_ret (e_I (e_op o_add' ok_add (e_D (e_var 2)) (e_lcD (own := [("_law_k", 7)]) (g := (gN 7)) (gV := (gName 7)) (gok_name (by decide)) rfl sc_Lmarked.nd (i_rg2 rfl (T.free 5) (pa_cons (e_D (e_var 3)) (pa_cons (e_cb c_lenW ok_len (by rfl) (T.free 1) PySem.boot_len (a_cons (e_var 0) a_nil)) pa_nil))) (blkOk_by (own := [("_law_k", 7)]) (N := N_Lmarked) (sc := defScope s_Lmarked) (by decide +kernel)) (fun _ _ _ _ _ => (pg_name (i := 7) sc_Lmarked.nd rfl (Or.inl rfl))) (fun _ _ _ _ _ => ts_nil) (fun _ _ _ _ _ => (e_tup (ad_cons (e_ix (e_var 0) (e_D (e_var 7))) (ad_cons (e_D (e_var 7)) ad_nil))))))))))))
theorem sc_Lafter : FnScope N_Lafter ["_law_text_here", "_law_change_here"] (defScope s_Lafter) := ⟨rfl, rfl, rfl, by decide +kernel, rfl, by decide +kernel, by decide +kernel⟩
theorem ok_Lafter (T : Dl.Fz fa fn xs kds w K mg) (D_Lmarked : Def P w K mg base 1 (He.ga K "_law_marked") ["_law_text_here", "_law_change_here"] (spD ⟨K, true⟩ pf_Lmarked)) : Def P w K mg base 2 (He.ga K "_law_after") ["_law_text_here", "_law_change_here"] (spD ⟨K, true⟩ pf_Lafter) := by
  obtain ⟨fd, F⟩ := T.c.def_ 10 (d := df_Lafter) rfl
  refine Def.of (k := 1) (N := N_Lafter) F sc_Lafter (fun _ _ _ _ _ _ us hl => match us, hl with | [_, _], _ => rfl) (spD_len fun ws st k ex h => by unfold pf_Lafter at h; split at h <;> first | rfl | exact h.elim) (fun cdv A outer s H vs Q E hr h => ⟨lS (XN (cxOf (L2.CX P w) P w K mg base N_Lafter df_Lafter.qual df_Lafter.scope (He.ga K "_law_after") cdv A outer s H E) true) (fun cls d _ H => E cls d H) (t_Lafter), ?_, body_ok (kp := false) (Nm := N_Lafter) r_Lafter h⟩)
  exact (ss_one (s_ret (e_I (e_m1 PySem.F.slot_str_join PySem.F.type_str_join m_join ok_join (e_I (e_con pe_str (fun _ => rfl))) (e_I (e_lcD (own := [("_law_row", 2)]) (g := (gN 2)) (gV := (gName 2)) (gok_name (by decide)) rfl sc_Lafter.nd (i_sq (e_D (e_call D_Lmarked (hr.mono (by decide)) rfl (T.glo 9) (fun σ => passAt (takes_of rfl rfl rfl rfl) σ) (a_cons (e_var 0) (a_cons (e_var 1) a_nil))))) (blkOk_by (own := [("_law_row", 2)]) (N := N_Lafter) (sc := defScope s_Lafter) (by decide +kernel)) (fun _ _ _ _ _ => (pg_name (i := 2) sc_Lafter.nd rfl (Or.inl rfl))) (fun _ _ _ _ _ => ts_nil) (fun _ _ _ _ _ => (e_ix (e_var 2) (e_con pe_int (fun _ => rfl))))))))))
theorem sc_Lis_integer : FnScope N_Lis_integer ["_law_actual"] (defScope s_Lis_integer) := ⟨rfl, rfl, rfl, by decide +kernel, rfl, by decide +kernel, by decide +kernel⟩
theorem ok_Lis_integer (T : Dl.Fz fa fn xs kds w K mg) : Def P w K mg base 1 (He.ga K "_law_is_integer") ["_law_actual"] (spD ⟨K, true⟩ Sm.pf_isint) := by
  obtain ⟨fd, F⟩ := T.c.def_ 11 (d := df_Lis_integer) rfl
  refine Def.of (k := 0) (N := N_Lis_integer) F sc_Lis_integer (fun _ _ _ _ _ _ us hl => match us, hl with | [_], _ => rfl) (spD_len fun ws st k ex h => by unfold Sm.pf_isint at h; split at h <;> first | rfl | exact h.elim) (fun cdv A outer s H vs Q E hr h => ⟨lS (XN (cxOf (L2.CX P w) P w K mg base N_Lis_integer df_Lis_integer.qual df_Lis_integer.scope (He.ga K "_law_is_integer") cdv A outer s H E) true) (fun cls d _ H => E cls d H) (t_Lis_integer), ?_, body_ok (kp := false) (Nm := N_Lis_integer) r_Lis_integer h⟩)
  exact (ss_one (s_ret (e_andV (e_I (e_cb c_isi ok_isi (by rfl) (T.free 10) (by decide +kernel) (a_cons (e_var 0) (a_cons (e_I (e_con (pe_bltn (v := .ty "int") (u := .type "int") (by rfl) (T.free 3) (by decide +kernel) rfl) (fun _ => rfl))) a_nil)))) (e_and1 (e_I (e_notW (e_I (e_cb c_isi ok_isi (by rfl) (T.free 10) (by decide +kernel) (a_cons (e_var 0) (a_cons (e_I (e_con (pe_bltn (v := .ty "bool") (u := .type "bool") (by rfl) (T.free 11) (by decide +kernel) rfl) (fun _ => rfl))) a_nil))))))))))
theorem sc_Lsame : FnScope N_Lsame ["_law_actual", "_law_due"] (defScope s_Lsame) := ⟨rfl, rfl, rfl, by decide +kernel, rfl, by decide +kernel, by decide +kernel⟩
theorem ok_Lsame (n : Nat) (T : Dl.Fz fa fn xs kds w K mg) (D_Lis_integer : Def P w K mg base 1 (He.ga K "_law_is_integer") ["_law_actual"] (spD ⟨K, true⟩ Sm.pf_isint)) (D_Lsame : Def P w K mg base (10 * n) (He.ga K "_law_same") ["_law_actual", "_law_due"] (spD ⟨K, true⟩ (Sm.pf_same n))) : Def P w K mg base (10 * n + 10) (He.ga K "_law_same") ["_law_actual", "_law_due"] (spD ⟨K, true⟩ (Sm.pf_same (n + 1))) := by
  obtain ⟨fd, F⟩ := T.c.def_ 12 (d := df_Lsame) rfl
  refine Def.of (N := N_Lsame) F sc_Lsame (fun _ _ _ _ _ _ us hl => match us, hl with | [_, _], _ => rfl) (spD_len fun ws st k ex h => by unfold Sm.pf_same at h; split at h <;> first | rfl | exact h.elim) (fun cdv A outer s H vs Q E hr h => ⟨lS (XN (cxOf (L2.CX P w) P w K mg base N_Lsame df_Lsame.qual df_Lsame.scope (He.ga K "_law_same") cdv A outer s H E) true) (fun cls d _ H => E cls d H) (t_Lsame n), ?_, body_ok (kp := false) (Nm := N_Lsame) r_Lsame h⟩)
  exact (ss_cons (s_if (t_tru (e_I (e_cb c_isi ok_isi (by rfl) (T.free 10) (by decide +kernel) (a_cons (e_var 1) (a_cons (e_I (e_con (pe_bltn (v := .ty "tuple") (u := .type "tuple") (by rfl) (T.free 12) (by decide +kernel) rfl) (fun _ => rfl))) a_nil))))) (ss_cons (s_if (PW.pt (w_or (t_not (t_tru (e_I (e_cb c_isi ok_isi (by rfl) (T.free 10) (by decide +kernel) (a_cons (e_var 0) (a_cons (e_I (e_con (pe_bltn (v := .ty "tuple") (u := .type "tuple") (by rfl) (T.free 12) (by decide +kernel) rfl) (fun _ => rfl))) a_nil)))))) (w_or1 (t_cmpD (o_ne' hr.units) ok_ne (e_I (e_cb c_lenW ok_len (by rfl) (T.free 1) PySem.boot_len (a_cons (e_var 0) a_nil))) (e_I (e_cb c_lenW ok_len (by rfl) (T.free 1) PySem.boot_len (a_cons (e_var 1) a_nil))) (nomark _))))) (ss_one (s_ret (e_I (e_con pe_bl (fun _ => rfl))))) ss_nil)
 (ss_one (s_ret (e_I (e_cb (cr_all rfl) ok_all (by rfl) (T.free 14) (by decide +kernel) (a_cons (e_I (e_lcD (own := [("_law_k", 2)]) (g := (gN 2)) (gV := (gName 2)) (gok_name (by decide)) rfl sc_Lsame.nd (i_rg1 rfl (T.free 5) (pa_cons (e_cb c_lenW ok_len (by rfl) (T.free 1) PySem.boot_len (a_cons (e_var 1) a_nil)) pa_nil)) (blkOk_by (own := [("_law_k", 2)]) (N := N_Lsame) (sc := defScope s_Lsame) (by decide +kernel)) (fun _ _ _ _ _ => (pg_name (i := 2) sc_Lsame.nd rfl (Or.inl rfl))) (fun _ _ _ _ _ => ts_nil) (fun _ _ _ _ _ => (e_D (e_call D_Lsame (hr.mono (by omega)) rfl (T.glo 13) (fun _ => pass_none (fun _ _ _ _ h => h)) (a_cons (e_I (e_ix (e_var 0) (e_D (e_var 2)))) (a_cons (e_I (e_ix (e_var 1) (e_D (e_var 2)))) a_nil))))))) a_nil)))))) ss_nil)
 (ss_cons (s_if (t_tru (e_I (e_cb c_isi ok_isi (by rfl) (T.free 10) (by decide +kernel) (a_cons (e_var 1) (a_cons (e_I (e_con (pe_bltn (v := .ty "list") (u := .type "list") (by rfl) (T.free 15) (by decide +kernel) rfl) (fun _ => rfl))) a_nil))))) (ss_cons (s_if (PW.pt (w_or (t_not (t_tru (e_I (e_cb c_isi ok_isi (by rfl) (T.free 10) (by decide +kernel) (a_cons (e_var 0) (a_cons (e_I (e_con (pe_bltn (v := .ty "list") (u := .type "list") (by rfl) (T.free 15) (by decide +kernel) rfl) (fun _ => rfl))) a_nil)))))) (w_or1 (t_cmpD (o_ne' hr.units) ok_ne (e_I (e_cb c_lenW ok_len (by rfl) (T.free 1) PySem.boot_len (a_cons (e_var 0) a_nil))) (e_I (e_cb c_lenW ok_len (by rfl) (T.free 1) PySem.boot_len (a_cons (e_var 1) a_nil))) (nomark _))))) (ss_one (s_ret (e_I (e_con pe_bl (fun _ => rfl))))) ss_nil)
 (ss_one (s_ret (e_I (e_cb (cr_all rfl) ok_all (by rfl) (T.free 14) (by decide +kernel) (a_cons (e_I (e_lcD (own := [("_law_k", 2)]) (g := (gN 2)) (gV := (gName 2)) (gok_name (by decide)) rfl sc_Lsame.nd (i_rg1 rfl (T.free 5) (pa_cons (e_cb c_lenW ok_len (by rfl) (T.free 1) PySem.boot_len (a_cons (e_var 1) a_nil)) pa_nil)) (blkOk_by (own := [("_law_k", 2)]) (N := N_Lsame) (sc := defScope s_Lsame) (by decide +kernel)) (fun _ _ _ _ _ => (pg_name (i := 2) sc_Lsame.nd rfl (Or.inl rfl))) (fun _ _ _ _ _ => ts_nil) (fun _ _ _ _ _ => (e_D (e_call D_Lsame (hr.mono (by omega)) rfl (T.glo 13) (fun _ => pass_none (fun _ _ _ _ h => h)) (a_cons (e_I (e_ix (e_var 0) (e_D (e_var 2)))) (a_cons (e_I (e_ix (e_var 1) (e_D (e_var 2)))) a_nil))))))) a_nil)))))) ss_nil)
 (ss_cons (s_if (t_isND (e_var 1)) (ss_one (s_ret (e_I (e_isND (e_var 0))))) ss_nil)
 (ss_cons (s_if (t_tru (e_I (e_cb c_isi ok_isi (by rfl) (T.free 10) (by decide +kernel) (a_cons (e_var 1) (a_cons (e_I (e_con (pe_bltn (v := .ty "bool") (u := .type "bool") (by rfl) (T.free 11) (by decide +kernel) rfl) (fun _ => rfl))) a_nil))))) (ss_one (s_ret (e_andV (e_I (e_cb c_isi ok_isi (by rfl) (T.free 10) (by decide +kernel) (a_cons (e_var 0) (a_cons (e_I (e_con (pe_bltn (v := .ty "bool") (u := .type "bool") (by rfl) (T.free 11) (by decide +kernel) rfl) (fun _ => rfl))) a_nil)))) (e_and1 (e_I (e_cmpD (o_eq' hr.units) ok_eq (e_var 0) (e_var 1) (nomark _))))))) ss_nil)
 (ss_cons (s_if (t_tru (e_I (e_cb c_isi ok_isi (by rfl) (T.free 10) (by decide +kernel) (a_cons (e_var 1) (a_cons (e_I (e_con (pe_bltn (v := .ty "str") (u := .type "str") (by rfl) (T.free 16) (by decide +kernel) rfl) (fun _ => rfl))) a_nil))))) (ss_one (s_ret (e_andV (e_I (e_cb c_isi ok_isi (by rfl) (T.free 10) (by decide +kernel) (a_cons (e_var 0) (a_cons (e_I (e_con (pe_bltn (v := .ty "str") (u := .type "str") (by rfl) (T.free 16) (by decide +kernel) rfl) (fun _ => rfl))) a_nil)))) (e_and1 (e_I (e_cmpD (o_eq' hr.units) ok_eq (e_var 0) (e_var 1) (nomark _))))))) ss_nil)
 (ss_one (s_ret (e_andV (e_call D_Lis_integer (hr.mono (by omega)) rfl (T.glo 17) (fun σ => passAt (takes_of rfl rfl rfl rfl) σ) (a_cons (e_var 0) a_nil)) (e_and1 (e_I (e_cmpD (o_eq' hr.units) ok_eq (e_var 0) (e_var 1) (nomark _))))))))))))
theorem no_Lsame (T : Dl.Fz fa fn xs kds w K mg) : Def P w K mg base 0 (He.ga K "_law_same") ["_law_actual", "_law_due"] (spD ⟨K, true⟩ (Sm.pf_same 0)) := by
  obtain ⟨fd, F⟩ := T.c.def_ 12 (d := df_Lsame) rfl
  exact (Def.zero F (fun _ _ _ _ _ _ us hl => match us, hl with | [_, _], _ => rfl)).imp fun vs H Q E h => by
    obtain ⟨M, ρ, ws, st, k, ex, r, rw, hf, _⟩ := h
    exact (Sm.pf_same0 : ∀ ws st k ex, ¬ (Sm.pf_same 0) ws st k ex) _ _ _ _ hf
theorem all_Lsame (T : Dl.Fz fa fn xs kds w K mg) (D_Lis_integer : Def P w K mg base 1 (He.ga K "_law_is_integer") ["_law_actual"] (spD ⟨K, true⟩ Sm.pf_isint)) : ∀ n : Nat, Def P w K mg base (10 * n) (He.ga K "_law_same") ["_law_actual", "_law_due"] (spD ⟨K, true⟩ (Sm.pf_same n))
  | 0 => (no_Lsame T).mono (by omega)
  | n + 1 => ok_Lsame n T D_Lis_integer (all_Lsame T D_Lis_integer n)
theorem sc_Lwild : FnScope N_Lwild ["_law_pool_here", "_law_size_here"] (defScope s_Lwild) := ⟨rfl, rfl, rfl, by decide +kernel, rfl, by decide +kernel, by decide +kernel⟩
theorem ok_Lwild (T : Dl.Fz fa fn xs kds w K mg) (D_Ltake : Def P w K mg base 2 (He.ga K "_law_take") ["_law_pool_here", "_law_many"] (spD ⟨K, true⟩ pf_take)) : Def P w K mg base 3 (He.ga K "_law_wild") ["_law_pool_here", "_law_size_here"] (spD ⟨K, true⟩ pf_Lwild) := by
  obtain ⟨fd, F⟩ := T.c.def_ 13 (d := df_Lwild) rfl
  refine Def.of (k := 2) (N := N_Lwild) F sc_Lwild (fun _ _ _ _ _ _ us hl => match us, hl with | [_, _], _ => rfl) (spD_len fun ws st k ex h => by unfold pf_Lwild at h; split at h <;> first | rfl | exact h.elim) (fun cdv A outer s H vs Q E hr h => ⟨lS (XN (cxOf (L2.CX P w) P w K mg base N_Lwild df_Lwild.qual df_Lwild.scope (He.ga K "_law_wild") cdv A outer s H E) true) (fun cls d _ H => E cls d H) (t_Lwild), ?_, body_ok (kp := false) (Nm := N_Lwild) r_Lwild h⟩)
  exact (ss_cons (s_asg (ps_set (i := 2) sc_Lwild.nd rfl (Or.inl rfl) (e_lstM ad_nil)))
 (ss_cons (s_asg (ps_set (i := 3) sc_Lwild.nd rfl (Or.inl rfl) (e_I (e_con pe_int (fun _ => rfl)))))
 (ss_cons (s_for (vs := [4]) (gV := (gName 4)) (gok_name (by decide)) (passes_of rfl) rfl (i_rg1 rfl (T.free 5) (pa_cons (e_D (e_call D_Ltake (hr.mono (by decide)) rfl (T.glo 4) (fun σ => passAt (takes_of rfl rfl rfl rfl) σ) (a_cons (e_var 0) (a_cons (e_I (e_con pe_int (fun _ => rfl))) a_nil)))) pa_nil)) (pg_name (i := 4) sc_Lwild.nd rfl (Or.inl rfl))
 (ss_cons (s_asg (ps_set (i := 5) sc_Lwild.nd rfl (Or.inl rfl) (e_I (e_op o_sub ok_sub (e_op o_add' ok_add (e_D (e_var 3)) (e_D (e_call D_Ltake (hr.mono (by decide)) rfl (T.glo 4) (fun σ => passAt (takes_of rfl rfl rfl rfl) σ) (a_cons (e_var 0) (a_cons (e_I (e_con pe_int (fun _ => rfl))) a_nil))))) (e_op o_mul' ok_mul (e_D (e_call D_Ltake (hr.mono (by decide)) rfl (T.glo 4) (fun σ => passAt (takes_of rfl rfl rfl rfl) σ) (a_cons (e_var 0) (a_cons (e_I (e_con pe_int (fun _ => rfl))) a_nil)))) (e_D (e_call D_Ltake (hr.mono (by decide)) rfl (T.glo 4) (fun σ => passAt (takes_of rfl rfl rfl rfl) σ) (a_cons (e_var 0) (a_cons (e_I (e_con pe_int (fun _ => rfl))) a_nil)))))))))
 (ss_cons (s_asg (ps_set (i := 6) sc_Lwild.nd rfl (Or.inl rfl) (e_I (e_op o_sub ok_sub (e_op o_add' ok_add (e_D (e_var 5)) (e_D (e_call D_Ltake (hr.mono (by decide)) rfl (T.glo 4) (fun σ => passAt (takes_of rfl rfl rfl rfl) σ) (a_cons (e_var 0) (a_cons (e_I (e_con pe_int (fun _ => rfl))) a_nil))))) (e_op o_mul' ok_mul (e_D (e_call D_Ltake (hr.mono (by decide)) rfl (T.glo 4) (fun σ => passAt (takes_of rfl rfl rfl rfl) σ) (a_cons (e_var 0) (a_cons (e_I (e_con pe_int (fun _ => rfl))) a_nil)))) (e_D (e_call D_Ltake (hr.mono (by decide)) rfl (T.glo 4) (fun σ => passAt (takes_of rfl rfl rfl rfl) σ) (a_cons (e_var 0) (a_cons (e_I (e_con pe_int (fun _ => rfl))) a_nil)))))))))
 (ss_cons (s_if (t_cmpD (o_eq' hr.units) ok_eq (e_call D_Ltake (hr.mono (by decide)) rfl (T.glo 4) (fun σ => passAt (takes_of rfl rfl rfl rfl) σ) (a_cons (e_var 0) (a_cons (e_I (e_con pe_int (fun _ => rfl))) a_nil))) (e_I (e_con pe_int (fun _ => rfl))) (nomark _)) (ss_one (s_asg (ps_set (i := 6) sc_Lwild.nd rfl (Or.inl rfl) (e_I (e_op o_sub ok_sub (e_op o_add' ok_add (e_D (e_var 1)) (e_D (e_call D_Ltake (hr.mono (by decide)) rfl (T.glo 4) (fun σ => passAt (takes_of rfl rfl rfl rfl) σ) (a_cons (e_var 0) (a_cons (e_I (e_con pe_int (fun _ => rfl))) a_nil))))) (e_con pe_int (fun _ => rfl))))))) ss_nil)
 (ss_cons (s_app (ps_expr (pe_bm PySem.F.plainAttrs_list PySem.F.slot_list_append PySem.F.type_list_append mt_append (e_var 2) (pa_cons (e_tup (ad_cons (e_D (e_var 5)) (ad_cons (e_D (e_var 6)) (ad_cons (e_ix (e_I (e_tup (ad_cons (e_con pe_str (fun _ => rfl)) (ad_cons (e_con pe_str (fun _ => rfl)) (ad_cons (e_con pe_str (fun _ => rfl)) ad_nil))))) (e_D (e_call D_Ltake (hr.mono (by decide)) rfl (T.glo 4) (fun σ => passAt (takes_of rfl rfl rfl rfl) σ) (a_cons (e_var 0) (a_cons (e_I (e_con pe_int (fun _ => rfl))) a_nil))))) ad_nil)))) pa_nil))))
 (ss_one (s_asg (ps_set (i := 3) sc_Lwild.nd rfl (Or.inl rfl) (e_I (e_op o_add' ok_add (e_D (e_var 6)) (e_D (e_call D_Ltake (hr.mono (by decide)) rfl (T.glo 4) (fun σ => passAt (takes_of rfl rfl rfl rfl) σ) (a_cons (e_var 0) (a_cons (e_I (e_con pe_int (fun _ => rfl))) a_nil))))))))))))))
 (ss_one (s_ret (e_var 2))))))
theorem sc_Lwrong : FnScope N_Lwrong ["_law_size_here", "_law_pieces"] (defScope s_Lwrong) := ⟨rfl, rfl, rfl, by decide +kernel, rfl, by decide +kernel, by decide +kernel⟩
theorem ok_Lwrong (T : Dl.Fz fa fn xs kds w K mg) : Def P w K mg base 1 (He.ga K "_law_wrong") ["_law_size_here", "_law_pieces"] (spD ⟨K, true⟩ pf_Lwrong) := by
  obtain ⟨fd, F⟩ := T.c.def_ 14 (d := df_Lwrong) rfl
  refine Def.of (k := 0) (N := N_Lwrong) F sc_Lwrong (fun _ _ _ _ _ _ us hl => match us, hl with | [_, _], _ => rfl) (spD_len fun ws st k ex h => by unfold pf_Lwrong at h; split at h <;> first | rfl | exact h.elim) (fun cdv A outer s H vs Q E hr h => ⟨lS (XN (cxOf (L2.CX P w) P w K mg base N_Lwrong df_Lwrong.qual df_Lwrong.scope (He.ga K "_law_wrong") cdv A outer s H E) true) (fun cls d _ H => E cls d H) (t_Lwrong), ?_, body_ok (kp := false) (Nm := N_Lwrong) r_Lwrong h⟩)
  exact (ss_cons (s_asg (ps_set (i := 2) sc_Lwrong.nd rfl (Or.inl rfl) (e_I (e_un u_neg ok_neg (e_con pe_int (fun _ => rfl))))))
 (ss_cons (s_for (vs := [3]) (gV := (gName 3)) (gok_name (by decide)) (passes_of rfl) rfl (i_rg1 rfl (T.free 5) (pa_cons (e_cb c_lenW ok_len (by rfl) (T.free 1) PySem.boot_len (a_cons (e_var 1) a_nil)) pa_nil)) (pg_name (i := 3) sc_Lwrong.nd rfl (Or.inl rfl))
 (ss_cons (s_asgG (vs := [4, 5, 6]) (gV := (gTup K 3 (gCons (gName 4) (gCons (gName 5) (gCons (gName 6) gNil))))) (gok_tup (gsok_cons (gok_name (by decide)) (gsok_cons (gok_name (by decide)) (gsok_cons (gok_name (by decide)) gsok_nil)))) (ps_asg (e_ix (e_var 1) (e_D (e_var 3))) (pg_tup rfl (pgs_cons (pg_name (i := 4) sc_Lwrong.nd rfl (Or.inl rfl)) (pgs_cons (pg_name (i := 5) sc_Lwrong.nd rfl (Or.inl rfl)) (pgs_cons (pg_name (i := 6) sc_Lwrong.nd rfl (Or.inl rfl)) pgs_nil))))))
 (ss_cons (s_if (PW.pt (w_or (t_cmpD o_lt' ok_lt (e_var 4) (e_I (e_con pe_int (fun _ => rfl))) (nomark _)) (w_or (t_cmpD o_lt' ok_lt (e_var 5) (e_var 4) (nomark _)) (w_or1 (t_cmpD o_gt ok_gt (e_var 5) (e_var 0) (nomark _)))))) (ss_one (s_ret (e_I (e_tup (ad_cons (e_D (e_var 3)) (ad_cons (e_con pe_str (fun _ => rfl)) ad_nil)))))) ss_nil)
 (ss_cons (s_if (t_cmpD o_le' ok_le (e_var 4) (e_var 2) (nomark _)) (ss_one (s_ret (e_I (e_tup (ad_cons (e_D (e_var 3)) (ad_cons (e_con pe_str (fun _ => rfl)) ad_nil)))))) ss_nil)
 (ss_cons (s_if (PW.pt (w_and (t_cmpD (o_eq' hr.units) ok_eq (e_var 4) (e_var 5) (nomark _)) (w_and1 (t_cmpD (o_eq' hr.units) ok_eq (e_var 6) (e_I (e_con pe_str (fun _ => rfl))) (nomark _))))) (ss_one (s_ret (e_I (e_tup (ad_cons (e_D (e_var 3)) (ad_cons (e_con pe_str (fun _ => rfl)) ad_nil)))))) ss_nil)
 (ss_one (s_asg (ps_set (i := 2) sc_Lwrong.nd rfl (Or.inl rfl) (e_var 5)))))))))
 (ss_one (s_ret (e_I (e_con pe_non (fun _ => rfl)))))))
theorem sc_Ltold : FnScope N_Ltold ["_law_text_here", "_law_pieces"] (defScope s_Ltold) := ⟨rfl, rfl, rfl, by decide +kernel, rfl, by decide +kernel, by decide +kernel⟩
theorem ok_Ltold (T : Dl.Fz fa fn xs kds w K mg) (D_check_change : Def P w K mg base 3 (He.ga K "check_change") ["text", "change"] (spD ⟨K, true⟩ pf_check_change)) : Def P w K mg base 5 (He.ga K "_law_told") ["_law_text_here", "_law_pieces"] (spD ⟨K, true⟩ pf_Ltold) := by
  obtain ⟨fd, F⟩ := T.c.def_ 15 (d := df_Ltold) rfl
  refine Def.of (k := 4) (N := N_Ltold) F sc_Ltold (fun _ _ _ _ _ _ us hl => match us, hl with | [_, _], _ => rfl) (spD_len fun ws st k ex h => by unfold pf_Ltold at h; split at h <;> first | rfl | exact h.elim) (fun cdv A outer s H vs Q E hr h => ⟨lS (XN (cxOf (L2.CX P w) P w K mg base N_Ltold df_Ltold.qual df_Ltold.scope (He.ga K "_law_told") cdv A outer s H E) true) (fun cls d _ H => E cls d H) (t_Ltold), ?_, body_ok (kp := false) (Nm := N_Ltold) r_Ltold h⟩)
  exact (ss_cons (s_tryAs (i := 3) (tbl := [("BadChange", true)]) (u := fun a dd c => (sSeq (sIf (dOr (dNot (dTru (dI (dIsX a dd c "BadChange" true (dV 3))))) (dNot (dTru (dI (dIsX a dd c "BadChange" true (dV 3)))))) (sRet (dI (dC (.str "other")))) sNext)
 (sRet (dI (dTup (adCons (dXf a dd c "BadChange" "number" (dV 3)) (adCons (dXf a dd c "BadChange" "reason" (dV 3)) adNil))))))) rfl rfl sc_Ltold.nd rfl rfl ⟨rfl, by decide, .inl (T.glo 2)⟩ (takes_of rfl rfl rfl rfl) (tbl_cons (T.exm 19) tbl_nil) (fun W pn xe tk po => (ss_one (s_asg (ps_set (i := 2) sc_Ltold.nd rfl (Or.inl rfl) (e_call D_check_change (hr.mono (by decide)) rfl (T.glo 18) (fun σ => passAt tk σ) (a_cons (e_var 0) (a_cons (e_var 1) a_nil))))))) (fun a oe cls d pn hz hf dd c hc hd => (ss_cons (s_if (PW.pt (w_or (t_not (t_tru (e_I (e_isX (pe_callB (call_isD (ex_isc (T.more 5)) hz hf) (by rfl) (T.free 10) (by decide +kernel) (pa_cons (e_var 3) (pa_cons (pe_glob (v := .ref (He.ga K "TongueError")) rfl (T.glo 20) rfl) pa_nil))) hc hd (fun _ h => h) (ex_kit (T.more 4)))))) (w_or1 (t_not (t_tru (e_I (e_isX (pe_callB (call_isD (ex_isc (T.more 5)) hz hf) (by rfl) (T.free 10) (by decide +kernel) (pa_cons (e_var 3) (pa_cons (pe_bltn (v := .ty "ValueError") (u := .type "ValueError") (by rfl) (T.free 21) (by decide +kernel) rfl) pa_nil))) hc hd (fun _ h => h) (ex_kitT (T.more 6))))))))) (ss_one (s_ret (e_I (e_con pe_str (fun _ => rfl))))) ss_nil)
 (ss_one (s_ret (e_I (e_tup (ad_cons (e_xf (xfc_of (ex_isc (T.more 5))) (ex_nofld (T.more 2)) hz hf hc hd (e_var 3)) (ad_cons (e_xf (xfc_of (ex_isc (T.more 5))) (ex_nofld (T.more 3)) hz hf hc hd (e_var 3)) ad_nil)))))))))
 (ss_cons (s_if (t_notND (e_var 2)) (ss_one (s_ret (e_I (e_con pe_str (fun _ => rfl))))) ss_nil)
 (ss_one (s_ret (e_I (e_con pe_non (fun _ => rfl)))))))
theorem sc_law : FnScope N_law ["_law_script"] (defScope s_law) := ⟨rfl, rfl, rfl, by decide +kernel, rfl, by decide +kernel, by decide +kernel⟩
theorem ok_law (T : Dl.Fz fa fn xs kds w K mg) (D_Lpool : Def P w K mg base 1 (He.ga K "_law_pool") ["_law_script"] (spD ⟨K, true⟩ pf_pool)) (D_Ltext : Def P w K mg base 3 (He.ga K "_law_text") ["_law_pool_here", "_law_size_here"] (spD ⟨K, true⟩ pf_Ltext)) (D_Lsize : Def P w K mg base 3 (He.ga K "_law_size") ["_law_pool_here"] (spD ⟨K, true⟩ pf_Lsize)) (D_Lchange : Def P w K mg base 4 (He.ga K "_law_change") ["_law_pool_here", "_law_text_here"] (spD ⟨K, true⟩ pf_Lchange)) (D_Lwild : Def P w K mg base 3 (He.ga K "_law_wild") ["_law_pool_here", "_law_size_here"] (spD ⟨K, true⟩ pf_Lwild)) (D_Lafter : Def P w K mg base 2 (He.ga K "_law_after") ["_law_text_here", "_law_change_here"] (spD ⟨K, true⟩ pf_Lafter)) (D_Ltold : Def P w K mg base 5 (He.ga K "_law_told") ["_law_text_here", "_law_pieces"] (spD ⟨K, true⟩ pf_Ltold)) (D_Lsame : Def P w K mg base 120 (He.ga K "_law_same") ["_law_actual", "_law_due"] (spD ⟨K, true⟩ (Sm.pf_same 12))) (D_apply_change : Def P w K mg base 1 (He.ga K "apply_change") ["text", "change"] (spD ⟨K, true⟩ pf_apply_change)) (D_Lwrong : Def P w K mg base 1 (He.ga K "_law_wrong") ["_law_size_here", "_law_pieces"] (spD ⟨K, true⟩ pf_Lwrong)) {fd : FuncData} (F : FunD K "law" "law" (defArgs s_law) (defBody s_law) (defScope s_law) [] [] (He.ga K "law") fd) : Dl.Grd.FnG P w K mg base (L2.CX P w) 130 (He.ga K "law") fd ["_law_script"] (Dl.sp_law K) := by
  refine Dl.Grd.fn_byG (k := 129) (N := N_law) F sc_law (fun vs H Q E h => by unfold Dl.sp_law at h; split at h <;> first | rfl | exact h.elim) (fun cdv A outer s H vs Q E HG hr h => ⟨lS (XN (cxOf (L2.CX P w) P w K mg base N_law "law" (defScope s_law) (He.ga K "law") cdv A outer s H E) true) (fun cls d _ H => E cls d H) (t_law), ?_, body_ok (kp := false) (Nm := N_law) r_law (law_ok (N := ⟨K, true⟩) h)⟩)
  exact (ss_cons (s_asg (ps_set (i := 1) sc_law.nd rfl (Or.inl rfl) (e_call D_Lpool (hr.mono (by decide)) rfl (T.glo 22) (fun σ => passAt (takes_of rfl rfl rfl rfl) σ) (a_cons (e_var 0) a_nil))))
 (ss_cons (s_asg (ps_set (i := 2) sc_law.nd rfl (Or.inl rfl) (e_call D_Ltext (hr.mono (by decide)) rfl (T.glo 8) (fun σ => passAt (takes_of rfl rfl rfl rfl) σ) (a_cons (e_var 1) (a_cons (e_call D_Lsize (hr.mono (by decide)) rfl (T.glo 23) (fun σ => passAt (takes_of rfl rfl rfl rfl) σ) (a_cons (e_var 1) a_nil)) a_nil)))))
 (ss_cons (s_asg (ps_set (i := 3) sc_law.nd rfl (Or.inl rfl) (e_call D_Lchange (hr.mono (by decide)) rfl (T.glo 24) (fun σ => passAt (takes_of rfl rfl rfl rfl) σ) (a_cons (e_var 1) (a_cons (e_var 2) a_nil)))))
 (ss_cons (s_asg (ps_set (i := 4) sc_law.nd rfl (Or.inl rfl) (e_call D_Lwild (hr.mono (by decide)) rfl (T.glo 25) (fun σ => passAt (takes_of rfl rfl rfl rfl) σ) (a_cons (e_var 1) (a_cons (e_I (e_cb c_lenW ok_len (by rfl) (T.free 1) PySem.boot_len (a_cons (e_var 2) a_nil))) a_nil)))))
 (ss_cons (s_asg (ps_set (i := 5) sc_law.nd rfl (Or.inl rfl) (e_I (e_cb (c_repr (by exact HG) (hr.mono (by decide))) ok_repr (by rfl) (T.free 26) (by decide +kernel) (a_cons (e_I (e_tup (ad_cons (e_D (e_var 2)) (ad_cons (e_D (e_var 3)) (ad_cons (e_D (e_var 4)) ad_nil))))) a_nil)))))
 (ss_cons (s_asg (ps_set (i := 6) sc_law.nd rfl (Or.inl rfl) (e_call D_Lafter (hr.mono (by decide)) rfl (T.glo 27) (fun σ => passAt (takes_of rfl rfl rfl rfl) σ) (a_cons (e_var 2) (a_cons (e_var 3) a_nil)))))
 (ss_cons (s_if (PW.pt (w_or (t_notND (e_call D_Ltold (hr.mono (by decide)) rfl (T.glo 28) (fun σ => passAt (takes_of rfl rfl rfl rfl) σ) (a_cons (e_var 2) (a_cons (e_var 3) a_nil)))) (w_or1 (t_notND (e_call D_Ltold (hr.mono (by decide)) rfl (T.glo 28) (fun σ => passAt (takes_of rfl rfl rfl rfl) σ) (a_cons (e_var 2) (a_cons (e_I (e_cty call_tuple_of ok_tuple (by rfl) (T.free 12) (by decide +kernel) (a_cons (e_var 3) a_nil))) a_nil))))))) (ss_one (s_ret (e_I (e_con pe_bl (fun _ => rfl))))) ss_nil)
 (ss_cons (s_if (PW.pt (w_or (t_not (t_tru (e_call D_Lsame (hr.mono (by decide)) rfl (T.glo 13) (fun σ => passAt (takes_of rfl rfl rfl rfl) σ) (a_cons (e_call D_apply_change (hr.mono (by decide)) rfl (T.glo 29) (fun σ => passAt (takes_of rfl rfl rfl rfl) σ) (a_cons (e_var 2) (a_cons (e_var 3) a_nil))) (a_cons (e_var 6) a_nil))))) (w_or1 (t_not (t_tru (e_call D_Lsame (hr.mono (by decide)) rfl (T.glo 13) (fun σ => passAt (takes_of rfl rfl rfl rfl) σ) (a_cons (e_call D_apply_change (hr.mono (by decide)) rfl (T.glo 29) (fun σ => passAt (takes_of rfl rfl rfl rfl) σ) (a_cons (e_var 2) (a_cons (e_I (e_cty call_tuple_of ok_tuple (by rfl) (T.free 12) (by decide +kernel) (a_cons (e_var 3) a_nil))) a_nil))) (a_cons (e_var 6) a_nil)))))))) (ss_one (s_ret (e_I (e_con pe_bl (fun _ => rfl))))) ss_nil)
 (ss_cons (s_if (t_not (t_tru (e_call D_Lsame (hr.mono (by decide)) rfl (T.glo 13) (fun σ => passAt (takes_of rfl rfl rfl rfl) σ) (a_cons (e_call D_Ltold (hr.mono (by decide)) rfl (T.glo 28) (fun σ => passAt (takes_of rfl rfl rfl rfl) σ) (a_cons (e_var 2) (a_cons (e_var 4) a_nil))) (a_cons (e_call D_Lwrong (hr.mono (by decide)) rfl (T.glo 30) (fun σ => passAt (takes_of rfl rfl rfl rfl) σ) (a_cons (e_I (e_cb c_lenW ok_len (by rfl) (T.free 1) PySem.boot_len (a_cons (e_var 2) a_nil))) (a_cons (e_var 4) a_nil))) a_nil))))) (ss_one (s_ret (e_I (e_con pe_bl (fun _ => rfl))))) ss_nil)
 (ss_one (s_ret (e_I (e_cmpD (o_eq' hr.units) ok_eq (e_I (e_cb (c_repr (by exact HG) (hr.mono (by decide))) ok_repr (by rfl) (T.free 26) (by decide +kernel) (a_cons (e_I (e_tup (ad_cons (e_D (e_var 2)) (ad_cons (e_D (e_var 3)) (ad_cons (e_D (e_var 4)) ad_nil))))) a_nil))) (e_var 5) (nomark _))))))))))))))
theorem facts {h : Heap} {f : Addr} (X : K.In h) (G : h.Ns mainGlobals mg) (hfa : mg ("law" : Str) = some (.ref f)) (c : He.SaysX fa fn (Dl.tabD kds) [] exB w h K) :
    ∃ fd : FuncData, (∀ (s : Shared) (v : Value), BindsTo s fd ⟨[v], []⟩ [("_law_script", v)]) ∧ ∀ base : Heap, K.In base → base.Ns mainGlobals mg → Dl.Grd.FnG P w K mg base CX0 130 f fd ["_law_script"] (Dl.sp_law K) := by
  have T : Dl.Fz fa fn xs kds w K mg := ⟨⟨⟨⟨h, X, G⟩, c.t.d⟩, (He.ba c.more).1⟩, gds_of c.t (He.ba c.more).2⟩
  obtain ⟨fd, F⟩ := c.t.d.def_ 16 (d := df_law) rfl
  have e := hfa.symm.trans (T.glo 31)
  cases e
  have b := FunD.bindsA (ps := ["_law_script"]) F fun _ _ _ _ _ _ us hl => match us, hl with | [_], _ => rfl
  refine ⟨fd, fun s v => b s [v] rfl, fun base _ _ => ?_⟩
  have D_BadChange_init : Def P w K mg base 1 (He.ma K (He.ga K "BadChange") "__init__") ["self", "number", "reason"] (sp_xinit2 K "number" "reason") := ok_BadChange_init T
  have D_check_change : Def P w K mg base 3 (He.ga K "check_change") ["text", "change"] (spD ⟨K, true⟩ pf_check_change) := ok_check_change T D_BadChange_init
  have D_apply_change : Def P w K mg base 1 (He.ga K "apply_change") ["text", "change"] (spD ⟨K, true⟩ pf_apply_change) := ok_apply_change T
  have O_Lpool : Def P w K mg base 1 (He.ga K "_law_pool") ["_law_script"] (sp_pool K) := ok_Lpool T
  have D_Lpool : Def P w K mg base 1 (He.ga K "_law_pool") ["_law_script"] (spD ⟨K, true⟩ pf_pool) := O_Lpool.imp fun vs H Q E h => pool_ok h
  have O_Ltake : Def P w K mg base 2 (He.ga K "_law_take") ["_law_pool_here", "_law_many"] (sp_take 2) := ok_Ltake 1 T (ok_Ltake 0 T ((no_Ltake T).imp fun vs H Q E h => by unfold sp_take at h; split at h; exact absurd h.1 (by decide); exact h))
  have D_Ltake : Def P w K mg base 2 (He.ga K "_law_take") ["_law_pool_here", "_law_many"] (spD ⟨K, true⟩ pf_take) := O_Ltake.imp fun vs H Q E h => take_ok h
  have D_Lchar : Def P w K mg base 1 (He.ga K "_law_char") ["_law_cell"] (spD ⟨K, true⟩ pf_Lchar) := ok_Lchar T
  have D_Ltext : Def P w K mg base 3 (He.ga K "_law_text") ["_law_pool_here", "_law_size_here"] (spD ⟨K, true⟩ pf_Ltext) := ok_Ltext T D_Ltake D_Lchar
  have D_Lsize : Def P w K mg base 3 (He.ga K "_law_size") ["_law_pool_here"] (spD ⟨K, true⟩ pf_Lsize) := ok_Lsize T D_Ltake
  have D_Lchange : Def P w K mg base 4 (He.ga K "_law_change") ["_law_pool_here", "_law_text_here"] (spD ⟨K, true⟩ pf_Lchange) := ok_Lchange T D_Ltake D_Ltext
  have D_Lmarked : Def P w K mg base 1 (He.ga K "_law_marked") ["_law_text_here", "_law_change_here"] (spD ⟨K, true⟩ pf_Lmarked) := ok_Lmarked T
  have D_Lafter : Def P w K mg base 2 (He.ga K "_law_after") ["_law_text_here", "_law_change_here"] (spD ⟨K, true⟩ pf_Lafter) := ok_Lafter T D_Lmarked
  have D_Lis_integer : Def P w K mg base 1 (He.ga K "_law_is_integer") ["_law_actual"] (spD ⟨K, true⟩ Sm.pf_isint) := ok_Lis_integer T
  have D_Lsame : Def P w K mg base 120 (He.ga K "_law_same") ["_law_actual", "_law_due"] (spD ⟨K, true⟩ (Sm.pf_same 12)) := all_Lsame T D_Lis_integer 12
  have D_Lwild : Def P w K mg base 3 (He.ga K "_law_wild") ["_law_pool_here", "_law_size_here"] (spD ⟨K, true⟩ pf_Lwild) := ok_Lwild T D_Ltake
  have D_Lwrong : Def P w K mg base 1 (He.ga K "_law_wrong") ["_law_size_here", "_law_pieces"] (spD ⟨K, true⟩ pf_Lwrong) := ok_Lwrong T
  have D_Ltold : Def P w K mg base 5 (He.ga K "_law_told") ["_law_text_here", "_law_pieces"] (spD ⟨K, true⟩ pf_Ltold) := ok_Ltold T D_check_change
  exact Dl.Grd.fn_to0G (ok_law T D_Lpool D_Ltext D_Lsize D_Lchange D_Lwild D_Lafter D_Ltold D_Lsame D_apply_change D_Lwrong F) (fun _ _ _ _ h => h)
end
end Dl.Ka
open PySem PySem.W PySem.Calls PyProof.Rows
set_option maxRecDepth 100000 in
set_option maxHeartbeats 0 in
theorem PySem.Challenge.cw_tongues_k01_changes_holds : PySem.Challenge.rw_tongues_k01_changes.Holds := by
  w_on; o_law
  refine HandSHeadRun.head_any (r := OpenLaw.row PySem.Challenge.rw_tongues_k01_changes) (q := view (OpenLaw.row PySem.Challenge.rw_tongues_k01_changes).prog [20]) (H := Co.KaF.hk) (ob := Co.KaF.ob) (M := 9000) (loose := Co.KaF.loose) (d := HandSHeadRun.topDef (OpenLaw.row PySem.Challenge.rw_tongues_k01_changes).prog 20) (kwd := []) Co.KaF.ob_eq
    (by kernel_rfl) (fun s => by kernel_rfl) Co.KaF.run (by kernel_rfl) (by kernel_rfl) (by kernel_rfl) (by rfl) (by first | assumption | decide +kernel) (by decide +kernel) ⟨rfl, rfl, rfl, rfl, rfl, by decide +kernel⟩ ?hw ?hc
  case hw => w_witness2
  case hc =>
    refine Dl.Grd.walkG (l := PySem.Challenge.rw_tongues_k01_changes) (n := 63) (k := 130) (x := "_law_script") (CX := L2.CX0) rfl (by decide) (by kernel_rfl) ⟨rfl, by decide, by decide⟩ ?F (fun _ _ _ _ z => z)
    intro w mg fa h Y G hmg0
    obtain ⟨K, KX, c⟩ := Y
    have hmg : mg ("law" : PySem.Str) = some (.ref fa) := by
      have e : (HandSHeadRun.topDef (OpenLaw.row PySem.Challenge.rw_tongues_k01_changes).prog 20).name = ("law" : PySem.Str) := by kernel_rfl
      rw [← e]
      exact hmg0
    obtain ⟨fd, hb, hF⟩ := Dl.Ka.facts (P := (PySem.Challenge.rw_tongues_k01_changes).prog) (w := w) KX G hmg c
    exact ⟨K, fd, Dl.sp_law K, KX, hb, fun H a ns hl _ hS => ⟨ns, hS, hl, fun _ => rfl⟩, hF⟩
end
